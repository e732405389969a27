/- Texts of this seat, joined. -/
import Derived.Test.YtiionicikdnnpaaGreatDoorPAJ
set_option maxHeartbeats 16000000
set_option maxRecDepth 100000
set_option linter.unusedVariables false
set_option linter.unusedSimpArgs false
set_option linter.constructorNameAsVariable false
namespace Go.Proofs.YtiionicikdnnpaaGreatDoor
open Go.RowKit
theorem TW{p:Prop}(h:p:=by
 refine zq 20 (.bool false) rfl ?_;refine zq 21 (.bool false) rfl ?_;try simp only[zn]
 refine wpAnyH_done VT ?_ _;have rR:=zh (aA HW.out qM);clear hS qM rU p0;go_wp2_with fail;go_roundw;case rel=>exact⟨q+1,VS,WH,rR,tQ⟩
 case measure=>simp[intOf];omega):p:=h
theorem T4{p:Prop}(h:p:=by
 try simp only[zn]
 refine wpAnyH_done VT ?_ _;go_wp2_with fail;go_ret
 exact⟨aF WI,aA HW.out qM⟩):p:=h
theorem VK{p:Prop}(h:p:=by
 go_wp2_with fail;go_ret
 exact⟨aF WI,HW.out⟩):p:=h
theorem rasc_any(l:List bA){N:Nat->Prop}{v:Value}{w:World}(hv:aO 1 eT N w v l):
  Calls Tryz.prog 165 #[v] w fun e w'=>e=.returned (.bool (cO none l))/\Below w.heap.size w w':=by
 obtain⟨a1,c1,rfl,vD,vC,qB⟩:=hv.at;have HA:=zh qB;clear qB hv;go_enter Tryz.func165,Tryz.ntmps165;go_wp2_with fail;go_loopw [3] (fun iv wr=>∃q:Nat,q<=l.length/\iv=.int .i64 (q:Int)/\Hid (Below w.heap.size w wr)/\Hid (cO none l=cO (kL l q) (l.drop q))) (fun iv _=>l.length-(intOf iv).toNat)
 case atStart=>exact⟨0,Nat.zero_le _,rfl,zh (Below.refl _ _),zh rfl⟩
 case round=>
  obtain⟨q,hq,rfl,HW,HT⟩:=hrel;rename World=>wr
  by_cases pS:q<l.length
  ·obtain⟨x,hx,-⟩:=getElem?_of_lt pS;have hqq:(0:Int)<=(q:Int)/\(q:Int)<(l.length:Int):=VS;have rN:=zh (HT.out.trans (namesOk_at hx (kL l q)));(have hpv:kL l (q+1)=some x:=by unfold kL;rw[if_neg VS,Nat.add_sub_cancel,hx]);obtain⟨b1,o1,rfl,-,uG,⟨rfl,yA⟩,-,pO⟩:=HA.out q x hx;have p0:wr.cell? ⟨b1,o1+q,none⟩=some (.string x):=XH;clear pO
   cases vG:aP x with
   |false=>
    have HF:Hid (cO none l=false):=zh (by rw[rN.out,vG];rfl);go_wp2_with fail;refine wp_region_held_drew (S:=fun W=>Below wr.heap.size wr W) VT (aE wr) fun hS=>?_;refine zq 0 (.slice (some ⟨b1,o1,none⟩) l.length c1) rfl ?_;refine zq 1 (.int .i64 (q:Int)) rfl ?_;refine zq 2 (.pointer (some ⟨b1,o1+q,none⟩)) rfl ?_;refine zt 3 (.string x) rfl (fun W hW=>WO) ?_;(try simp only[zn]);refine zr 4 rfl (fun K hK=>?_);(try simp only[z1,z2,z3]);go_simp;refine(fV x _ yA).mono ?_;rintro e w8 ⟨rfl,rU⟩;rw[vG];have qM:=aA (aE wr) rU;refine hK.out _ _ qM (fun hS=>?_);clear hK K;refine zq 5 (.bool true) rfl ?_;refine zq 6 (.bool true) rfl ?_;refine zu 7 rfl ?_;refine zu 8 rfl ?_;refine zu 9 rfl ?_;refine zu 10 rfl ?_;refine zu 11 rfl ?_;refine zu 12 rfl ?_;refine zu 13 rfl ?_;refine zu 14 rfl ?_;refine zu 15 rfl ?_;refine zu 16 rfl ?_;refine zu 17 rfl ?_;refine zu 18 rfl ?_;refine zu 19 rfl ?_;refine zu 20 rfl ?_;refine zq 21 (.bool true) rfl ?_;exact T4
   |true=>
    by_cases h0:q=0
    ·clear hx;have H0:=zh h0;have tQ:Hid (cO none l=cO (kL l (q+1)) (l.drop (q+1))):=zh (by rw[rN.out,vG,hpv];simp[kL,h0]);clear h0;go_wp2_with fail;refine wp_region_held_drew (S:=fun W=>Below wr.heap.size wr W) VT (aE wr) fun hS=>?_;refine zq 0 (.slice (some ⟨b1,o1,none⟩) l.length c1) rfl ?_;refine zq 1 (.int .i64 (q:Int)) rfl ?_;refine zq 2 (.pointer (some ⟨b1,o1+q,none⟩)) rfl ?_;refine zt 3 (.string x) rfl (fun W hW=>WO) ?_;(try simp only[zn]);refine zr 4 rfl (fun K hK=>?_);(try simp only[z1,z2,z3]);go_simp;refine(fV x _ yA).mono ?_;rintro e w8 ⟨rfl,rU⟩;rw[vG];have qM:=aA (aE wr) rU;refine hK.out _ _ qM (fun hS=>?_);clear hK K;refine zq 5 (.bool false) rfl ?_;refine zq 6 (.bool false) rfl ?_;refine zq 7 (.int .i64 (q:Int)) rfl ?_;refine zt 8 (.bool false) rfl (fun W hW=>by have h0:=H0.out;go_simp) ?_;refine zq 9 (.bool false) rfl ?_;refine zu 10 rfl ?_;refine zu 11 rfl ?_;refine zu 12 rfl ?_;refine zu 13 rfl ?_;refine zu 14 rfl ?_;refine zu 15 rfl ?_;refine zu 16 rfl ?_;refine zu 17 rfl ?_;refine zu 18 rfl ?_;refine zu 19 rfl ?_;exact TW
    obtain⟨y,hy,-⟩:=getElem?_of_lt (l:=l) (k:=q-1) VS;obtain⟨b2,o2,eb,-,cs',⟨rfl,-⟩,-,KW⟩:=HA.out (q-1) y hy;cases eb;(have hp0:wr.cell? ⟨b1,o1+(q-1),none⟩=some (.string y):=by have h:=aB HW.out (KW 0 _ rfl);simpa using h);(have hpq:kL l q=some y:=by unfold kL;rw[if_neg h0,hy]);rw[hpq] at rN;have wO:(0:Int)<(q:Int):=VS;have hi0n:0<q:=VS;have hi4:¬(q:Int)<1:=VS;have LR:(0:Int)<=(q:Int)-1:=VS;have PN:(q:Int)-1<(l.length:Int):=VS;have PM:((q:Int)-1).toNat=q-1:=VS;have hi5:IntKind.i64.wrap ((q:Int)-1)=(q:Int)-1:=dK VS VS;have HPv:=zh hpv;clear KW hx hy hpq hpv h0
    cases BW:Op.bytesLess y.toList x.toList with
    |false=>
     have HF:Hid (cO none l=false):=zh (by rw[rN.out,vG];simp[gtB_less,BW]);(have DN:∀W,(binOp .geq 9 (.string y) (.string x)).run Tryz.prog W=.ok (.bool true) W:=fun W=>by rw[rp_geq_str,BW];rfl);go_wp2_with fail;refine wp_region_held_drew (S:=fun W=>Below wr.heap.size wr W) VT (aE wr) fun hS=>?_;refine zq 0 (.slice (some ⟨b1,o1,none⟩) l.length c1) rfl ?_;refine zq 1 (.int .i64 (q:Int)) rfl ?_;refine zq 2 (.pointer (some ⟨b1,o1+q,none⟩)) rfl ?_;refine zt 3 (.string x) rfl (fun W hW=>WO) ?_;(try simp only[zn]);refine zr 4 rfl (fun K hK=>?_);(try simp only[z1,z2,z3]);go_simp;refine(fV x _ yA).mono ?_;rintro e w8 ⟨rfl,rU⟩;rw[vG];have qM:=aA (aE wr) rU;refine hK.out _ _ qM (fun hS=>?_);clear hK K;refine zq 5 (.bool false) rfl ?_;refine zq 6 (.bool false) rfl ?_;refine zq 7 (.int .i64 (q:Int)) rfl ?_;refine zq 8 (.bool true) rfl ?_;refine zq 9 (.bool true) rfl ?_;refine zq 10 (.slice (some ⟨b1,o1,none⟩) l.length c1) rfl ?_;refine zq 11 (.int .i64 (q:Int)) rfl ?_;refine zq 12 (.int .i64 ((q:Int)-1)) rfl ?_;refine zq 13 (.pointer (some ⟨b1,o1+(q-1),none⟩)) rfl ?_;refine zt 14 (.string y) rfl (fun W hW=>by have q1:=aB hW hp0;go_simp) ?_;refine zq 15 (.slice (some ⟨b1,o1,none⟩) l.length c1) rfl ?_;refine zq 16 (.int .i64 (q:Int)) rfl ?_;refine zq 17 (.pointer (some ⟨b1,o1+q,none⟩)) rfl ?_;refine zt 18 (.string x) rfl (fun W hW=>WO) ?_;refine zq 19 (.bool true) rfl ?_;refine zq 20 (.bool true) rfl ?_;refine zq 21 (.bool true) rfl ?_;exact T4
    |true=>
     have tQ:Hid (cO none l=cO (kL l (q+1)) (l.drop (q+1))):=zh (by rw[rN.out,vG,HPv.out];simp[gtB_less,BW]);(have DN:∀W,(binOp .geq 9 (.string y) (.string x)).run Tryz.prog W=.ok (.bool false) W:=fun W=>by rw[rp_geq_str,BW];rfl);go_wp2_with fail;refine wp_region_held_drew (S:=fun W=>Below wr.heap.size wr W) VT (aE wr) fun hS=>?_;refine zq 0 (.slice (some ⟨b1,o1,none⟩) l.length c1) rfl ?_;refine zq 1 (.int .i64 (q:Int)) rfl ?_;refine zq 2 (.pointer (some ⟨b1,o1+q,none⟩)) rfl ?_;refine zt 3 (.string x) rfl (fun W hW=>WO) ?_;(try simp only[zn]);refine zr 4 rfl (fun K hK=>?_);(try simp only[z1,z2,z3]);go_simp;refine(fV x _ yA).mono ?_;rintro e w8 ⟨rfl,rU⟩;rw[vG];have qM:=aA (aE wr) rU;refine hK.out _ _ qM (fun hS=>?_);clear hK K;refine zq 5 (.bool false) rfl ?_;refine zq 6 (.bool false) rfl ?_;refine zq 7 (.int .i64 (q:Int)) rfl ?_;refine zq 8 (.bool true) rfl ?_;refine zq 9 (.bool true) rfl ?_;refine zq 10 (.slice (some ⟨b1,o1,none⟩) l.length c1) rfl ?_;refine zq 11 (.int .i64 (q:Int)) rfl ?_;refine zq 12 (.int .i64 ((q:Int)-1)) rfl ?_;refine zq 13 (.pointer (some ⟨b1,o1+(q-1),none⟩)) rfl ?_;refine zt 14 (.string y) rfl (fun W hW=>by have q1:=aB hW hp0;go_simp) ?_;refine zq 15 (.slice (some ⟨b1,o1,none⟩) l.length c1) rfl ?_;refine zq 16 (.int .i64 (q:Int)) rfl ?_;refine zq 17 (.pointer (some ⟨b1,o1+q,none⟩)) rfl ?_;refine zt 18 (.string x) rfl (fun W hW=>WO) ?_;refine zq 19 (.bool false) rfl ?_;exact TW
  have HF:Hid (cO none l=true):=zh (by rw[HT.out,List.drop_of_length_le VS];cases kL l q<;>rfl);exact VK
theorem aO.pre{α:Type}{k:Nat}{enc:(Nat->Prop)->World->α->List Value->Prop}{N:Nat->Prop}{w:World}{a:Option Addr}{c:Nat}{l:List α}(h:aO k enc N w (.slice a l.length c) l){q:Nat}(hq:q<=l.length):aO k enc N w (.slice a q c) (l.take q):=by
 obtain⟨a',c',e,h1,h2,h3⟩:=h;cases e;refine⟨a,c,by rw[List.length_take,Nat.min_eq_left hq],by rw[List.length_take];omega,h2,fun pP=>?_⟩;obtain⟨b,o,ha,hn,hc⟩:=h3 (fun e=>pP (by rw[e];simp));refine⟨b,o,ha,hn,fun i x hx=>?_⟩;rw[List.getElem?_take] at hx;split at hx
 ·exact hc i x hx
 cases hx
theorem uses_at{l:List bA}{q:Nat}{x:bA}(hx:l[q]? =some x):bM (l.drop q) (l.take q).reverse=if((l.take q).any fun y=>decide (y=x))|| !aP x then false else bM (l.drop (q+1)) (l.take (q+1)).reverse:=by
 obtain⟨hk,he⟩:=Yb.1 hx;have h1:(l.take (q+1)).reverse=x::(l.take q).reverse:=by rw[List.take_add_one,hx];simp
 rw[List.drop_eq_getElem_cons hk,he,bM,h1,List.any_reverse]
theorem findL_neg(l:List bA)(s:bA):(kR l s<0->(l.any fun x=>decide (x=s))=false)/\(¬kR l s<0->(l.any fun x=>decide (x=s))=true):=by
 have h:=(findL_any l s).1;constructor
 ·intro h1;rw[decide_eq_true h1] at h;simpa using h.symm
 intro h1;rw[decide_eq_false h1] at h;simpa using h.symm
theorem runiq_any(l:List bA){N:Nat->Prop}{v:Value}{w:World}(hv:aO 1 eT N w v l):
  Calls Tryz.prog 82 #[v] w fun e w'=>e=.returned (.bool (bM l []))/\Below w.heap.size w w':=by
 obtain⟨a1,c1,rfl,vD,vC,qB⟩:=hv.at;have HA:=zh qB;have HV:=zh hv;clear qB hv;go_enter Tryz.func82,Tryz.ntmps82;go_wp2_with fail;go_loopw [3] (fun iv wr=>∃q:Nat,q<=l.length/\iv=.int .i64 (q:Int)/\Hid (Below w.heap.size w wr)/\Hid (bM l []=bM (l.drop q) (l.take q).reverse)) (fun iv _=>l.length-(intOf iv).toNat)
 case atStart=>exact⟨0,Nat.zero_le _,rfl,zh (Below.refl _ _),zh rfl⟩
 case round=>
  obtain⟨q,hq,rfl,HW,HT⟩:=hrel;rename World=>wr
  by_cases pS:q<l.length
  ·obtain⟨x,hx,-⟩:=getElem?_of_lt pS;have hqq:(0:Int)<=(q:Int)/\(q:Int)<(l.length:Int):=VS;have hqc:¬c1<q:=VS;have rN:=zh (HT.out.trans (uses_at hx));have zC:=zh (fun W(hb:Below wr.heap.size wr W)=>aO.pre (HV.out.moves aT (aK.later (aA HW.out hb)) VU) hq);obtain⟨b1,o1,rfl,-,uG,⟨rfl,yA⟩,-,pO⟩:=HA.out q x hx;have p0:wr.cell? ⟨b1,o1+q,none⟩=some (.string x):=XH;clear pO hx
   cases vG:aP x with
   |false=>
    have HF:Hid (bM l []=false):=zh (by rw[rN.out,vG];simp);go_wp2_with fail;refine wp_region_held_drew (S:=fun W=>Below wr.heap.size wr W) VT (aE wr) fun hS=>?_;refine zq 0 (.slice (some ⟨b1,o1,none⟩) l.length c1) rfl ?_;refine zq 1 (.int .i64 (q:Int)) rfl ?_;refine zq 2 (.pointer (some ⟨b1,o1+q,none⟩)) rfl ?_;refine zt 3 (.string x) rfl (fun W hW=>WO) ?_;(try simp only[zn]);refine zr 4 rfl (fun K hK=>?_);(try simp only[z1,z2,z3]);go_simp;refine(fV x _ yA).mono ?_;rintro e w8 ⟨rfl,rU⟩;rw[vG];have qM:=aA (aE wr) rU;refine hK.out _ _ qM (fun hS=>?_);clear hK K;refine zq 5 (.bool true) rfl ?_;refine zq 6 (.bool true) rfl ?_;refine zu 7 rfl ?_;refine zu 8 rfl ?_;refine zu 9 rfl ?_;refine zu 10 rfl ?_;refine zu 11 rfl ?_;refine zu 12 rfl ?_;refine zu 13 rfl ?_;refine zu 14 rfl ?_;refine zu 15 rfl ?_;refine zq 16 (.bool true) rfl ?_;exact T4
   |true=>
    have HFn:=zh (findL_neg (l.take q) x);by_cases hf:kR (l.take q) x<0
    ·have tQ:Hid (bM l []=bM (l.drop (q+1)) (l.take (q+1)).reverse):=zh (by rw[rN.out,vG,HFn.out.1 hf];rfl);clear HFn;go_wp2_with fail;refine wp_region_held_drew (S:=fun W=>Below wr.heap.size wr W) VT (aE wr) fun hS=>?_;refine zq 0 (.slice (some ⟨b1,o1,none⟩) l.length c1) rfl ?_;refine zq 1 (.int .i64 (q:Int)) rfl ?_;refine zq 2 (.pointer (some ⟨b1,o1+q,none⟩)) rfl ?_;refine zt 3 (.string x) rfl (fun W hW=>WO) ?_;(try simp only[zn]);refine zr 4 rfl (fun K hK=>?_);(try simp only[z1,z2,z3]);go_simp;refine(fV x _ yA).mono ?_;rintro e w8 ⟨rfl,rU⟩;rw[vG];have qM:=aA (aE wr) rU;refine hK.out _ _ qM (fun hS=>?_);clear hK K;refine zq 5 (.bool false) rfl ?_;refine zq 6 (.bool false) rfl ?_;refine zq 7 (.slice (some ⟨b1,o1,none⟩) l.length c1) rfl ?_;refine zq 8 (.int .i64 (q:Int)) rfl ?_;refine zq 9 (.slice (some ⟨b1,o1,none⟩) q c1) rfl ?_;refine zq 10 (.slice (some ⟨b1,o1,none⟩) l.length c1) rfl ?_;refine zq 11 (.int .i64 (q:Int)) rfl ?_;refine zq 12 (.pointer (some ⟨b1,o1+q,none⟩)) rfl ?_;refine zt 13 (.string x) rfl (fun W hW=>WO) ?_;(try simp only[zn]);refine zr 14 rfl (fun K hK=>?_);(try simp only[z1,z2,z3]);go_simp;refine(rfind_any (l.take q) x (zC.out _ qM)).mono ?_;rintro e w9 ⟨rfl,B0⟩;have rT:=aA qM B0;refine hK.out _ _ rT (fun hS=>?_);clear hK K;(try simp only[zn]);generalize kR (l.take q) x=fz at *;refine zq 15 (.bool false) rfl ?_;refine zq 16 (.bool false) rfl ?_;(try simp only[zn]);refine wpAnyH_done VT ?_ _;have DB:=zh (aA HW.out rT);clear hS qM rU rT B0 p0;go_wp2_with fail;go_roundw;(case rel=>exact⟨q+1,VS,WH,DB,tQ⟩);case measure=>simp[intOf];omega
    have HF:Hid (bM l []=false):=zh (by rw[rN.out,HFn.out.2 hf];rfl);clear HFn;go_wp2_with fail;refine wp_region_held_drew (S:=fun W=>Below wr.heap.size wr W) VT (aE wr) fun hS=>?_;refine zq 0 (.slice (some ⟨b1,o1,none⟩) l.length c1) rfl ?_;refine zq 1 (.int .i64 (q:Int)) rfl ?_;refine zq 2 (.pointer (some ⟨b1,o1+q,none⟩)) rfl ?_;refine zt 3 (.string x) rfl (fun W hW=>WO) ?_;(try simp only[zn]);refine zr 4 rfl (fun K hK=>?_);(try simp only[z1,z2,z3]);go_simp;refine(fV x _ yA).mono ?_;rintro e w8 ⟨rfl,rU⟩;rw[vG];have qM:=aA (aE wr) rU;refine hK.out _ _ qM (fun hS=>?_);clear hK K;refine zq 5 (.bool false) rfl ?_;refine zq 6 (.bool false) rfl ?_;refine zq 7 (.slice (some ⟨b1,o1,none⟩) l.length c1) rfl ?_;refine zq 8 (.int .i64 (q:Int)) rfl ?_;refine zq 9 (.slice (some ⟨b1,o1,none⟩) q c1) rfl ?_;refine zq 10 (.slice (some ⟨b1,o1,none⟩) l.length c1) rfl ?_;refine zq 11 (.int .i64 (q:Int)) rfl ?_;refine zq 12 (.pointer (some ⟨b1,o1+q,none⟩)) rfl ?_;refine zt 13 (.string x) rfl (fun W hW=>WO) ?_;(try simp only[zn]);refine zr 14 rfl (fun K hK=>?_);(try simp only[z1,z2,z3]);go_simp;refine(rfind_any (l.take q) x (zC.out _ qM)).mono ?_;rintro e w9 ⟨rfl,B0⟩;have rT:=aA qM B0;refine hK.out _ _ rT (fun hS=>?_);clear hK K;(try simp only[zn]);generalize kR (l.take q) x=fz at *;refine zq 15 (.bool true) rfl ?_;refine zq 16 (.bool true) rfl ?_;(try simp only[zn]);refine wpAnyH_done VT ?_ _;go_wp2_with fail;go_ret;exact⟨aF WI,aA HW.out rT⟩
  have HF:Hid (bM l []=true):=zh (by rw[HT.out,List.drop_of_length_le VS];rfl);exact VK
theorem SL{p:Prop}(h:p:=by
 go_wp2_with fail;go_ret
 exact⟨aF WC,pQ.out⟩):p:=h
theorem SR{p:Prop}(h:p:=by
 go_wp2_with fail;go_ret
 exact⟨aF WP,pQ.out⟩):p:=h
theorem TR{p:Prop}(h:p:=by
 clear hk;go_wp2_with fail;refine(fV s _ VS).mono ?_;rintro e w3 ⟨rfl,pR⟩;go_wp2_with fail;go_ret
 exact⟨aF WC,aA pQ.out pR⟩):p:=h
theorem cU{a b:Int}(h:a=b):(a==b)=true:=by rw[h];exact beq_self_eq_true b
theorem aL{a b:Int}(h:¬a=b):(a==b)=false:=beq_eq_false_iff_ne.2 h
theorem rflat_0(op:Int)(ho:op=0)(n:Int)(s m:bA)(ns:List bA)(xs:List Xp){N:Nat->Prop}{cx:List Value}{w:World}(hx:aU N w (.mk op n s m ns xs) cx):
  Calls Tryz.prog 164 #[.agg cx.toArray] w fun e w'=>e=.returned (.bool (cD op n s m ns xs))/\Below w.heap.size w w':=by
 rw[aN] at hx;obtain⟨v1,v2,rfl,rX,uW,hn,ha⟩:=hx;obtain⟨a1,c1,rfl,-⟩:=id hn;obtain⟨a2,c2,rfl,-⟩:=id ha;have E8:=zh (fun W(hb:Below w.heap.size w W)=>hn.moves aT (aK.later hb) VU);clear hn ha;subst ho;have HR:=zh (node_num n s m ns xs);generalize cD _ n s m ns xs=R at *;generalize xV:ns.length=l1 at *;generalize xs.length=L at *;have pK:=zh (aC w (aH 0 n s m a1 l1 c1 a2 L c2));have HX:=zh (bY w (aH 0 n s m a1 l1 c1 a2 L c2));have hX:=HX.out;obtain⟨⟨x0,x1,x2,x3,x4,x5⟩,-⟩:=bx6 hX;clear hX xV;go_enter Tryz.func164,Tryz.ntmps164;go_wp2_with fail;refine(rplain_n _ n s m a1 a2 l1 c1 L c2 _).mono ?_;rintro e w2 ⟨rfl,pM⟩;have pQ:=zh (aA pK.out pM);have pW:=aD pM HX.out;clear x0 x1 x2 x3 x4 x5;obtain⟨⟨x0,x1,x2,x3,x4,x5⟩,-⟩:=bx6 pW;clear pW pM;generalize bC _ _ _ _ n s m l1=pb at HR ⊢
 cases pb with
 |false=>
  exact SR
 |true=>
  by_cases hk:L=0
  ·have HR:=zh (HR.out.trans WT);have gk:((L:Int)==0)=true:=cU VS;clear hk;go_wp2_with fail;refine(nR n 0 1099511627776 _).mono ?_;rintro e w3 ⟨rfl,rfl⟩;exact SL
  have HR:=zh (HR.out.trans WQ);have gk:((L:Int)==0)=false:=aL VS;clear hk;exact SL
theorem rflat_1(op:Int)(ho:op=1)(n:Int)(s m:bA)(ns:List bA)(xs:List Xp){N:Nat->Prop}{cx:List Value}{w:World}(hx:aU N w (.mk op n s m ns xs) cx):
  Calls Tryz.prog 164 #[.agg cx.toArray] w fun e w'=>e=.returned (.bool (cD op n s m ns xs))/\Below w.heap.size w w':=by
 rw[aN] at hx;obtain⟨v1,v2,rfl,rX,uW,hn,ha⟩:=hx;obtain⟨a1,c1,rfl,-⟩:=id hn;obtain⟨a2,c2,rfl,-⟩:=id ha;have E8:=zh (fun W(hb:Below w.heap.size w W)=>hn.moves aT (aK.later hb) VU);clear hn ha;subst ho;have HR:=zh (node_bool n s m ns xs);generalize cD _ n s m ns xs=R at *;generalize xV:ns.length=l1 at *;generalize xs.length=L at *;have pK:=zh (aC w (aH 1 n s m a1 l1 c1 a2 L c2));have HX:=zh (bY w (aH 1 n s m a1 l1 c1 a2 L c2));have hX:=HX.out;obtain⟨⟨x0,x1,x2,x3,x4,x5⟩,-⟩:=bx6 hX;clear hX xV;go_enter Tryz.func164,Tryz.ntmps164;go_wp2_with fail;refine(rplain_n _ n s m a1 a2 l1 c1 L c2 _).mono ?_;rintro e w2 ⟨rfl,pM⟩;have pQ:=zh (aA pK.out pM);have pW:=aD pM HX.out;clear x0 x1 x2 x3 x4 x5;obtain⟨⟨x0,x1,x2,x3,x4,x5⟩,-⟩:=bx6 pW;clear pW pM;generalize bC _ _ _ _ n s m l1=pb at HR ⊢
 cases pb with
 |false=>
  exact SR
 |true=>
  by_cases hk:L=0
  ·have HR:=zh (HR.out.trans WT);have gk:((L:Int)==0)=true:=cU VS;clear hk;go_wp2_with fail;refine(nR n 0 1 _).mono ?_;rintro e w3 ⟨rfl,rfl⟩;exact SL
  have HR:=zh (HR.out.trans WQ);have gk:((L:Int)==0)=false:=aL VS;clear hk;exact SL
theorem rflat_2(op:Int)(ho:op=2\/op=17)(n:Int)(s m:bA)(ns:List bA)(xs:List Xp){N:Nat->Prop}{cx:List Value}{w:World}(hx:aU N w (.mk op n s m ns xs) cx):
  Calls Tryz.prog 164 #[.agg cx.toArray] w fun e w'=>e=.returned (.bool (cD op n s m ns xs))/\Below w.heap.size w w':=by
 rw[aN] at hx;obtain⟨v1,v2,rfl,rX,uW,hn,ha⟩:=hx;obtain⟨a1,c1,rfl,-⟩:=id hn;obtain⟨a2,c2,rfl,-⟩:=id ha;have E8:=zh (fun W(hb:Below w.heap.size w W)=>hn.moves aT (aK.later hb) VU);clear hn ha;have HR:=zh (node_var op ho n s m ns xs);generalize cD op n s m ns xs=R at *;generalize xV:ns.length=l1 at *;generalize xs.length=L at *;have pK:=zh (aC w (aH op n s m a1 l1 c1 a2 L c2));have HX:=zh (bY w (aH op n s m a1 l1 c1 a2 L c2));have hX:=HX.out;obtain⟨⟨x0,x1,x2,x3,x4,x5⟩,-⟩:=bx6 hX;clear hX xV;rcases ho with rfl|rfl
 all_goals
  go_enter Tryz.func164,Tryz.ntmps164;go_wp2_with fail;refine(rplain_s _ n s m a1 a2 l1 c1 L c2 _).mono ?_;rintro e w2 ⟨rfl,pM⟩;have pQ:=zh (aA pK.out pM);have pW:=aD pM HX.out;clear x0 x1 x2 x3 x4 x5;obtain⟨⟨x0,x1,x2,x3,x4,x5⟩,-⟩:=bx6 pW;clear pW pM;generalize bC _ _ _ _ n s m l1=pb at HR ⊢
  cases pb with
  |false=>
   exact SR
  |true=>
   by_cases hk:L=0
   ·have HR:=zh (HR.out.trans WT);have gk:((L:Int)==0)=true:=cU VS;exact TR
   have HR:=zh (HR.out.trans WQ);have gk:((L:Int)==0)=false:=aL VS;clear hk;exact SL
theorem rflat_14(op:Int)(ho:op=14\/op=18)(n:Int)(s m:bA)(ns:List bA)(xs:List Xp){N:Nat->Prop}{cx:List Value}{w:World}(hx:aU N w (.mk op n s m ns xs) cx):
  Calls Tryz.prog 164 #[.agg cx.toArray] w fun e w'=>e=.returned (.bool (cD op n s m ns xs))/\Below w.heap.size w w':=by
 rw[aN] at hx;obtain⟨v1,v2,rfl,rX,uW,hn,ha⟩:=hx;obtain⟨a1,c1,rfl,-⟩:=id hn;obtain⟨a2,c2,rfl,-⟩:=id ha;have E8:=zh (fun W(hb:Below w.heap.size w W)=>hn.moves aT (aK.later hb) VU);clear hn ha;have HR:=zh (node_field op ho n s m ns xs);generalize cD op n s m ns xs=R at *;generalize xV:ns.length=l1 at *;generalize xs.length=L at *;have pK:=zh (aC w (aH op n s m a1 l1 c1 a2 L c2));have HX:=zh (bY w (aH op n s m a1 l1 c1 a2 L c2));have hX:=HX.out;obtain⟨⟨x0,x1,x2,x3,x4,x5⟩,-⟩:=bx6 hX;clear hX xV;rcases ho with rfl|rfl
 all_goals
  go_enter Tryz.func164,Tryz.ntmps164;go_wp2_with fail;refine(rplain_s _ n s m a1 a2 l1 c1 L c2 _).mono ?_;rintro e w2 ⟨rfl,pM⟩;have pQ:=zh (aA pK.out pM);have pW:=aD pM HX.out;clear x0 x1 x2 x3 x4 x5;obtain⟨⟨x0,x1,x2,x3,x4,x5⟩,-⟩:=bx6 pW;clear pW pM;generalize bC _ _ _ _ n s m l1=pb at HR ⊢
  cases pb with
  |false=>
   exact SR
  |true=>
   by_cases hk:L=1
   ·have HR:=zh (HR.out.trans WT);have gk:((L:Int)==1)=true:=cU VS;exact TR
   have HR:=zh (HR.out.trans WQ);have gk:((L:Int)==1)=false:=aL VS;clear hk;exact SL
theorem rflat_12(op:Int)(ho:op=12)(n:Int)(s m:bA)(ns:List bA)(xs:List Xp){N:Nat->Prop}{cx:List Value}{w:World}(hx:aU N w (.mk op n s m ns xs) cx):
  Calls Tryz.prog 164 #[.agg cx.toArray] w fun e w'=>e=.returned (.bool (cD op n s m ns xs))/\Below w.heap.size w w':=by
 rw[aN] at hx;obtain⟨v1,v2,rfl,rX,uW,hn,ha⟩:=hx;obtain⟨a1,c1,rfl,-⟩:=id hn;obtain⟨a2,c2,rfl,-⟩:=id ha;have E8:=zh (fun W(hb:Below w.heap.size w W)=>hn.moves aT (aK.later hb) VU);clear hn ha;subst ho;have HR:=zh (node_let n s m ns xs);generalize cD _ n s m ns xs=R at *;generalize xV:ns.length=l1 at *;generalize xs.length=L at *;have pK:=zh (aC w (aH 12 n s m a1 l1 c1 a2 L c2));have HX:=zh (bY w (aH 12 n s m a1 l1 c1 a2 L c2));have hX:=HX.out;obtain⟨⟨x0,x1,x2,x3,x4,x5⟩,-⟩:=bx6 hX;clear hX xV;go_enter Tryz.func164,Tryz.ntmps164;go_wp2_with fail;refine(rplain_s _ n s m a1 a2 l1 c1 L c2 _).mono ?_;rintro e w2 ⟨rfl,pM⟩;have pQ:=zh (aA pK.out pM);have pW:=aD pM HX.out;clear x0 x1 x2 x3 x4 x5;obtain⟨⟨x0,x1,x2,x3,x4,x5⟩,-⟩:=bx6 pW;clear pW pM;generalize bC _ _ _ _ n s m l1=pb at HR ⊢
 cases pb with
 |false=>
  exact SR
 |true=>
  by_cases hk:L=2
  ·have HR:=zh (HR.out.trans WT);have gk:((L:Int)==2)=true:=cU VS;exact TR
  have HR:=zh (HR.out.trans WQ);have gk:((L:Int)==2)=false:=aL VS;clear hk;exact SL
theorem rflat_10(op:Int)(ho:op=10)(n:Int)(s m:bA)(ns:List bA)(xs:List Xp){N:Nat->Prop}{cx:List Value}{w:World}(hx:aU N w (.mk op n s m ns xs) cx):
  Calls Tryz.prog 164 #[.agg cx.toArray] w fun e w'=>e=.returned (.bool (cD op n s m ns xs))/\Below w.heap.size w w':=by
 rw[aN] at hx;obtain⟨v1,v2,rfl,rX,uW,hn,ha⟩:=hx;obtain⟨a1,c1,rfl,-⟩:=id hn;obtain⟨a2,c2,rfl,-⟩:=id ha;have E8:=zh (fun W(hb:Below w.heap.size w W)=>hn.moves aT (aK.later hb) VU);clear hn ha;subst ho;have HR:=zh (node_not n s m ns xs);generalize cD _ n s m ns xs=R at *;generalize xV:ns.length=l1 at *;generalize xs.length=L at *;have pK:=zh (aC w (aH 10 n s m a1 l1 c1 a2 L c2));have HX:=zh (bY w (aH 10 n s m a1 l1 c1 a2 L c2));have hX:=HX.out;obtain⟨⟨x0,x1,x2,x3,x4,x5⟩,-⟩:=bx6 hX;clear hX xV;go_enter Tryz.func164,Tryz.ntmps164;go_wp2_with fail;refine(rplain_0 _ n s m a1 a2 l1 c1 L c2 _).mono ?_;rintro e w2 ⟨rfl,pM⟩;have pQ:=zh (aA pK.out pM);have pW:=aD pM HX.out;clear x0 x1 x2 x3 x4 x5;obtain⟨⟨x0,x1,x2,x3,x4,x5⟩,-⟩:=bx6 pW;clear pW pM;generalize bC _ _ _ _ n s m l1=pb at HR ⊢
 cases pb with
 |false=>
  exact SR
 |true=>
  by_cases hk:L=1
  ·have HR:=zh (HR.out.trans WT);have gk:((L:Int)==1)=true:=cU VS;clear hk;exact SL
  have HR:=zh (HR.out.trans WQ);have gk:((L:Int)==1)=false:=aL VS;clear hk;exact SL
theorem rflat_11(op:Int)(ho:op=11)(n:Int)(s m:bA)(ns:List bA)(xs:List Xp){N:Nat->Prop}{cx:List Value}{w:World}(hx:aU N w (.mk op n s m ns xs) cx):
  Calls Tryz.prog 164 #[.agg cx.toArray] w fun e w'=>e=.returned (.bool (cD op n s m ns xs))/\Below w.heap.size w w':=by
 rw[aN] at hx;obtain⟨v1,v2,rfl,rX,uW,hn,ha⟩:=hx;obtain⟨a1,c1,rfl,-⟩:=id hn;obtain⟨a2,c2,rfl,-⟩:=id ha;have E8:=zh (fun W(hb:Below w.heap.size w W)=>hn.moves aT (aK.later hb) VU);clear hn ha;subst ho;have HR:=zh (node_if n s m ns xs);generalize cD _ n s m ns xs=R at *;generalize xV:ns.length=l1 at *;generalize xs.length=L at *;have pK:=zh (aC w (aH 11 n s m a1 l1 c1 a2 L c2));have HX:=zh (bY w (aH 11 n s m a1 l1 c1 a2 L c2));have hX:=HX.out;obtain⟨⟨x0,x1,x2,x3,x4,x5⟩,-⟩:=bx6 hX;clear hX xV;go_enter Tryz.func164,Tryz.ntmps164;go_wp2_with fail;refine(rplain_0 _ n s m a1 a2 l1 c1 L c2 _).mono ?_;rintro e w2 ⟨rfl,pM⟩;have pQ:=zh (aA pK.out pM);have pW:=aD pM HX.out;clear x0 x1 x2 x3 x4 x5;obtain⟨⟨x0,x1,x2,x3,x4,x5⟩,-⟩:=bx6 pW;clear pW pM;generalize bC _ _ _ _ n s m l1=pb at HR ⊢
 cases pb with
 |false=>
  exact SR
 |true=>
  by_cases hk:L=3
  ·have HR:=zh (HR.out.trans WT);have gk:((L:Int)==3)=true:=cU VS;clear hk;exact SL
  have HR:=zh (HR.out.trans WQ);have gk:((L:Int)==3)=false:=aL VS;clear hk;exact SL
theorem rflat_13(op:Int)(ho:op=13)(n:Int)(s m:bA)(ns:List bA)(xs:List Xp){N:Nat->Prop}{cx:List Value}{w:World}(hx:aU N w (.mk op n s m ns xs) cx):
  Calls Tryz.prog 164 #[.agg cx.toArray] w fun e w'=>e=.returned (.bool (cD op n s m ns xs))/\Below w.heap.size w w':=by
 rw[aN] at hx;obtain⟨v1,v2,rfl,rX,uW,hn,ha⟩:=hx;obtain⟨a1,c1,rfl,-⟩:=id hn;obtain⟨a2,c2,rfl,-⟩:=id ha;have E8:=zh (fun W(hb:Below w.heap.size w W)=>hn.moves aT (aK.later hb) VU);clear hn ha;subst ho;have HR:=zh (node_rec n s m ns xs);generalize cD _ n s m ns xs=R at *;generalize xV:ns.length=l1 at *;generalize xs.length=L at *;have pK:=zh (aC w (aH 13 n s m a1 l1 c1 a2 L c2));have HX:=zh (bY w (aH 13 n s m a1 l1 c1 a2 L c2));have hX:=HX.out;obtain⟨⟨x0,x1,x2,x3,x4,x5⟩,-⟩:=bx6 hX;clear hX xV;go_enter Tryz.func164,Tryz.ntmps164;go_wp2_with fail;refine(rplain_l _ n s m a1 a2 l1 c1 L c2 _).mono ?_;rintro e w2 ⟨rfl,pM⟩;have pQ:=zh (aA pK.out pM);have pW:=aD pM HX.out;clear x0 x1 x2 x3 x4 x5;obtain⟨⟨x0,x1,x2,x3,x4,x5⟩,-⟩:=bx6 pW;clear pW pM;generalize bC _ _ _ _ n s m l1=pb at HR ⊢
 cases pb with
 |false=>
  exact SR
 |true=>
  by_cases hk:L=l1
  ·have HR:=zh (HR.out.trans WT);have gk:((L:Int)==(l1:Int))=true:=cU VS;clear hk;by_cases hk:L<=8
   ·have HR:=zh (HR.out.trans WT);have gk:(L:Int)<=8:=VS;clear hk;go_wp2_with fail;refine(rasc_any ns (E8.out _ pQ.out)).mono ?_;rintro e w3 ⟨rfl,pR⟩;go_wp2_with fail;go_ret;exact⟨aF WC,aA pQ.out pR⟩
   have HR:=zh (HR.out.trans WQ);have gk:¬(L:Int)<=8:=VS;clear hk;exact SL
  have HR:=zh (HR.out.trans WQ);have gk:((L:Int)==(l1:Int))=false:=aL VS;clear hk;exact SL
theorem rflat_15(op:Int)(ho:op=15)(n:Int)(s m:bA)(ns:List bA)(xs:List Xp){N:Nat->Prop}{cx:List Value}{w:World}(hx:aU N w (.mk op n s m ns xs) cx):
  Calls Tryz.prog 164 #[.agg cx.toArray] w fun e w'=>e=.returned (.bool (cD op n s m ns xs))/\Below w.heap.size w w':=by
 rw[aN] at hx;obtain⟨v1,v2,rfl,rX,uW,hn,ha⟩:=hx;obtain⟨a1,c1,rfl,-⟩:=id hn;obtain⟨a2,c2,rfl,-⟩:=id ha;have E8:=zh (fun W(hb:Below w.heap.size w W)=>hn.moves aT (aK.later hb) VU);clear hn ha;subst ho;have HR:=zh (node_call n s m ns xs);generalize cD _ n s m ns xs=R at *;generalize xV:ns.length=l1 at *;generalize xs.length=L at *;have pK:=zh (aC w (aH 15 n s m a1 l1 c1 a2 L c2));have HX:=zh (bY w (aH 15 n s m a1 l1 c1 a2 L c2));have hX:=HX.out;obtain⟨⟨x0,x1,x2,x3,x4,x5⟩,-⟩:=bx6 hX;clear hX xV;go_enter Tryz.func164,Tryz.ntmps164;go_wp2_with fail;refine(rplain_sm _ n s m a1 a2 l1 c1 L c2 _).mono ?_;rintro e w2 ⟨rfl,pM⟩;have NC:=zh pM;have pQ:=zh (aA pK.out pM);have pW:=aD pM HX.out;clear x0 x1 x2 x3 x4 x5;obtain⟨⟨x0,x1,x2,x3,x4,x5⟩,-⟩:=bx6 pW;clear pW pM;generalize bC _ _ _ _ n s m l1=pb at HR ⊢
 cases pb with
 |false=>
  exact SR
 |true=>
  by_cases hk:L<=6
  ·have HR:=zh (HR.out.trans WT);have gk:(L:Int)<=6:=VS;clear hk;go_wp2_with fail;refine(fV s _ VS).mono ?_;rintro e w3 ⟨rfl,pR⟩;have qG:=zh (aA pQ.out pR);have pW:=aD (aA NC.out pR) HX.out;clear x0 x1 x2 x3 x4 x5;obtain⟨⟨x0,x1,x2,x3,x4,x5⟩,-⟩:=bx6 pW;clear pW pR;generalize aP s=sn at HR ⊢
   cases sn with
   |false=>
    go_wp2_with fail;go_ret;exact⟨aF WP,qG.out⟩
   |true=>
    by_cases hm:m=⟨#[]⟩
    ·have HR:=zh (HR.out.trans (by rw[decide_eq_true hm]));subst hm;go_wp2_with fail;go_ret;exact⟨aF WC,qG.out⟩
    have HR:=zh (HR.out.trans (by rw[decide_eq_false hm]));have g3:=nil_of hm;clear hm;go_wp2_with fail;refine(fV m _ VS).mono ?_;rintro e w4 ⟨rfl,qE⟩;go_wp2_with fail;go_ret;exact⟨aF WC,aA qG.out qE⟩
  have HR:=zh (HR.out.trans WQ);have gk:¬(L:Int)<=6:=VS;clear hk;exact SL
theorem rflat_16(op:Int)(ho:op=16)(n:Int)(s m:bA)(ns:List bA)(xs:List Xp){N:Nat->Prop}{cx:List Value}{w:World}(hx:aU N w (.mk op n s m ns xs) cx):
  Calls Tryz.prog 164 #[.agg cx.toArray] w fun e w'=>e=.returned (.bool (cD op n s m ns xs))/\Below w.heap.size w w':=by
 rw[aN] at hx;obtain⟨v1,v2,rfl,rX,uW,hn,ha⟩:=hx;obtain⟨a1,c1,rfl,-⟩:=id hn;obtain⟨a2,c2,rfl,-⟩:=id ha;have E8:=zh (fun W(hb:Below w.heap.size w W)=>hn.moves aT (aK.later hb) VU);clear hn ha;subst ho;have HR:=zh (node_act n s m ns xs);generalize cD _ n s m ns xs=R at *;generalize xV:ns.length=l1 at *;generalize xs.length=L at *;have pK:=zh (aC w (aH 16 n s m a1 l1 c1 a2 L c2));have HX:=zh (bY w (aH 16 n s m a1 l1 c1 a2 L c2));have hX:=HX.out;obtain⟨⟨x0,x1,x2,x3,x4,x5⟩,-⟩:=bx6 hX;clear hX xV;go_enter Tryz.func164,Tryz.ntmps164;go_wp2_with fail;refine(rplain_n _ n s m a1 a2 l1 c1 L c2 _).mono ?_;rintro e w2 ⟨rfl,pM⟩;have pQ:=zh (aA pK.out pM);have pW:=aD pM HX.out;clear x0 x1 x2 x3 x4 x5;obtain⟨⟨x0,x1,x2,x3,x4,x5⟩,-⟩:=bx6 pW;clear pW pM;generalize bC _ _ _ _ n s m l1=pb at HR ⊢
 cases pb with
 |false=>
  exact SR
 |true=>
  by_cases hk:L=1
  ·have HR:=zh (HR.out.trans WT);have gk:((L:Int)==1)=true:=cU VS;clear hk;by_cases IU:n=1
   ·subst IU;exact SR
   have gn1:=aL IU;by_cases hn2:n=2
   ·subst hn2;exact SR
   have gn2:=aL hn2;by_cases hn3:n=4
   ·subst hn3;exact SR
   have gn3:=aL hn3;by_cases PD:n=8
   ·subst PD;exact SR
   have gn4:=aL PD;go_wp2_with fail;go_ret;exact⟨aF (by rw[HR.out];simp[IU,hn2,hn3,PD]),pQ.out⟩
  have HR:=zh (HR.out.trans WQ);have gk:((L:Int)==1)=false:=aL VS;clear hk;exact SL
theorem rflat_3(op:Int)(ho:op=3\/op=4\/op=5\/op=6\/op=7\/op=8\/op=9)(n:Int)(s m:bA)(ns:List bA)(xs:List Xp){N:Nat->Prop}{cx:List Value}{w:World}(hx:aU N w (.mk op n s m ns xs) cx):
  Calls Tryz.prog 164 #[.agg cx.toArray] w fun e w'=>e=.returned (.bool (cD op n s m ns xs))/\Below w.heap.size w w':=by
 rw[aN] at hx;obtain⟨v1,v2,rfl,rX,uW,hn,ha⟩:=hx;obtain⟨a1,c1,rfl,-⟩:=id hn;obtain⟨a2,c2,rfl,-⟩:=id ha;have E8:=zh (fun W(hb:Below w.heap.size w W)=>hn.moves aT (aK.later hb) VU);clear hn ha;have HR:=zh (lS op ho n s m ns xs);generalize cD op n s m ns xs=R at *;generalize xV:ns.length=l1 at *;generalize xs.length=L at *;have pK:=zh (aC w (aH op n s m a1 l1 c1 a2 L c2));have HX:=zh (bY w (aH op n s m a1 l1 c1 a2 L c2));have hX:=HX.out;obtain⟨⟨x0,x1,x2,x3,x4,x5⟩,-⟩:=bx6 hX;clear hX xV;rcases ho with rfl|rfl|rfl|rfl|rfl|rfl|rfl
 all_goals
  go_enter Tryz.func164,Tryz.ntmps164;go_wp2_with fail;refine(rplain_0 _ n s m a1 a2 l1 c1 L c2 _).mono ?_;rintro e w2 ⟨rfl,pM⟩;have pQ:=zh (aA pK.out pM);have pW:=aD pM HX.out;clear x0 x1 x2 x3 x4 x5;obtain⟨⟨x0,x1,x2,x3,x4,x5⟩,-⟩:=bx6 pW;clear pW pM;generalize bC _ _ _ _ n s m l1=pb at HR ⊢
  cases pb with
  |false=>
   exact SR
  |true=>
   by_cases hk:L=2
   ·have HR:=zh (HR.out.trans WT);have gk:((L:Int)==2)=true:=cU VS;clear hk;exact SL
   have HR:=zh (HR.out.trans WQ);have gk:((L:Int)==2)=false:=aL VS;clear hk;exact SL
theorem rflat_none(op:Int)(ho:op<0\/19<=op)(n:Int)(s m:bA)(ns:List bA)(xs:List Xp){N:Nat->Prop}{cx:List Value}{w:World}(hx:aU N w (.mk op n s m ns xs) cx):
  Calls Tryz.prog 164 #[.agg cx.toArray] w fun e w'=>e=.returned (.bool (cD op n s m ns xs))/\Below w.heap.size w w':=by
 rw[aN] at hx;obtain⟨v1,v2,rfl,rX,uW,hn,ha⟩:=hx;obtain⟨a1,c1,rfl,-⟩:=id hn;obtain⟨a2,c2,rfl,-⟩:=id ha;have E8:=zh (fun W(hb:Below w.heap.size w W)=>hn.moves aT (aK.later hb) VU);clear hn ha;rw[node_none op ho];generalize xV:ns.length=l1 at *;generalize xs.length=L at *;have pK:=zh (aC w (aH op n s m a1 l1 c1 a2 L c2));have HX:=zh (bY w (aH op n s m a1 l1 c1 a2 L c2));have hX:=HX.out;obtain⟨⟨x0,x1,x2,x3,x4,x5⟩,-⟩:=bx6 hX;clear hX xV;have k0:(op==0)=false:=aL VS;have k1:(op==1)=false:=aL VS;have k2:(op==2)=false:=aL VS;have k3:(op==3)=false:=aL VS;have k4:(op==4)=false:=aL VS;have k5:(op==5)=false:=aL VS;have k6:(op==6)=false:=aL VS;have k7:(op==7)=false:=aL VS;have k8:(op==8)=false:=aL VS;have k9:(op==9)=false:=aL VS;have k10:(op==10)=false:=aL VS;have k11:(op==11)=false:=aL VS;have k12:(op==12)=false:=aL VS;have k13:(op==13)=false:=aL VS;have k14:(op==14)=false:=aL VS;have k15:(op==15)=false:=aL VS;have k16:(op==16)=false:=aL VS;have k17:(op==17)=false:=aL VS;have k18:(op==18)=false:=aL VS;go_enter Tryz.func164,Tryz.ntmps164;go_wp2_with fail;go_ret;exact⟨rfl,pK.out⟩
theorem rflat_any(op n:Int)(s m:bA)(ns:List bA)(xs:List Xp){N:Nat->Prop}{cx:List Value}{w:World}(hx:aU N w (.mk op n s m ns xs) cx):
  Calls Tryz.prog 164 #[.agg cx.toArray] w fun e w'=>e=.returned (.bool (cD op n s m ns xs))/\Below w.heap.size w w':=by
 by_cases h:op<0\/19<=op
 ·exact rflat_none op h n s m ns xs hx
 have hc:op=0\/op=1\/(op=2\/op=17)\/(op=14\/op=18)\/op=12\/op=10\/op=11\/op=13\/op=15\/op=16\/(op=3\/op=4\/op=5\/op=6\/op=7\/op=8\/op=9):=VS;rcases hc with h|h|h|h|h|h|h|h|h|h|h
 ·exact rflat_0 op h n s m ns xs hx
 ·exact rflat_1 op h n s m ns xs hx
 ·exact rflat_2 op h n s m ns xs hx
 ·exact rflat_14 op h n s m ns xs hx
 ·exact rflat_12 op h n s m ns xs hx
 ·exact rflat_10 op h n s m ns xs hx
 ·exact rflat_11 op h n s m ns xs hx
 ·exact rflat_13 op h n s m ns xs hx
 ·exact rflat_15 op h n s m ns xs hx
 ·exact rflat_16 op h n s m ns xs hx
 exact rflat_3 op h n s m ns xs hx
theorem SD{p:Prop}(h:p:=by
 obtain⟨⟨x0,x1,x2,x3,x4,x5⟩,-⟩:=bx6 hX;clear hX;go_enter Tryz.func157,Tryz.ntmps157;go_wp2_with fail;go_ret
 exact⟨rfl,pK.out⟩):p:=h
theorem rformOf_any(op n:Int)(s m:bA)(a1 a2:Option Addr)(l1 c1 l2 c2:Nat)(w:World):
  Calls Tryz.prog 157 #[bW op n s m a1 l1 c1 a2 l2 c2] w fun e w'=>e=.returned (.int .i64 ((dF op).1:Int))/\Below w.heap.size w w':=by
 by_cases h11:op=11
 ·subst h11;have pK:=zh (aC w (aH 11 n s m a1 l1 c1 a2 l2 c2));have hX:=bY w (aH 11 n s m a1 l1 c1 a2 l2 c2);exact SD
 by_cases EX:op=12
 ·subst EX;have pK:=zh (aC w (aH 12 n s m a1 l1 c1 a2 l2 c2));have hX:=bY w (aH 12 n s m a1 l1 c1 a2 l2 c2);exact SD
 by_cases h18:op=18
 ·subst h18;have pK:=zh (aC w (aH 18 n s m a1 l1 c1 a2 l2 c2));have hX:=bY w (aH 18 n s m a1 l1 c1 a2 l2 c2);exact SD
 by_cases h9:op=9
 ·subst h9;have pK:=zh (aC w (aH 9 n s m a1 l1 c1 a2 l2 c2));have hX:=bY w (aH 9 n s m a1 l1 c1 a2 l2 c2);exact SD
 by_cases h8:op=8
 ·subst h8;have pK:=zh (aC w (aH 8 n s m a1 l1 c1 a2 l2 c2));have hX:=bY w (aH 8 n s m a1 l1 c1 a2 l2 c2);exact SD
 by_cases xM:op=10
 ·subst xM;have pK:=zh (aC w (aH 10 n s m a1 l1 c1 a2 l2 c2));have hX:=bY w (aH 10 n s m a1 l1 c1 a2 l2 c2);exact SD
 by_cases h7:op=7
 ·subst h7;have pK:=zh (aC w (aH 7 n s m a1 l1 c1 a2 l2 c2));have hX:=bY w (aH 7 n s m a1 l1 c1 a2 l2 c2);exact SD
 by_cases h6:op=6
 ·subst h6;have pK:=zh (aC w (aH 6 n s m a1 l1 c1 a2 l2 c2));have hX:=bY w (aH 6 n s m a1 l1 c1 a2 l2 c2);exact SD
 by_cases h3:op=3
 ·subst h3;have pK:=zh (aC w (aH 3 n s m a1 l1 c1 a2 l2 c2));have hX:=bY w (aH 3 n s m a1 l1 c1 a2 l2 c2);exact SD
 by_cases h4:op=4
 ·subst h4;have pK:=zh (aC w (aH 4 n s m a1 l1 c1 a2 l2 c2));have hX:=bY w (aH 4 n s m a1 l1 c1 a2 l2 c2);exact SD
 by_cases h5:op=5
 ·subst h5;have pK:=zh (aC w (aH 5 n s m a1 l1 c1 a2 l2 c2));have hX:=bY w (aH 5 n s m a1 l1 c1 a2 l2 c2);exact SD
 by_cases N5:op=14
 ·subst N5;have pK:=zh (aC w (aH 14 n s m a1 l1 c1 a2 l2 c2));have hX:=bY w (aH 14 n s m a1 l1 c1 a2 l2 c2);exact SD
 have HF:Hid ((dF op).1=8):=zh (by unfold dF eP;simp[h9,Ne.symm h9,h8,Ne.symm h8,h7,Ne.symm h7,h6,Ne.symm h6,h3,Ne.symm h3,h4,Ne.symm h4,h5,Ne.symm h5];simp_all);have k11:=aL h11;have k12:=aL EX;have k18:=aL h18;have k9:=aL h9;have k8:=aL h8;have k10:=aL xM;have k7:=aL h7;have k6:=aL h6;have k3:=aL h3;have k4:=aL h4;have k5:=aL h5;have k14:=aL N5;clear h11 EX h18 h9 h8 xM h7 h6 h3 h4 h5 N5;have pK:=zh (aC w (aH op n s m a1 l1 c1 a2 l2 c2));have hX:=bY w (aH op n s m a1 l1 c1 a2 l2 c2);obtain⟨⟨x0,x1,x2,x3,x4,x5⟩,-⟩:=bx6 hX;clear hX;go_enter Tryz.func157,Tryz.ntmps157;go_wp2_with fail;go_ret;exact⟨by rw[HF.out];rfl,pK.out⟩
theorem kX(op:Int)(ho:op=3\/op=4\/op=5\/op=6\/op=7\/op=8\/op=9)(w:World):
  Calls Tryz.prog 204 #[.int .i64 op] w fun e w'=>e=.returned (.string (gG op))/\w=w':=by
 rcases ho with rfl|rfl|rfl|rfl|rfl|rfl|rfl
 all_goals
  go_enter Tryz.func204,Tryz.ntmps204;go_wp2_with fail;go_ret;exact⟨rfl,rfl⟩
def bitN(q:Nat):Int:=[1,2,4,8].getD q 0
theorem rbit_any(q:Nat)(hq:q<4)(w:World):
  Calls Tryz.prog 159 #[.int .i64 (q:Int)] w fun e w'=>e=.returned (.int .i64 (bitN q))/\Below w.heap.size w w':=by
 have pK:=zh (aC w (.cells #[.int .i64 1,.int .i64 2,.int .i64 4,.int .i64 8] 3));have hX:=bY w (.cells #[.int .i64 1,.int .i64 2,.int .i64 4,.int .i64 8] 3);obtain⟨x0,x1,x2,x3⟩:=bx4 hX;clear hX;have hc:q=0\/q=1\/q=2\/q=3:=VS;clear hq;rcases hc with rfl|rfl|rfl|rfl
 all_goals
  go_enter Tryz.func159,Tryz.ntmps159;go_wp2_with fail;go_ret;exact⟨rfl,pK.out⟩
def effL4:List bA:=[⟨#[102,105,108,101,115]⟩,⟨#[110,101,116]⟩,⟨#[99,108,111,99,107]⟩,⟨#[115,101,99,114,101,116,115]⟩]
theorem kJ(w:World):Calls Tryz.prog 160 #[] w fun e w'=>(∃b,e=.returned (.slice (some ⟨b,0,none⟩) 4 4)/\∀j x,effL4[j]? =some x->w'.cell? ⟨b,j,none⟩=some (.string x))/\Below w.heap.size w w':=by
 have hX:=bY w (.cells #[.string ⟨#[102,105,108,101,115]⟩,.string ⟨#[110,101,116]⟩,.string ⟨#[99,108,111,99,107]⟩,.string ⟨#[115,101,99,114,101,116,115]⟩] 9);have HX:=zh (bx4 hX);clear hX;go_enter Tryz.func160,Tryz.ntmps160;go_wp2_with fail;go_ret;refine⟨⟨_,rfl,fun j x hx=>?_⟩,aC _ _⟩;obtain⟨x0,x1,x2,x3⟩:=HX.out
 match j,hx with
 |0,hx=>cases hx;exact x0
 |1,hx=>cases hx;exact x1
 |2,hx=>cases hx;exact x2
 |3,hx=>cases hx;exact x3
 |j+4,hx=>simp[effL4] at hx
theorem reffect_any(n:Int)(hn:n=1\/n=2\/n=4\/n=8)(w:World):
  Calls Tryz.prog 203 #[.int .i64 n] w fun e w'=>e=.returned (.string (effW n))/\Below w.heap.size w w':=by
 obtain⟨k,hk,NT,hkw⟩:∃k,k<4/\bitN k=n/\effL4[k]? =some (effW n):=by
  rcases hn with rfl|rfl|rfl|rfl
  ·exact⟨0,VU,rfl,rfl⟩
  ·exact⟨1,VU,rfl,rfl⟩
  ·exact⟨2,VU,rfl,rfl⟩
  exact⟨3,VU,rfl,rfl⟩
 have HKn:=zh NT;have HKw:=zh hkw
 have HInj:Hid (∀q,q<4->bitN q=n->q=k):=zh (by
  rw[<-NT];have:∀a:Fin 4,∀b:Fin 4,bitN a=bitN b->a=b:=VU;intro q hq h;have:=this ⟨q,hq⟩ ⟨k,hk⟩ h
  simpa using this)
 clear hn NT hkw;generalize effW n=ew at HKw ⊢;go_enter Tryz.func203,Tryz.ntmps203;go_wp2_with fail;go_loopw [3] (fun iv wr=>∃q:Nat,q<=k/\iv=.int .i64 (q:Int)/\Hid (Below w.heap.size w wr)) (fun iv _=>k-(intOf iv).toNat)
 case atStart=>exact⟨0,Nat.zero_le _,rfl,zh (Below.refl _ _)⟩
 case round=>
  obtain⟨q,hq,rfl,HW⟩:=hrel;rename World=>wr
  have hq4:(q:Int)<4:=VS;have uL:=zh (rbit_any q VS wr);by_cases he:bitN q=n
  ·have HQ:Hid (q=k):=zh (HInj.out q VS he);have C2:(bitN q==n)=true:=cU he;clear he;go_wp2_with fail;refine uL.out.mono ?_;rintro e w2 ⟨rfl,pM⟩;have pQ:=zh (aA HW.out pM);clear pM;go_wp2_with fail;refine(kJ w2).mono ?_;rintro e w3 ⟨⟨b,rfl,tA⟩,pR⟩;have qG:=zh (aA pQ.out pR);have hc:=tA q ew (by rw[HQ.out];exact HKw.out);have sL:(0:Int)<=(q:Int)/\(q:Int)<4:=VS;clear pR tA;go_wp2_with fail;go_ret;exact⟨rfl,qG.out⟩
  have pS:q<k:=by
   rcases Nat.lt_or_ge q k with h|h
   ·exact h
   exact absurd (by rw[show q=k by omega];exact HKn.out) he
  have C2:(bitN q==n)=false:=aL he;clear he;go_wp2_with fail;refine uL.out.mono ?_;rintro e w2 ⟨rfl,pM⟩;have pQ:=zh (aA HW.out pM);clear pM;go_wp2_with fail;go_roundw;case rel=>exact⟨q+1,VS,WH,pQ⟩
  case measure=>simp[intOf];omega
theorem dig_piece:∀i:Fin 10,(⟨#[48,49,50,51,52,53,54,55,56,57]⟩:bA).extract i.val (i.val+1)=bs [UInt8.ofNat (48+i.val)]:=XQ
theorem dig_at{r:Nat}(h:r<10):(⟨#[48,49,50,51,52,53,54,55,56,57]⟩:bA).extract r (r+1)=bs [UInt8.ofNat (48+r)]:=dig_piece ⟨r,h⟩
theorem rdigits_any:∀(n:Nat)(w:World),n<=1099511627776->Calls Tryz.prog 202 #[.int .i64 (n:Int)] w fun e w'=>e=.returned (.string (bs (Lib.decDigits n)))/\w=w':=by
 intro n
 induction n using Nat.strongRecOn with
 |_ n ih=>
  intro w hn;have AN:(n:Int).tmod 10=((n % 10:Nat):Int):=YC;have zL:(n:Int) % 10=((n % 10:Nat):Int):=VS;have LY:(n:Int).tdiv 10=((n / 10:Nat):Int):=by rw[Int.tdiv_eq_ediv_of_nonneg VS];omega
  have hd2:(n:Int) / 10=((n / 10:Nat):Int):=VS;have pS:n % 10<10:=Nat.mod_lt _ VU;generalize hr:n % 10=r at *;have HP:=zh (dig_at pS);have hw1:IntKind.i64.wrap (r:Int)=(r:Int):=dK VS VS;have hw2:IntKind.i64.wrap ((r:Int)+1)=(r:Int)+1:=dK VS VS;have ht:((r:Int)+1).toNat=r+1:=VS;have rX:(0:Int)<=(r:Int)/\(r:Int)<=(r:Int)+1/\(r:Int)+1<=10:=VS;by_cases xM:n<10
  ·have h10':(n:Int)<10:=VS;have HD:Hid (Lib.decDigits n=[UInt8.ofNat (48+r)]):=zh (by rw[<-hr,Nat.mod_eq_of_lt xM];exact Lib.decDigits_one xM);clear xM hr ih LY hd2;go_enter Tryz.func202,Tryz.ntmps202;go_wp2_with fail;go_ret;exact⟨by rw[HD.out,<-HP.out];rfl,rfl⟩
  have h10':¬(n:Int)<10:=VS
  have HD:Hid (bs (Lib.decDigits n)=bs (Lib.decDigits (n / 10))++bs [UInt8.ofNat (48+r)]):=zh (by
   rw[<-hr];refine bN ?_
   rw[cP,gR,gR,gR,Lib.decDigits,dif_neg xM])
  have rZ:(bs (Lib.decDigits (n / 10))).size<=13:=by
   rw[<-numX_digits];exact numX_size VS VS
  have HC:=zh (ih (n / 10) VS w VS);have hul:n / 10<=1099511627776:=VS;generalize hu:n / 10=u at *;have hwu:IntKind.i64.wrap (u:Int)=(u:Int):=dK VS VS;generalize hpc:(⟨#[48,49,50,51,52,53,54,55,56,57]⟩:bA).extract r (r+1)=pc at HP;have rY:pc.size<=1:=by rw[HP.out];exact Nat.le_refl _
  clear xM hr ih hu;go_enter Tryz.func202,Tryz.ntmps202;go_wp2_with fail;refine HC.out.mono ?_;rintro e w2 ⟨rfl,rfl⟩;go_wp2_with fail;go_ret;exact⟨by rw[HD.out,<-HP.out,<-hpc];rfl,rfl⟩
end Go.Proofs.YtiionicikdnnpaaGreatDoor
