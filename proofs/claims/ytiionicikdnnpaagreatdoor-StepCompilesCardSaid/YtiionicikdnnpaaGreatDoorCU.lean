/- Texts of this seat, joined. -/
import Derived.Test.YtiionicikdnnpaaGreatDoorCT
set_option maxHeartbeats 2000000
set_option maxRecDepth 100000
set_option linter.unusedVariables false
set_option linter.unusedSimpArgs false
namespace Go.Proofs.YtiionicikdnnpaaGreatDoor
open Go.RowKit
theorem V4{p:Prop}(h:p:=by
 have HR:=zh hR;clear hR hn;go_wp2_with(go_at_call 17;refine(HM.out _ (CC.out.later (by repeat(first|exact Below.refl _ _|refine Below.drew ?_|refine Below.alloc ?_ YR _)))).mono ?_;rintro e w3 ⟨rfl,rfl⟩);go_ret
 exact⟨aF ZT,aC sT.out (by repeat(first|exact Below.refl _ _|refine Below.drew ?_|refine Below.alloc ?_ YR _))⟩):p:=h
theorem WQ{p:Prop}(h:p:=by
 try simp only[zn]
 refine wpAnyH_take (i:=15) (v:=.bool true) rfl YN YN YN (fun _ _ _ h=>h) (Or.inl ⟨YN,fun W hW=>ZW⟩) vO ?_;try simp only[zn]
 refine wpAnyH_done YN ?_ _;go_wp2_with fail;go_ret
 exact⟨aF HR.out.symm,aC (aE w) rR⟩):p:=h
theorem tok_at{l:List Tok}{i:Nat}(h:i<l.length):l[i]? =some (aL l i):=by
 unfold aL;rw[List.getD_eq_getElem?_getD,List.getElem?_eq_getElem h];rfl
theorem dotted_any(p:Prs)(w:World)(i:Nat)(h:p.At w i):Calls Tryz.prog 221 #[.pointer (some ⟨p.pb,0,none⟩)] w fun e w'=>e=.returned (.bool (fJ p.l i))/\Below w.heap.size w w':=by
 have HA:=zh h;have HI:=zh (fun W(hW:p.At W i)=>gZ p W i mH hW)
 cases hq:isP p.l i mH with
 |false=>
  have HR:Hid (fJ p.l i=false):=zh (by unfold fJ;rw[hq];rfl);rw[hq] at HI;clear h hq;go_enter Tryz.func221,Tryz.ntmps221;go_wp2_with fail;have hS:p.At w.drew i:=HA.out.later (aE _);refine wp_region_held_drew (S:=fun W=>p.At W i) YN hS fun hS=>?_;refine zq 0 (.pointer (some ⟨p.pb,0,none⟩)) rfl ?_;try simp only[zn]
  refine wpAnyH_ready (rs:=[1]) YN YR ?_;refine AllReadyH.cons rfl (fun K hK=>?_) AllReadyH.nil;rw[if_pos ZV];go_simp;refine(HI.out _ hS).mono ?_;rintro e w1 ⟨rfl,rR⟩;refine hK.out _ _ (hS.later rR) (fun vO=>?_);clear hK K;try simp only[zn]
  refine wpAnyH_take (i:=2) (v:=.bool true) rfl YN YN YN (fun _ _ _ h=>h) (Or.inl ⟨YN,fun W hW=>ZW⟩) vO ?_;try simp only[zn]
  refine wpAnyH_take (i:=3) (v:=.bool true) rfl YN YN YN (fun _ _ _ h=>h) (Or.inl ⟨YN,fun W hW=>ZW⟩) vO ?_;try simp only[zn]
  refine wpAnyH_take (i:=4) (v:=undef) rfl YN YN YN (fun _ _ _ h=>h) (Or.inr ⟨YN,rfl⟩) vO ?_;try simp only[zn]
  refine wpAnyH_take (i:=5) (v:=undef) rfl YN YN YN (fun _ _ _ h=>h) (Or.inr ⟨YN,rfl⟩) vO ?_;try simp only[zn]
  refine wpAnyH_take (i:=6) (v:=undef) rfl YN YN YN (fun _ _ _ h=>h) (Or.inr ⟨YN,rfl⟩) vO ?_;try simp only[zn]
  refine wpAnyH_take (i:=7) (v:=undef) rfl YN YN YN (fun _ _ _ h=>h) (Or.inr ⟨YN,rfl⟩) vO ?_;try simp only[zn]
  refine wpAnyH_take (i:=8) (v:=undef) rfl YN YN YN (fun _ _ _ h=>h) (Or.inr ⟨YN,rfl⟩) vO ?_;try simp only[zn]
  refine wpAnyH_take (i:=9) (v:=undef) rfl YN YN YN (fun _ _ _ h=>h) (Or.inr ⟨YN,rfl⟩) vO ?_;try simp only[zn]
  refine wpAnyH_take (i:=10) (v:=undef) rfl YN YN YN (fun _ _ _ h=>h) (Or.inr ⟨YN,rfl⟩) vO ?_;try simp only[zn]
  refine wpAnyH_take (i:=11) (v:=undef) rfl YN YN YN (fun _ _ _ h=>h) (Or.inr ⟨YN,rfl⟩) vO ?_;try simp only[zn]
  refine wpAnyH_take (i:=12) (v:=undef) rfl YN YN YN (fun _ _ _ h=>h) (Or.inr ⟨YN,rfl⟩) vO ?_;try simp only[zn]
  refine wpAnyH_take (i:=13) (v:=undef) rfl YN YN YN (fun _ _ _ h=>h) (Or.inr ⟨YN,rfl⟩) vO ?_;try simp only[zn]
  refine wpAnyH_take (i:=14) (v:=undef) rfl YN YN YN (fun _ _ _ h=>h) (Or.inr ⟨YN,rfl⟩) vO ?_;exact WQ
 |true=>
  have xX:=h.bound;have hlen:=h.len;have QS:IntKind.i64.wrap ((i:Int)+1)=(i:Int)+1:=ZM;have hw2:IntKind.i64.wrap ((i:Int)+2)=(i:Int)+2:=ZM;rw[hq] at HI;by_cases hl:i+2<p.l.length
  ·have LI:decide ((p.l.length:Int)<=(i:Int)+2)=false:=decide_eq_false YM;have hge2:¬((p.l.length:Int)<=(i:Int)+2):=YM;have HR:Hid (fJ p.l i=(decide ((aL p.l (i+1)).kind=0)&&aK (aL p.l (i+1)).text&&decide ((aL p.l (i+2)).kind=2)&&decide ((aL p.l (i+2)).text=aX))):=zh (by unfold fJ;rw[hq,decide_eq_true hl];rfl);clear hq h;go_enter Tryz.func221,Tryz.ntmps221;go_wp2_with fail;have hS:p.At w.drew i:=HA.out.later (aE _);refine wp_region_held_drew (S:=fun W=>p.At W i) YN hS fun hS=>?_;refine zq 0 (.pointer (some ⟨p.pb,0,none⟩)) rfl ?_;(try simp only[zn]);refine wpAnyH_ready (rs:=[1]) YN YR ?_;refine AllReadyH.cons rfl (fun K hK=>?_) AllReadyH.nil;rw[if_pos ZV];go_simp;refine(HI.out _ hS).mono ?_;rintro e w1 ⟨rfl,rR⟩;refine hK.out _ _ (hS.later rR) (fun vO=>?_);clear hK K;(try simp only[zn]);refine wpAnyH_take (i:=2) (v:=.bool false) rfl YN YN YN (fun _ _ _ h=>h) (Or.inl ⟨YN,fun W hW=>ZW⟩) vO ?_;(try simp only[zn]);refine wpAnyH_take (i:=3) (v:=.bool false) rfl YN YN YN (fun _ _ _ h=>h) (Or.inl ⟨YN,fun W hW=>ZW⟩) vO ?_;(try simp only[zn]);refine wpAnyH_take (i:=4) (v:=.pointer (some ⟨p.pb,0,none⟩)) rfl YN YN YN (fun _ _ _ h=>h) (Or.inl ⟨YN,fun W hW=>ZW⟩) vO ?_;(try simp only[zn]);refine wpAnyH_take (i:=5) (v:=.pointer (some ⟨p.pb,0,none⟩)) rfl YN YN YN (fun _ _ _ h=>h) (Or.inl ⟨YN,fun W hW=>ZW⟩) vO ?_;(try simp only[zn]);refine wpAnyH_take (i:=6) (v:=.pointer (some ⟨p.pb,1,none⟩)) rfl YN YN YN (fun _ _ _ h=>h) (Or.inl ⟨YN,fun W hW=>ZW⟩) vO ?_;(try simp only[zn]);refine wpAnyH_take (i:=7) (v:=.int .i64 (i:Int)) rfl YN YN YN (fun _ _ _ h=>h) (Or.inl ⟨YN,fun W hW=>by have b1:=hW.box1;go_simp⟩) vO ?_;(try simp only[zn]);refine wpAnyH_take (i:=8) (v:=.int .i64 ((i:Int)+2)) rfl YN YN YN (fun _ _ _ h=>h) (Or.inl ⟨YN,fun W hW=>by rw[<-hw2];go_simp⟩) vO ?_;(try simp only[zn]);refine wpAnyH_take (i:=9) (v:=.pointer (some ⟨p.pb,0,none⟩)) rfl YN YN YN (fun _ _ _ h=>h) (Or.inl ⟨YN,fun W hW=>ZW⟩) vO ?_;(try simp only[zn]);refine wpAnyH_take (i:=10) (v:=.pointer (some ⟨p.pb,0,none⟩)) rfl YN YN YN (fun _ _ _ h=>h) (Or.inl ⟨YN,fun W hW=>ZW⟩) vO ?_;(try simp only[zn]);refine wpAnyH_take (i:=11) (v:=.pointer (some ⟨p.pb,0,none⟩)) rfl YN YN YN (fun _ _ _ h=>h) (Or.inl ⟨YN,fun W hW=>ZW⟩) vO ?_;(try simp only[zn]);refine wpAnyH_take (i:=12) (v:=.slice (some ⟨p.b,p.o,none⟩) p.l.length p.c) rfl YN YN YN (fun _ _ _ h=>h) (Or.inl ⟨YN,fun W hW=>by have b0:=hW.box0;go_simp⟩) vO ?_;(try simp only[zn]);refine wpAnyH_take (i:=13) (v:=.int .i64 (p.l.length:Int)) rfl YN YN YN (fun _ _ _ h=>h) (Or.inl ⟨YN,fun W hW=>ZW⟩) vO ?_;(try simp only[zn]);refine wpAnyH_take (i:=14) (v:=.bool false) rfl YN YN YN (fun _ _ _ h=>h) (Or.inl ⟨YN,fun W hW=>ZW⟩) vO ?_;(try simp only[zn]);refine wpAnyH_take (i:=15) (v:=.bool false) rfl YN YN YN (fun _ _ _ h=>h) (Or.inl ⟨YN,fun W hW=>ZW⟩) vO ?_;(try simp only[zn]);refine wpAnyH_done YN ?_ _;go_wp2_with fail;have sS:p.At (w1.alloc (dT 0 ⟨#[]⟩ 0 0)) i:=vO.later (aA _ _);have uF:p.At ((w1.alloc (dT 0 ⟨#[]⟩ 0 0)).alloc (dT 0 ⟨#[]⟩ 0 0)) i:=sS.later (aA _ _);obtain⟨⟨c0,c1,c2,c3⟩,tF⟩:=vO.toks (i+1) _ (tok_at YM);obtain⟨⟨d0,d1,d2,d3⟩,sY⟩:=vO.toks (i+2) _ (tok_at hl);have b0:=vO.box0;have b1:=vO.box1;have CC:=zh vO;clear sS uF hS vO;have hpb1:=CC.out.blt;have hbt1:p.b<w1.heap.size:=dS c0;have wR:¬p.pb=w1.heap.size:=YM;have zA:¬p.b=w1.heap.size:=YM;have HM:=zh (fun W(hW:p.At W i)=>jW (aL p.l (i+1)).text W YM hW.glob);generalize aL p.l (i+1)=t1 at *;generalize aL p.l (i+2)=t2 at *;have hin1:(0:Int)<=(i:Int)+1/\(i:Int)+1<(p.l.length:Int):=YM;have hin2:(0:Int)<=(i:Int)+2/\(i:Int)+2<(p.l.length:Int):=YM;have DM:((i:Int)+1).toNat=i+1:=YM;have OO:((i:Int)+2).toNat=i+2:=YM;go_region_held3 (fun W=>W.cell? ⟨p.pb,0,none⟩=some (.slice (some ⟨p.b,p.o,none⟩) p.l.length p.c)/\W.cell? ⟨p.pb,1,none⟩=some (.int .i64 (i:Int))/\W.cell? ⟨p.b,p.o+(i+1)*4,none⟩=some (.int .i64 t1.kind)/\W.cell? ⟨p.b,p.o+(i+1)*4+1,none⟩=some (.string t1.text)/\W.cell? ⟨p.b,p.o+(i+1)*4+2,none⟩=some (.int .i64 t1.n)/\W.cell? ⟨p.b,p.o+(i+1)*4+3,none⟩=some (.int .i64 t1.pos)/\W.cell? ⟨p.b,p.o+(i+2)*4,none⟩=some (.int .i64 t2.kind)/\W.cell? ⟨p.b,p.o+(i+2)*4+1,none⟩=some (.string t2.text)/\W.cell? ⟨p.b,p.o+(i+2)*4+2,none⟩=some (.int .i64 t2.n)/\W.cell? ⟨p.b,p.o+(i+2)*4+3,none⟩=some (.int .i64 t2.pos)) (go_keep) (fail)
   all_goals
    have sT:=zh (aC (aE w) rR);clear rR;by_cases k1:t1.kind=0
    ·(have CD:(t1.kind==0)=true:=by rw[beq_iff_eq];exact k1);have hR:=HR.out;rw[decide_eq_true k1] at hR
     cases hn:aK t1.text with
     |false=>
      rw[hn] at HM hR;exact V4
     |true=>
      rw[hn] at HM hR;by_cases k2:t2.kind=2
      ·(have k2':(t2.kind==2)=true:=by rw[beq_iff_eq];exact k2);rw[decide_eq_true k2,<-eG,kOpen_list] at hR;exact V4
      have k2':(t2.kind==2)=false:=aA6;rw[decide_eq_false k2] at hR;exact V4
    have CD:(t1.kind==0)=false:=Y4;have hR:=HR.out;rw[decide_eq_false k1] at hR;have HR:=zh hR;clear hR;go_wp2_with fail;go_ret;exact⟨aF ZT,aC sT.out (by repeat(first|exact Below.refl _ _|refine Below.drew ?_|refine Below.alloc ?_ YR _))⟩
  have LI:decide ((p.l.length:Int)<=(i:Int)+2)=true:=decide_eq_true YM;have hge2:(p.l.length:Int)<=(i:Int)+2:=YM;have HR:Hid (fJ p.l i=false):=zh (by unfold fJ;rw[hq,decide_eq_false hl];rfl);clear hq h;go_enter Tryz.func221,Tryz.ntmps221;go_wp2_with fail;have hS:p.At w.drew i:=HA.out.later (aE _);refine wp_region_held_drew (S:=fun W=>p.At W i) YN hS fun hS=>?_;refine zq 0 (.pointer (some ⟨p.pb,0,none⟩)) rfl ?_;try simp only[zn]
  refine wpAnyH_ready (rs:=[1]) YN YR ?_;refine AllReadyH.cons rfl (fun K hK=>?_) AllReadyH.nil;rw[if_pos ZV];go_simp;refine(HI.out _ hS).mono ?_;rintro e w1 ⟨rfl,rR⟩;refine hK.out _ _ (hS.later rR) (fun vO=>?_);clear hK K;try simp only[zn]
  refine wpAnyH_take (i:=2) (v:=.bool false) rfl YN YN YN (fun _ _ _ h=>h) (Or.inl ⟨YN,fun W hW=>ZW⟩) vO ?_;try simp only[zn]
  refine wpAnyH_take (i:=3) (v:=.bool false) rfl YN YN YN (fun _ _ _ h=>h) (Or.inl ⟨YN,fun W hW=>ZW⟩) vO ?_;try simp only[zn]
  refine wpAnyH_take (i:=4) (v:=.pointer (some ⟨p.pb,0,none⟩)) rfl YN YN YN (fun _ _ _ h=>h) (Or.inl ⟨YN,fun W hW=>ZW⟩) vO ?_;try simp only[zn]
  refine wpAnyH_take (i:=5) (v:=.pointer (some ⟨p.pb,0,none⟩)) rfl YN YN YN (fun _ _ _ h=>h) (Or.inl ⟨YN,fun W hW=>ZW⟩) vO ?_;try simp only[zn]
  refine wpAnyH_take (i:=6) (v:=.pointer (some ⟨p.pb,1,none⟩)) rfl YN YN YN (fun _ _ _ h=>h) (Or.inl ⟨YN,fun W hW=>ZW⟩) vO ?_;try simp only[zn]
  refine wpAnyH_take (i:=7) (v:=.int .i64 (i:Int)) rfl YN YN YN (fun _ _ _ h=>h) (Or.inl ⟨YN,fun W hW=>by have b1:=hW.box1;go_simp⟩) vO ?_;try simp only[zn]
  refine wpAnyH_take (i:=8) (v:=.int .i64 ((i:Int)+2)) rfl YN YN YN (fun _ _ _ h=>h) (Or.inl ⟨YN,fun W hW=>by rw[<-hw2];go_simp⟩) vO ?_;try simp only[zn]
  refine wpAnyH_take (i:=9) (v:=.pointer (some ⟨p.pb,0,none⟩)) rfl YN YN YN (fun _ _ _ h=>h) (Or.inl ⟨YN,fun W hW=>ZW⟩) vO ?_;try simp only[zn]
  refine wpAnyH_take (i:=10) (v:=.pointer (some ⟨p.pb,0,none⟩)) rfl YN YN YN (fun _ _ _ h=>h) (Or.inl ⟨YN,fun W hW=>ZW⟩) vO ?_;try simp only[zn]
  refine wpAnyH_take (i:=11) (v:=.pointer (some ⟨p.pb,0,none⟩)) rfl YN YN YN (fun _ _ _ h=>h) (Or.inl ⟨YN,fun W hW=>ZW⟩) vO ?_;try simp only[zn]
  refine wpAnyH_take (i:=12) (v:=.slice (some ⟨p.b,p.o,none⟩) p.l.length p.c) rfl YN YN YN (fun _ _ _ h=>h) (Or.inl ⟨YN,fun W hW=>by have b0:=hW.box0;go_simp⟩) vO ?_;try simp only[zn]
  refine wpAnyH_take (i:=13) (v:=.int .i64 (p.l.length:Int)) rfl YN YN YN (fun _ _ _ h=>h) (Or.inl ⟨YN,fun W hW=>ZW⟩) vO ?_;try simp only[zn]
  refine wpAnyH_take (i:=14) (v:=.bool true) rfl YN YN YN (fun _ _ _ h=>h) (Or.inl ⟨YN,fun W hW=>ZW⟩) vO ?_;exact WQ
theorem VR{p:Prop}(h:p:=by
 have hjl:=uE.lt;clear rP rN sD C5 hex uE sF;go_wp2_with(first|(go_at_call 110;refine(eA p yB j cF (by have h:=wD;rw[if_neg aA0] at h;exact h)).mono ?_;rintro e tH (⟨x12,tC,rfl,sK⟩|⟨⟨⟩,k12,tC,⟨rfl,tR⟩,sK⟩))|(go_at_call 120;refine(oF p sV j aY uV.out.at_).mono ?_;rintro e yB ⟨rfl,wD,wC⟩))
 ·have tE:¬isP p.l j aY=true:=aA0;exact⟨rfl,Ran.bad' (yQ.out.trans ((if_neg tE).trans (PR.bnd_bad tC))) (uV.out.off.trans (wC.trans sK))⟩
 ·have tE:¬isP p.l j aY=true:=aA0;have hk12:=(dJ tC).1;have GF:=(uV.out.acc.stays aI (dF.of_off (wC.trans sK) fun b hb=>.inl ZX)).row aI;go_ret;exact Ran.good (yQ.out.trans ((if_neg tE).trans (PR.bnd_ok tC))) ⟨_,_,_,rfl,by simpa using GF,tR,YM⟩ (uV.out.off.trans (wC.trans sK))
 have tE:isP p.l j aY=true:=by simpa using ‹(!isP p.l j aY)=false›
 rw[if_pos tE] at wD;have NK:=wD.lt;have EP:OpL p w (out++[x]) _ _ (j+1) yB:=⟨uV.out.off.trans wC,uV.out.acc.stays aI (dF.of_off wC fun b hb=>.inl ZX),wD,by have:=uV.out.len;omega⟩;have yU:=zh EP;have C7:=zh (yQ.out.trans (if_pos tE));have DI:=zh wD;have SV:=uV.out.len;obtain⟨F',wE⟩:∃F',F=F'+1:=⟨F-1,YM⟩;clear EP wD tE;go_roundw
 case rel=>
  subst wE;exact⟨some ⟨g,0,none⟩,cap,j+1,F',out++[x],_,YR,yU,C7,zh ⟨YM,YM,YM⟩⟩
 case measure=>
  rw[DI.out.pos,HL.out.at_.pos];omega):p:=h
theorem XF{p:Prop}(h:p:=by
 rename_i hq;have hj:=(dJ hx).1;rw[if_pos hq] at sS;go_ret
 exact Ran.good (HR.out.trans ((PR.bnd_ok hx).trans (if_pos hq))) ⟨none,0,0,rfl,aO.nil _ _ _ _,sS,YM⟩ (rX.trans rS)):p:=h
theorem YJ{p:Prop}(h:p:=by
 exact⟨rfl,Ran.bad' (HR.out.trans (PR.bnd_bad hx)) rX⟩):p:=h
theorem xpInfo:(Tryz.prog.info? 35).map (fun i=>(i.zero,i.size,i.bytes))=some (some (eK 0 0 ByteArray.empty ByteArray.empty none 0 0 none 0 0),6,96):=YN
def qH(B:Nat)(x:Xp)(e:Ending)(w':World):Prop:=∃op n s m a1 n1 c1 a2 n2 c2,e=.returned (eK op n s m a1 n1 c1 a2 n2 c2)/\
 bN (bQ B) w' x [.int .i64 op,.int .i64 n,.string s,.string m,.slice a1 n1 c1,.slice a2 n2 c2]
def iL(p:Prs)(f:Nat):Prop:=∀(form i:Nat)(w:World),p.At w i->form<=9->p.l.length<f+i->Calls Tryz.prog 48 #[.pointer (some ⟨p.pb,0,none⟩),.int .i64 (form:Int)] w
 (Ran p.S w (bM p.l f form i) fun x j e w'=>qH w.heap.size x e w'/\p.At w' j/\i<=j)
structure OpL (p:Prs) (W:World) (out:List Xp) (css:List (List Value)) (v:Value) (q:Nat) (wr:World):Prop where
 off:Off p.S W wr
 acc:Gro 6 35 bN W.heap.size out css v wr
 at_:p.At wr q
 len:out.length<=q
section
variable {l:List Tok} {rec:RecP} {F q:Nat} {out:List Xp}
theorem operFrom_yes(hb:eP l q=true)(hr:fD l q out.length 6=.ok ((),q)):bS l rec (F+1) out q=(rec 0 q).bnd fun e j=>
  if isP l j aY then bS l rec F (out++[e]) (j+1) else(eB l j cF).bnd fun _ k=>.ok (out++[e],k):=by
 rw[bS,if_pos hb,hr];rfl
theorem operFrom_no(hb:eP l q=false):bS l rec (F+1) out q=(rec 0 q).bnd fun e j=>
  if isP l j aY then bS l rec F (out++[e]) (j+1) else(eB l j cF).bnd fun _ k=>.ok (out++[e],k):=by
 rw[bS,if_neg (by rw[hb];simp)];rfl
theorem operFrom_full(hb:eP l q=true){x:Int×Int}(hr:fD l q out.length 6=.error x):bS l rec (F+1) out q=.error x:=by
 rw[bS,if_pos hb,hr];rfl
theorem qS{a b j:Nat}(h:fD l q a b=.ok ((),j)):j=q:=by
 unfold fD at h;split at h
 ·cases h;rfl
 cases h
end
theorem OpL.step{p:Prs}{W w5 w7 sV:World}{g cap n1 i0 j q:Nat}{out:List Xp}{css:List (List Value)}{v:Value}{x:Xp}{cs:List Value}{T:TypeId}(hW:p.At W i0)(h5:OpL p W out css v q w5)(sF:Off p.S w5 w7)(uE:p.At w7 j)(hq:out.length<q)(hqj:q<=j)
  (hex:bN (bQ w5.heap.size) w7 x cs) (hl:cs.length=6)
  (rP:sV.ownsRow W.heap.size 35 6 (.slice (some ⟨g,0,none⟩) n1 cap) n1 (css.flatten++cs)) (hn:n1=out.length+1) (rN:(w7.alloc (.cells cs.toArray T)).grownBy sV v.ownBlock) (sD:v.ownBlock=some g\/g=w7.heap.size+1):
  OpL p W (out++[x]) (css++[cs]) (.slice (some ⟨g,0,none⟩) n1 cap) j sV:=by
 subst hn;have rU:=h5.acc.lt;have tQ:=h5.acc.big;have o9:Off p.S w5 (w7.alloc (.cells cs.toArray T)):=sF.trans (Ba (aA _ _));have hA9:=h5.acc.stays aI (dF.of_off o9 fun b hb=>.inl aAP)
 have hx:bN (mO W.heap.size v) (w7.alloc (.cells cs.toArray T)) x cs:=by
  refine aI.wide (aI _ _ _ _ _ _ (bU.later (aA _ _)) hex) fun b hb _=>?_;have hb:w5.heap.size<=b:=hb;exact⟨YM,fun e=>by have:=rU b e;omega⟩
 have CT:(w7.alloc (.cells cs.toArray T)).heap.size=w7.heap.size+1:=YR;have AT:Off (fun b=>W.heap.size<=b) (w7.alloc (.cells cs.toArray T)) sV:=⟨rN.os,rN.tape,rN.output,rN.size,fun b hb hn=>rN.block b hb (fun e=>hn (rU b e.symm).1)⟩;refine⟨?_,hA9.added aI hx hl rP rN aBm,?_,?_⟩
 ·exact Off.fresh (((h5.off.trans o9).or _).trans (AT.mono fun b hb=>.inr hb)) (Nat.le_refl _)
 ·exact hW.above uE ((Ba (aA _ _)).trans AT)
 simp;omega
theorem OpL.off'{p:Prs}{W wr w':World}{out:List Xp}{css:List (List Value)}{v:Value}{q:Nat}(h:OpL p W out css v q wr)(ho:Off p.S wr w')(ha:p.At w' q)(wQ:p.pb<W.heap.size:=by exact Prs.At.blt (Hid.out ‹_›)):OpL p W out css v q w':=
 ⟨h.off.trans ho,h.acc.stays aI (dF.of_off ho fun b hb=>.inl ZI),ha,h.len⟩
theorem oA(p:Prs)(f:Nat)(hE:iL p f)(w:World)(i:Nat)(h:p.At w i)(uK:p.l.length<=f+i):Calls Tryz.prog 220 #[.pointer (some ⟨p.pb,0,none⟩)] w
  (Ran p.S w (iA p.l (bM p.l f) i) fun xs j e w'=>∃a n c,e=.returned (.slice a n c)/\aO 6 bN (bQ w.heap.size) w' (.slice a n c) xs/\p.At w' j/\i<=j):=by
 obtain⟨i0,xK,vA,tF,sY⟩:=info_parts xpInfo;have HE:=zh hE;have HW:=zh h;have R0:=zh (eA p w i aX h);have hlen:=h.len;have HR:Hid (iA p.l (bM p.l f) i=(eB p.l i aX).bnd fun _ j=>if isP p.l j cF then .ok ([],j+1) else bS p.l (bM p.l f) (p.l.length+1) [] j):=zh rfl;clear h hE;go_enter Tryz.func220,Tryz.ntmps220;go_wp2_with(first|(go_at_call 120;refine(oF p w1 j cF sG).mono ?_;rintro e w2 ⟨rfl,sS,rS⟩)|(go_at_call 110;refine R0.out.mono ?_;rintro e w1 (⟨x,hx,rfl,rX⟩|⟨⟨⟩,j,hx,⟨rfl,sG⟩,rX⟩)))
 ·exact YJ
 ·exact XF
 rename_i hq;have hj:=(dJ hx).1;rw[if_neg aAI] at sS;have GQ:=zh (HR.out.trans ((PR.bnd_ok hx).trans (if_neg aAI)));have U2:Hid (OpL p w [] [] (.slice none 0 0) j w2):=zh ⟨rX.trans rS,Gro.first_at _ _ _ (rX.trans rS).size,sS,Nat.zero_le _⟩;have HJ:=zh hj;clear hj hx rX sG rS sS hq R0 HR;go_loopw [3] (fun v wr=>∃(a:Option Addr)(c q F:Nat)(out:List Xp)(css:List (List Value)),v=.slice a out.length c/\Hid (OpL p w out css v q wr)/\Hid (iA p.l (bM p.l f) i=bS p.l (bM p.l f) (F+1) out q)/\Hid (p.l.length<=F+q/\i<q/\out.length<q)) (fun _ wr=>p.l.length-posOf wr p.pb)
 case atStart=>exact⟨none,0,j,p.l.length,[],[],rfl,U2,GQ,zh ⟨YM,by have:=HJ.out;omega,by have:=HJ.out;simp;omega⟩⟩
 case round=>
  obtain⟨a,c,q,F,out,css,rfl,HL,sA,HB⟩:=hrel;rename World=>wr
  have AJ:=HB.out.1;have BR:=HB.out.2.1;have SP:=HB.out.2.2;have hq4:=HL.out.at_.lt
  cases LO:eP p.l q with
  |true=>
   go_wp2_with(first|(go_at_call 247;refine(begins_any p wr q HL.out.at_).mono ?_;rintro e w5 ⟨rfl,hb5⟩;rw[LO];have wA:=zh (HL.out.off' (Ba hb5) (HL.out.at_.later hb5)))|(go_at_call 113;refine(qR p w5 q out.length 6 wA.out.at_).mono ?_;rintro e w6 (⟨x,hx,rfl,sH⟩|⟨⟨⟩,j6,hx,⟨rfl,vN⟩,sH⟩))|(go_at_call 48;have hj6:=qS hx;subst hj6;have B6:=zh (wA.out.off' sH vN);refine(HE.out 0 j6 w6 vN YM YM).mono ?_;rintro e w7 (⟨x7,tJ,rfl,sF⟩|⟨x,j,tJ,⟨⟨op,n,s,m,a1,n1,c1,a2,n2,c2,rfl,hex⟩,uE,hqj⟩,sF⟩))|(at_builtin;have sW:=(B6.out.acc.stays aI (dF.of_off (sF.trans (Ba (aA w7 (aN op n s m a1 n1 c1 a2 n2 c2)))) fun b hb=>.inl ZX));have tV:=sW.big;have hlen9:=B6.out.len;have hlt9:=B6.out.at_.lt;refine wpList_append_lies _ rfl _ _ 25 rfl w.heap.size 35 i0 (eK 0 0 ByteArray.empty ByteArray.empty none 0 0 none 0 0) 6 96 Tryz.underlying25 xK vA tF sY rfl YM (.slice a out.length c) out.length css.flatten ZV sW.own ⟨w7.heap.size,0,none⟩ 1 1 [.int .i64 op,.int .i64 n,.string s,.string m,.slice a1 n1 c1,.slice a2 n2 c2] ZV rfl (World.news_of_block (cs:=#[.int .i64 op,.int .i64 n,.string s,.string m,.slice a1 n1 c1,.slice a2 n2 c2]) (t:=35) (fr:=(0,0)) (bY w7 _)) Y3 YM Y7 YM tV (w7.heap.size+1) YR ?_))
   ·exact⟨rfl,Ran.bad' (sA.out.trans (operFrom_full LO hx)) (wA.out.off.trans sH)⟩
   ·exact⟨rfl,Ran.bad' (sA.out.trans ((operFrom_yes LO hx).trans (PR.bnd_bad tJ))) (B6.out.off.trans sF)⟩
   intro g cap sV rP rN sD _;have C5:=B6.out.step HW.out sF uE SP hqj hex rfl rP rfl rN sD;have uV:=zh C5;have yQ:=zh (sA.out.trans ((operFrom_yes LO hx).trans (PR.bnd_ok tJ)));exact VR
  |false=>
   go_wp2_with(first|(go_at_call 247;refine(begins_any p wr q HL.out.at_).mono ?_;rintro e w5 ⟨rfl,hb5⟩;rw[LO];have wA:=zh (HL.out.off' (Ba hb5) (HL.out.at_.later hb5)))|(go_at_call 48;refine(HE.out 0 q w5 wA.out.at_ YM YM).mono ?_;rintro e w7 (⟨x7,tJ,rfl,sF⟩|⟨x,j,tJ,⟨⟨op,n,s,m,a1,n1,c1,a2,n2,c2,rfl,hex⟩,uE,hqj⟩,sF⟩))|(at_builtin;have sW:=(wA.out.acc.stays aI (dF.of_off (sF.trans (Ba (aA w7 (aN op n s m a1 n1 c1 a2 n2 c2)))) fun b hb=>.inl ZX));have tV:=sW.big;have hlen9:=wA.out.len;have hlt9:=wA.out.at_.lt;refine wpList_append_lies _ rfl _ _ 25 rfl w.heap.size 35 i0 (eK 0 0 ByteArray.empty ByteArray.empty none 0 0 none 0 0) 6 96 Tryz.underlying25 xK vA tF sY rfl YM (.slice a out.length c) out.length css.flatten ZV sW.own ⟨w7.heap.size,0,none⟩ 1 1 [.int .i64 op,.int .i64 n,.string s,.string m,.slice a1 n1 c1,.slice a2 n2 c2] ZV rfl (World.news_of_block (cs:=#[.int .i64 op,.int .i64 n,.string s,.string m,.slice a1 n1 c1,.slice a2 n2 c2]) (t:=35) (fr:=(0,0)) (bY w7 _)) Y3 YM Y7 YM tV (w7.heap.size+1) YR ?_))
   ·exact⟨rfl,Ran.bad' (sA.out.trans ((operFrom_no LO).trans (PR.bnd_bad tJ))) (wA.out.off.trans sF)⟩
   intro g cap sV rP rN sD _;have C5:=wA.out.step HW.out sF uE SP hqj hex rfl rP rfl rN sD;have uV:=zh C5;have yQ:=zh (sA.out.trans ((operFrom_no LO).trans (PR.bnd_ok tJ)));exact VR
end Go.Proofs.YtiionicikdnnpaaGreatDoor
namespace Go.Proofs.YtiionicikdnnpaaGreatDoor
open Go.RowKit
theorem bx6{w:World}{b:Nat}{x0 x1 x2 x3 x4 x5:Value}{t:TypeId}(h:w.heap[b]? =some (.cells #[x0,x1,x2,x3,x4,x5] t)):
  (w.cell? ⟨b,0,none⟩=some x0/\w.cell? ⟨b,1,none⟩=some x1/\w.cell? ⟨b,2,none⟩=some x2/\w.cell? ⟨b,3,none⟩=some x3/\w.cell? ⟨b,4,none⟩=some x4/\w.cell? ⟨b,5,none⟩=some x5)/\
  (w.frozen? ⟨b,0,none⟩=false/\w.frozen? ⟨b,1,none⟩=false/\w.frozen? ⟨b,2,none⟩=false/\w.frozen? ⟨b,3,none⟩=false/\w.frozen? ⟨b,4,none⟩=false/\w.frozen? ⟨b,5,none⟩=false):=
 ⟨⟨(bx h 0 rfl).1,(bx h 1 rfl).1,(bx h 2 rfl).1,(bx h 3 rfl).1,(bx h 4 rfl).1,(bx h 5 rfl).1⟩,(bx h 0 (u:=x0) rfl).2,(bx h 1 (u:=x1) rfl).2,(bx h 2 (u:=x2) rfl).2,(bx h 3 (u:=x3) rfl).2,(bx h 4 (u:=x4) rfl).2,(bx h 5 (u:=x5) rfl).2⟩
def PreV(p:Prs)(W:World)(i:Nat)(r:Xp×Nat)(j:Nat)(e:Ending)(w':World):Prop:=(∃op n s m a1 n1 c1 a2 n2 c2,e=.returned (.tuple #[eK op n s m a1 n1 c1 a2 n2 c2,.int .i64 (r.2:Int)])/\
 bN (bQ W.heap.size) w' r.1 [.int .i64 op,.int .i64 n,.string s,.string m,.slice a1 n1 c1,.slice a2 n2 c2])/\p.At w' j/\i<=j
def iP(w:World)(b:Nat)(x0 x1 x2 x3 x4 x5:Value):World:=
 (((((w.setCell ⟨b,0,none⟩ x0).setCell ⟨b,1,none⟩ x1).setCell ⟨b,2,none⟩ x2).setCell ⟨b,3,none⟩ x3).setCell ⟨b,4,none⟩ x4).setCell ⟨b,5,none⟩ x5
theorem qQ(w:World)(b:Nat)(x0 x1 x2 x3 x4 x5:Value):Off (fun k=>k=b) w (iP w b x0 x1 x2 x3 x4 x5):=by
 unfold iP;exact(((((Off.setCell (S:=fun k=>k=b) _ rfl).trans (Off.setCell (S:=fun k=>k=b) _ rfl)).trans (Off.setCell (S:=fun k=>k=b) _ rfl)).trans (Off.setCell (S:=fun k=>k=b) _ rfl)).trans (Off.setCell (S:=fun k=>k=b) _ rfl)).trans (Off.setCell (S:=fun k=>k=b) _ rfl)
abbrev bW:Array Value:=#[.int .i64 0,.int .i64 0,.string ⟨#[]⟩,.string ⟨#[]⟩,.slice none 0 0,.slice none 0 0]
theorem iO{p:Prs}{W w:World}{i0 j:Nat}{x:Xp}{op n:Int}{s m:bA}{a1 a2:Option Addr}{n1 c1 n2 c2:Nat}{N:Nat->Prop}(hW:p.At W i0)(ho:Off p.S W w)(ha:p.At w j)
  (hx:bN N w x [.int .i64 op,.int .i64 n,.string s,.string m,.slice a1 n1 c1,.slice a2 n2 c2]) (hN:∀b,N b->W.heap.size<b):
  bN (bQ W.heap.size) (iP w W.heap.size (.int .i64 op) (.int .i64 n) (.string s) (.string m) (.slice a1 n1 c1) (.slice a2 n2 c2)) x [.int .i64 op,.int .i64 n,.string s,.string m,.slice a1 n1 c1,.slice a2 n2 c2]/\
  p.At (iP w W.heap.size (.int .i64 op) (.int .i64 n) (.string s) (.string m) (.slice a1 n1 c1) (.slice a2 n2 c2)) j/\Off p.S W (iP w W.heap.size (.int .i64 op) (.int .i64 n) (.string s) (.string m) (.slice a1 n1 c1) (.slice a2 n2 c2)):=by
 have rS:=qQ w W.heap.size (.int .i64 op) (.int .i64 n) (.string s) (.string m) (.slice a1 n1 c1) (.slice a2 n2 c2);refine⟨aI.wide (aI.off hx rS fun b hb hn=>by have:=hN b hn;omega) fun b hb _=>Nat.le_of_lt (hN b hb),hW.above ha (rS.mono fun b hb=>YM),?_⟩;exact Off.fresh ((ho.or _).trans (rS.mono fun b hb=>.inr (Nat.le_of_eq hb.symm))) (Nat.le_refl _)
theorem gC(w:World)(a:Addr)(v:Value):(w.setCell a v).heap.size=w.heap.size:=by simp[World.setCell]
theorem set6_size(w:World)(b:Nat)(x0 x1 x2 x3 x4 x5:Value):(iP w b x0 x1 x2 x3 x4 x5).heap.size=w.heap.size:=by unfold iP;simp only[gC]
theorem pL{p:Prs}{W w:World}{i0 j:Nat}{x:Xp}{op n:Int}{s m:bA}{a1 a2:Option Addr}{n1 c1 n2 c2:Nat}{N:Nat->Prop}{cs:Array Value}{T:TypeId}(hW:p.At W i0)(ho:Off p.S W w)(ha:p.At w j)(hb:W.heap.size<w.heap.size)
  (hx:bN N (w.alloc (.cells cs T)) x [.int .i64 op,.int .i64 n,.string s,.string m,.slice a1 n1 c1,.slice a2 n2 c2]) (hN:∀b,N b->W.heap.size<b):
  bN (bQ W.heap.size) ((iP w W.heap.size (.int .i64 op) (.int .i64 n) (.string s) (.string m) (.slice a1 n1 c1) (.slice a2 n2 c2)).alloc (.cells cs T)) x [.int .i64 op,.int .i64 n,.string s,.string m,.slice a1 n1 c1,.slice a2 n2 c2]/\
  p.At ((iP w W.heap.size (.int .i64 op) (.int .i64 n) (.string s) (.string m) (.slice a1 n1 c1) (.slice a2 n2 c2)).alloc (.cells cs T)) j/\Off p.S W ((iP w W.heap.size (.int .i64 op) (.int .i64 n) (.string s) (.string m) (.slice a1 n1 c1) (.slice a2 n2 c2)).alloc (.cells cs T)):=by
 have o:=qQ w W.heap.size (.int .i64 op) (.int .i64 n) (.string s) (.string m) (.slice a1 n1 c1) (.slice a2 n2 c2);have tK:=set6_size w W.heap.size (.int .i64 op) (.int .i64 n) (.string s) (.string m) (.slice a1 n1 c1) (.slice a2 n2 c2);generalize iP w W.heap.size (.int .i64 op) (.int .i64 n) (.string s) (.string m) (.slice a1 n1 c1) (.slice a2 n2 c2)=w2 at o tK ⊢
 have rS:Off (fun k=>k=W.heap.size) (w.alloc (.cells cs T)) (w2.alloc (.cells cs T)):=⟨o.os,o.tape,o.output,by simp[tK],fun k hk hn=>by
  by_cases OS:k<w.heap.size
  ·rw[Below.heap_alloc _ _ _ YM,Below.heap_alloc _ _ _ OS];exact o.block k OS hn
  have FZ:k=w.heap.size:=by simp at hk;omega
  subst FZ;have h2:=bY w2 (.cells cs T);rw[tK] at h2
  rw[h2,bY w]⟩
 refine⟨aI.wide (aI.off hx rS fun b hb hn=>by have:=hN b hn;omega) fun b hb _=>Nat.le_of_lt (hN b hb),hW.above (ha.later (aA _ _)) (rS.mono fun b hb=>YM),?_⟩;exact Off.fresh (((ho.trans (Ba (aA _ _))).or _).trans (rS.mono fun b hb=>.inr (Nat.le_of_eq hb.symm))) (Nat.le_refl _)
theorem prefix_if(p:Prs)(f:Nat)(hE:iL p f)(w:World)(i:Nat)(h:p.At w i)(uK:p.l.length<=f+i)(hq:isP p.l i kIf=true):Calls Tryz.prog 134 #[.pointer (some ⟨p.pb,0,none⟩),.int .i64 0] w
  (Ran p.S w (cH p.l (bM p.l f) 0 i) (PreV p w i)):=by
 have HE:=zh hE;have HW:=zh h;have HR:Hid (cH p.l (bM p.l f) 0 i=(bM p.l f 0 (i+1)).bnd fun a j=>(eB p.l j lS).bnd fun _ j2=>(bM p.l f 0 j2).bnd fun b j3=>(eB p.l j3 lU).bnd fun _ j4=>(bM p.l f 0 j4).bnd fun c j5=>.ok ((.mk 11 0 noB noB [] [a,b,c],0),j5)):=zh (by unfold cH;rw[if_pos ⟨rfl,hq⟩]);have HH:=zh (gM p (w.alloc (.cells bW 35)) i kIf (h.later (aA _ _)) hq);have hlen:=h.len;have rO:w.heap.size≠p.pb:=ZC;have wQ:=h.blt;clear h hE hq;go_enter Tryz.func134,Tryz.ntmps134;go_wp2_with(first|(go_at_call 110;refine(eA p (w4.alloc (aN opb nb sb mb pb' qb rb tb ub vb)) j4 lU (uA.later (aA _ _))).mono ?_;rintro e w5 (⟨x5,sQ,rfl,sC⟩|⟨⟨⟩,j5,sQ,⟨rfl,uS⟩,sC⟩))|(go_at_call 48;refine(HE.out 0 j3 w3 uF YM (by have:=(dJ rW).1;omega)).mono ?_;rintro e w4 (⟨x4,sI,rfl,rY⟩|⟨xb,j4,sI,⟨⟨opb,nb,sb,mb,pb',qb,rb,tb,ub,vb,rfl,IA⟩,uA,hij4⟩,rY⟩))|(go_at_call 110;refine(eA p (w2.alloc (aN opa na sa ma pa qa ra ta ua va)) j2 lS (sS.later (aA _ _))).mono ?_;rintro e w3 (⟨x3,rW,rfl,sB⟩|⟨⟨⟩,j3,rW,⟨rfl,uF⟩,sB⟩))|(go_at_call 48;refine(HE.out 0 (i+1) w1 sG YM YM).mono ?_;rintro e w2 (⟨x2,rV,rfl,rS⟩|⟨xa,j2,rV,⟨⟨opa,na,sa,ma,pa,qa,ra,ta,ua,va,rfl,zJ⟩,sS,hij2⟩,rS⟩))|(go_at_call 120;refine HH.out.mono ?_;rintro e w1 ⟨rfl,sG,rX⟩))
 ·exact⟨rfl,Ran.bad' (HR.out.trans (PR.bnd_bad rV)) ((Ba (aA _ _)).trans (rX.trans rS))⟩
 ·exact⟨rfl,Ran.bad' (HR.out.trans ((PR.bnd_ok rV).trans (PR.bnd_bad rW))) ((Ba (aA _ _)).trans (rX.trans (rS.trans ((Ba (aA _ _)).trans sB))))⟩
 ·exact⟨rfl,Ran.bad' (HR.out.trans ((PR.bnd_ok rV).trans ((PR.bnd_ok rW).trans (PR.bnd_bad sI)))) ((Ba (aA _ _)).trans (rX.trans (rS.trans ((Ba (aA _ _)).trans (sB.trans rY)))))⟩
 ·exact⟨rfl,Ran.bad' (HR.out.trans ((PR.bnd_ok rV).trans ((PR.bnd_ok rW).trans ((PR.bnd_ok sI).trans (PR.bnd_bad sQ))))) ((Ba (aA _ _)).trans (rX.trans (rS.trans ((Ba (aA _ _)).trans (sB.trans (rY.trans ((Ba (aA _ _)).trans sC)))))))⟩
 have tF:=rX.size;have sY:=rS.size;have DJ:=sB.size;have FC:=rY.size;have AY:=sC.size;have xD:(w.alloc (.cells bW 35)).heap.size=w.heap.size+1:=YR;have OH:(w2.alloc (aN opa na sa ma pa qa ra ta ua va)).heap.size=w2.heap.size+1:=YR;have hs4:(w4.alloc (aN opb nb sb mb pb' qb rb tb ub vb)).heap.size=w4.heap.size+1:=YR;have OW:Off p.S w w5:=(Ba (aA _ _)).trans (rX.trans (rS.trans ((Ba (aA _ _)).trans (sB.trans (rY.trans ((Ba (aA _ _)).trans sC))))));have O2:Off p.S w2 w5:=(Ba (aA _ _)).trans (sB.trans (rY.trans ((Ba (aA _ _)).trans sC)));have O4:Off p.S w4 w5:=(Ba (aA _ _)).trans sC;have n2:w2.heap.size≠p.pb:=YM;have n4:w4.heap.size≠p.pb:=YM;have JI:w5.heap[w.heap.size]? =some (.cells bW 35):=sC.heap rO (aH (aA _ _) (rY.heap rO (sB.heap rO (aH (aA _ _) (rS.heap rO (rX.heap rO (bY w _)))))));have hBA:w5.heap[w2.heap.size]? =some (aN opa na sa ma pa qa ra ta ua va):=sC.heap n2 (aH (aA _ _) (rY.heap n2 (sB.heap n2 (bY w2 _))));have TZ:w5.heap[w4.heap.size]? =some (aN opb nb sb mb pb' qb rb tb ub vb):=sC.heap n4 (bY w4 _);have RZ:=zh (aI.off zJ O2 (fun b hb hn=>by have hb:b=p.pb:=hb;have hn:w1.heap.size<=b:=hn;omega));have HXB:=zh (aI.off IA O4 (fun b hb hn=>by have hb:b=p.pb:=hb;have hn:w3.heap.size<=b:=hn;omega));have sA:=zh (HR.out.trans ((PR.bnd_ok rV).trans ((PR.bnd_ok rW).trans ((PR.bnd_ok sI).trans (PR.bnd_ok sQ)))));have R5:=zh OW;have J7:=zh JI;have SZ:=(dJ rW).1;have hj5:=(dJ sQ).1;clear zJ IA O2 O4 OW JI rV rW sI sQ rX rS sB rY sC HH HR sG sS uF uA;refine wp_region_held_drew (S:=(fun W=>W.heap[w2.heap.size]? =some (aN opa na sa ma pa qa ra ta ua va)/\W.heap[w4.heap.size]? =some (aN opb nb sb mb pb' qb rb tb ub vb))) YN ⟨hBA,TZ⟩ fun hS=>?_;refine zt 0 (eK opa na sa ma pa qa ra ta ua va) rfl (fun W hW=>by obtain⟨⟨c0,c1,c2,c3,c4,c5⟩,-⟩:=bx6 hW.1;go_simp) ?_;refine zt 1 (eK opb nb sb mb pb' qb rb tb ub vb) rfl (fun W hW=>by obtain⟨⟨c0,c1,c2,c3,c4,c5⟩,-⟩:=bx6 hW.2;go_simp) ?_;refine zq 2 (.pointer (some ⟨p.pb,0,none⟩)) rfl ?_;try simp only[zn]
 refine zr 3 rfl (fun K hK=>?_);go_simp;refine(HE.out 0 j5 w5.drew (uS.later (aE _)) YM YM).mono ?_;rintro e w6 (⟨x6,uX,rfl,sH⟩|⟨xc,j6,uX,⟨⟨opc,nc,sc,mc,pc,qc,rc,tc,uc,vc,rfl,JC⟩,vN,S9⟩,sH⟩)
 ·go_wp2_with fail;exact⟨rfl,Ran.bad' (sA.out.trans (PR.bnd_bad uX)) (R5.out.trans ((Ba (aE w5)).trans sH))⟩
 have hBA6:=sH.heap n2 (aH (aE w5) hBA);have hBB6:=sH.heap n4 (aH (aE w5) TZ);refine hK.out _ _ ⟨hBA6,hBB6⟩ (fun hS=>?_);clear hK K;try simp only[zn]
 have PB:=aH (aA w6 (oBx8 opa na sa ma pa qa ra ta ua va opb nb sb mb pb' qb rb tb ub vb opc nc sc mc pc qc rc tc uc vc)) (sH.heap rO (aH (aE w5) J7.out));have hB6:=bY w6 (oBx8 opa na sa ma pa qa ra ta ua va opb nb sb mb pb' qb rb tb ub vb opc nc sc mc pc qc rc tc uc vc);have hA6:p.At (w6.alloc (oBx8 opa na sa ma pa qa ra ta ua va opb nb sb mb pb' qb rb tb ub vb opc nc sc mc pc qc rc tc uc vc)) j6:=vN.later (aA _ _);have O6:Off p.S w5 (w6.alloc (oBx8 opa na sa ma pa qa ra ta ua va opb nb sb mb pb' qb rb tb ub vb opc nc sc mc pc qc rc tc uc vc)):=(Ba (aE w5)).trans (sH.trans (Ba (aA _ _)));have L4:=aH (aA w6 (oBx8 opa na sa ma pa qa ra ta ua va opb nb sb mb pb' qb rb tb ub vb opc nc sc mc pc qc rc tc uc vc)) hBA6;have hBB7:=aH (aA w6 (oBx8 opa na sa ma pa qa ra ta ua va opb nb sb mb pb' qb rb tb ub vb opc nc sc mc pc qc rc tc uc vc)) hBB6;have JY:=sH.size;have hszd:w5.drew.heap.size=w5.heap.size:=rfl;have hXA:=aI.off RZ.out O6 (fun b hb hn=>by have hb:b=p.pb:=hb;have hn:w1.heap.size<=b:=hn;omega);have hXB:=aI.off HXB.out O6 (fun b hb hn=>by have hb:b=p.pb:=hb;have hn:w3.heap.size<=b:=hn;omega);have hXC:=aI _ _ _ _ _ _ (bU.later (aA w6 (oBx8 opa na sa ma pa qa ra ta ua va opb nb sb mb pb' qb rb tb ub vb opc nc sc mc pc qc rc tc uc vc))) JC
 have vP:Hid (aO 6 bN (bQ w1.heap.size) (w6.alloc (oBx8 opa na sa ma pa qa ra ta ua va opb nb sb mb pb' qb rb tb ub vb opc nc sc mc pc qc rc tc uc vc)) (.slice (some ⟨w6.heap.size,0,none⟩) 3 3) [xa,xb,xc]):=zh (aO.of_block (css:=[[.int .i64 opa,.int .i64 na,.string sa,.string ma,.slice pa qa ra,.slice ta ua va],[.int .i64 opb,.int .i64 nb,.string sb,.string mb,.slice pb' qb rb,.slice tb ub vb],[.int .i64 opc,.int .i64 nc,.string sc,.string mc,.slice pc qc rc,.slice tc uc vc]]) hB6 (by show w1.heap.size<=w6.heap.size;omega) rfl YR (fun i y c hy hc=>by
  match i,hy,hc with
  |0,hy,hc=>cases hy;cases hc;exact hXA
  |1,hy,hc=>cases hy;cases hc;exact aI.wide hXB (fun b hb _=>by have hb:w3.heap.size<=b:=hb;show w1.heap.size<=b;omega)
  |2,hy,hc=>cases hy;cases hc;exact aI.wide hXC (fun b hb _=>by have hb:w5.drew.heap.size<=b:=hb;show w1.heap.size<=b;omega)) rfl YO)
 have IQ:=zh hA6;have DS:=zh (R5.out.trans O6);obtain⟨⟨r0,r1,r2,r3,r4,r5⟩,g0,g1,g2,g3,g4,g5⟩:=bx6 PB;clear hXA hXB hXC JC RZ HXB hB6 hA6 O6 PB;refine zr 4 rfl (fun K hK=>?_);go_simp;refine hK.out _ _ ⟨L4,hBB7⟩ (fun hS=>?_);clear hK K;refine zq 5 (eK 11 0 ⟨#[]⟩ ⟨#[]⟩ none 0 0 (some ⟨w6.heap.size,0,none⟩) 3 3) rfl ?_;try simp only[zn]
 refine zr 6 rfl (fun K hK=>?_);go_simp;have hE:=iO (x:=.mk 11 0 noB noB [] [xa,xb,xc]) (op:=11) (n:=0) (s:=⟨#[]⟩) (m:=⟨#[]⟩) (a1:=none) (n1:=0) (c1:=0) (a2:=some ⟨w6.heap.size,0,none⟩) (n2:=3) (c2:=3) HW.out DS.out IQ.out (by rw[aU];exact⟨_,_,rfl,YO,YO,aO.nil _ _ _ _,vP.out⟩) (fun b hb=>by have hb:w1.heap.size<=b:=hb;omega);have J4:=qQ (w6.alloc (oBx8 opa na sa ma pa qa ra ta ua va opb nb sb mb pb' qb rb tb ub vb opc nc sc mc pc qc rc tc uc vc)) w.heap.size (.int .i64 11) (.int .i64 0) (.string ⟨#[]⟩) (.string ⟨#[]⟩) (.slice none 0 0) (.slice (some ⟨w6.heap.size,0,none⟩) 3 3);have L3:=J4.heap YM L4;have hBB8:=J4.heap YM hBB7;unfold iP at hE L3 hBB8;have FL:=zh hE;clear hE J4 vP IQ DS;refine hK.out _ _ ⟨L3,hBB8⟩ (fun hS=>?_);clear hK K;refine zq 7 (.int .i64 0) rfl ?_;try simp only[zn]
 refine wpAnyH_done YN ?_ _;go_wp2_with fail;refine bodyPost_ret (v:=.tuple #[eK 11 0 ⟨#[]⟩ ⟨#[]⟩ none 0 0 (some ⟨w6.heap.size,0,none⟩) 3 3,.int .i64 0]) aAk rfl ?_;exact Ran.good (sA.out.trans (PR.bnd_ok uX)) ⟨⟨11,0,⟨#[]⟩,⟨#[]⟩,none,0,0,some ⟨w6.heap.size,0,none⟩,3,3,rfl,FL.out.1⟩,FL.out.2.1,YM⟩ FL.out.2.2
theorem X1{p:Prop}(h:p:=by
 exact⟨rfl,Ran.bad' (HR.out.trans (PR.bnd_bad sQ)) ((Ba (aA _ _)).trans (rX.trans (rS.trans (sB.trans (rY.trans sC)))))⟩):p:=h
theorem prefix_set(p:Prs)(f:Nat)(hE:iL p f)(w:World)(i:Nat)(h:p.At w i)(uK:p.l.length<=f+i)(qi:isP p.l i kIf=false)(ql:isP p.l i mT=false)(qs:isP p.l i oE=true):Calls Tryz.prog 134 #[.pointer (some ⟨p.pb,0,none⟩),.int .i64 0] w
  (Ran p.S w (cH p.l (bM p.l f) 0 i) (PreV p w i)):=by
 have HE:=zh hE;have HW:=zh h;have HR:Hid (cH p.l (bM p.l f) 0 i=(gK p.l (i+1)).bnd fun s j=>(bM p.l f 0 j).bnd fun a j2=>.ok ((.mk 18 0 s noB [] [a],0),j2)):=zh (by unfold cH;rw[if_neg (by rw[qi];simp),if_neg (by rw[ql];simp),if_pos ⟨rfl,qs⟩]);have uM:=zh (h.later (aA w (.cells bW 35)));have hlen:=h.len;have rO:w.heap.size≠p.pb:=ZC;have wQ:=h.blt;have xD:(w.alloc (.cells bW 35)).heap.size=w.heap.size+1:=YR;clear h hE;go_enter Tryz.func134,Tryz.ntmps134;go_wp2_with(first|(go_at_call 48;have vX:=zh (show w.heap.size<w4.heap.size from(Array.getElem?_eq_some_iff.1 (rY.heap rO (sB.heap rO (rS.heap rO (rX.heap rO (bY w _)))))).1);refine(HE.out 0 j4 w4 uA YM (by have:=gU sI;omega)).mono ?_;rintro e w5 (⟨y5,sQ,rfl,sC⟩|⟨xa,j5,sQ,⟨⟨opa,na,sa,ma,pa,qa,ra,ta,ua,va,rfl,zJ⟩,uS,I7⟩,sC⟩)<;>have GE:=zh (sC.heap rO (rY.heap rO (sB.heap rO (rS.heap rO (rX.heap rO (bY w _))))))<;>obtain⟨⟨r0,r1,r2,r3,r4,r5⟩,g0,g1,g2,g3,g4,g5⟩:=bx6 GE.out<;>have LQ:w.heap.size<w5.heap.size:=(Array.getElem?_eq_some_iff.1 GE.out).1<;>have ON:¬w.heap.size=w5.heap.size:=YM)|(go_at_call 111;refine(gJ p w3 (i+1) uF).mono ?_;rintro e w4 (⟨y4,sI,rfl,rY⟩|⟨ns,j4,sI,⟨rfl,uA,tK⟩,rY⟩))|(go_at_call 120;refine(gM p w2 i oE sS qs).mono ?_;rintro e w3 ⟨rfl,uF,sB⟩)|(go_at_call 120;refine(bG p w1 i mT sG ql).mono ?_;rintro e w2 ⟨rfl,sS,rS⟩)|(go_at_call 120;refine(bG p (w.alloc (.cells bW 35)) i kIf uM.out qi).mono ?_;rintro e w1 ⟨rfl,sG,rX⟩))
 ·exact⟨rfl,Ran.bad' (HR.out.trans (PR.bnd_bad sI)) ((Ba (aA _ _)).trans (rX.trans (rS.trans (sB.trans rY))))⟩
 ·exact⟨rfl,Ran.bad' (HR.out.trans ((PR.bnd_ok sI).trans (PR.bnd_bad sQ))) ((Ba (aA _ _)).trans (rX.trans (rS.trans (sB.trans (rY.trans sC)))))⟩
 have hj4:=gU sI;have hz:=sC.size
 have vP:aO 6 bN (bQ w4.heap.size) (w5.alloc (aN opa na sa ma pa qa ra ta ua va)) (.slice (some ⟨w5.heap.size,0,none⟩) 1 1) [xa]:=aO.of_block (css:=[[.int .i64 opa,.int .i64 na,.string sa,.string ma,.slice pa qa ra,.slice ta ua va]]) (bY w5 _) (by show w4.heap.size<=w5.heap.size;omega) rfl YR (fun i y c hy hc=>by
  match i,hy,hc with
  |0,hy,hc=>cases hy;cases hc;exact aI _ _ _ _ _ _ (bU.later (aA w5 _)) zJ) rfl YO
 have hE:=pL (x:=.mk 18 0 ns noB [] [xa]) (op:=18) (n:=0) (s:=ns) (m:=⟨#[]⟩) (a1:=none) (n1:=0) (c1:=0) (a2:=some ⟨w5.heap.size,0,none⟩) (n2:=1) (c2:=1) HW.out (w:=w5) ((Ba (aA _ _)).trans (rX.trans (rS.trans (sB.trans (rY.trans sC))))) uS LQ (by rw[aU];exact⟨_,_,rfl,tK,YO,aO.nil _ _ _ _,vP⟩) (fun b hb=>by have hb:w4.heap.size<=b:=hb;have:=vX.out;omega);unfold iP at hE;refine bodyPost_ret (v:=.tuple #[eK 18 0 ns ⟨#[]⟩ none 0 0 (some ⟨w5.heap.size,0,none⟩) 1 1,.int .i64 0]) (by simp[results,Tryz.results134,go_sem,r0,r1,r2,r3,r4,r5,LQ]) rfl ?_;exact Ran.good (HR.out.trans ((PR.bnd_ok sI).trans (PR.bnd_ok sQ))) ⟨⟨18,0,ns,⟨#[]⟩,none,0,0,some ⟨w5.heap.size,0,none⟩,1,1,rfl,hE.1⟩,hE.2.1,YM⟩ hE.2.2
theorem prefix_not0(p:Prs)(f:Nat)(hE:iL p f)(w:World)(i:Nat)(h:p.At w i)(uK:p.l.length<=f+i)(qi:isP p.l i kIf=false)(ql:isP p.l i mT=false)(qs:isP p.l i oE=false)(qn:isP p.l i nR=true):Calls Tryz.prog 134 #[.pointer (some ⟨p.pb,0,none⟩),.int .i64 0] w
  (Ran p.S w (cH p.l (bM p.l f) 0 i) (PreV p w i)):=by
 have HE:=zh hE;have HW:=zh h;have HR:Hid (cH p.l (bM p.l f) 0 i=(bM p.l f 3 (i+1)).bnd fun a j=>.ok ((.mk 10 0 noB noB [] [a],3),j)):=zh (by unfold cH;rw[if_neg (by rw[qi];simp),if_neg (by rw[ql];simp),if_neg (by rw[qs];simp),if_pos ⟨YO,qn⟩]);have uM:=zh (h.later (aA w (.cells bW 35)));have hlen:=h.len;have rO:w.heap.size≠p.pb:=ZC;have wQ:=h.blt;have xD:(w.alloc (.cells bW 35)).heap.size=w.heap.size+1:=YR;clear h hE;go_enter Tryz.func134,Tryz.ntmps134;go_wp2_with(first|(go_at_call 48;have vX:=zh (show w.heap.size<w4.heap.size from(Array.getElem?_eq_some_iff.1 (rY.heap rO (sB.heap rO (rS.heap rO (rX.heap rO (bY w _)))))).1);refine(HE.out 3 (i+1) w4 uA YM YM).mono ?_;rintro e w5 (⟨y5,sQ,rfl,sC⟩|⟨xa,j5,sQ,⟨⟨opa,na,sa,ma,pa,qa,ra,ta,ua,va,rfl,zJ⟩,uS,I7⟩,sC⟩)<;>have GE:=zh (sC.heap rO (rY.heap rO (sB.heap rO (rS.heap rO (rX.heap rO (bY w _))))))<;>obtain⟨⟨r0,r1,r2,r3,r4,r5⟩,g0,g1,g2,g3,g4,g5⟩:=bx6 GE.out<;>have LQ:w.heap.size<w5.heap.size:=(Array.getElem?_eq_some_iff.1 GE.out).1<;>have ON:¬w.heap.size=w5.heap.size:=YM)|(go_at_call 120;refine(gM p w3 i nR uF qn).mono ?_;rintro e w4 ⟨rfl,uA,rY⟩)|(go_at_call 120;refine(bG p w2 i oE sS qs).mono ?_;rintro e w3 ⟨rfl,uF,sB⟩)|(go_at_call 120;refine(bG p w1 i mT sG ql).mono ?_;rintro e w2 ⟨rfl,sS,rS⟩)|(go_at_call 120;refine(bG p (w.alloc (.cells bW 35)) i kIf uM.out qi).mono ?_;rintro e w1 ⟨rfl,sG,rX⟩))
 ·exact X1
 have hz:=sC.size
 have vP:aO 6 bN (bQ w4.heap.size) (w5.alloc (aN opa na sa ma pa qa ra ta ua va)) (.slice (some ⟨w5.heap.size,0,none⟩) 1 1) [xa]:=aO.of_block (css:=[[.int .i64 opa,.int .i64 na,.string sa,.string ma,.slice pa qa ra,.slice ta ua va]]) (bY w5 _) (by show w4.heap.size<=w5.heap.size;omega) rfl YR (fun i y c hy hc=>by
  match i,hy,hc with
  |0,hy,hc=>cases hy;cases hc;exact aI _ _ _ _ _ _ (bU.later (aA w5 _)) zJ) rfl YO
 have hE:=pL (x:=.mk 10 0 noB noB [] [xa]) (op:=10) (n:=0) (s:=⟨#[]⟩) (m:=⟨#[]⟩) (a1:=none) (n1:=0) (c1:=0) (a2:=some ⟨w5.heap.size,0,none⟩) (n2:=1) (c2:=1) HW.out (w:=w5) ((Ba (aA _ _)).trans (rX.trans (rS.trans (sB.trans (rY.trans sC))))) uS LQ aBu (fun b hb=>by have hb:w4.heap.size<=b:=hb;have:=vX.out;omega);unfold iP at hE;refine bodyPost_ret (v:=.tuple #[eK 10 0 ⟨#[]⟩ ⟨#[]⟩ none 0 0 (some ⟨w5.heap.size,0,none⟩) 1 1,.int .i64 3]) (by simp[results,Tryz.results134,go_sem,r0,r1,r2,r3,r4,r5,LQ]) rfl ?_;exact Ran.good (HR.out.trans (PR.bnd_ok sQ)) ⟨⟨10,0,⟨#[]⟩,⟨#[]⟩,none,0,0,some ⟨w5.heap.size,0,none⟩,1,1,rfl,hE.1⟩,hE.2.1,YM⟩ hE.2.2
theorem prefix_not(p:Prs)(f:Nat)(hE:iL p f)(w:World)(i:Nat)(form:Nat)(hf:form<=9)(h:p.At w i)(uK:p.l.length<=f+i)(xL:0<form)(TD:form<=3)(qn:isP p.l i nR=true):Calls Tryz.prog 134 #[.pointer (some ⟨p.pb,0,none⟩),.int .i64 (form:Int)] w
  (Ran p.S w (cH p.l (bM p.l f) form i) (PreV p w i)):=by
 have HE:=zh hE;have HW:=zh h;have HR:Hid (cH p.l (bM p.l f) form i=(bM p.l f 3 (i+1)).bnd fun a j=>.ok ((.mk 10 0 noB noB [] [a],3),j)):=zh (by unfold cH;rw[if_neg YM,if_neg YM,if_neg YM,if_pos ⟨TD,qn⟩]);have uM:=zh (h.later (aA w (.cells bW 35)));have hlen:=h.len;have rO:w.heap.size≠p.pb:=ZC;have wQ:=h.blt;have xD:(w.alloc (.cells bW 35)).heap.size=w.heap.size+1:=YR;clear h hE;have hfe:((form:Int)==0)=false:=YV;have RD:(form:Int)<=3:=YM;have hfn:¬(form:Int)=0:=YM;go_enter Tryz.func134,Tryz.ntmps134;go_wp2_with(first|(go_at_call 48;have sT:=zh (show w.heap.size<w1.heap.size from(Array.getElem?_eq_some_iff.1 (rX.heap rO (bY w _))).1);refine(HE.out 3 (i+1) w1 sG YM YM).mono ?_;rintro e w2 (⟨y2,rV,rfl,rS⟩|⟨xa,j2,rV,⟨⟨opa,na,sa,ma,pa,qa,ra,ta,ua,va,rfl,zJ⟩,sS,hij2⟩,rS⟩)<;>have PC:=zh (rS.heap rO (rX.heap rO (bY w _)))<;>obtain⟨⟨r0,r1,r2,r3,r4,r5⟩,g0,g1,g2,g3,g4,g5⟩:=bx6 PC.out<;>have hbl2:w.heap.size<w2.heap.size:=(Array.getElem?_eq_some_iff.1 PC.out).1<;>have zA:¬w.heap.size=w2.heap.size:=YM)|(go_at_call 120;refine(gM p (w.alloc (.cells bW 35)) i nR uM.out qn).mono ?_;rintro e w1 ⟨rfl,sG,rX⟩))
 ·exact⟨rfl,Ran.bad' (HR.out.trans (PR.bnd_bad rV)) ((Ba (aA _ _)).trans (rX.trans rS))⟩
 have hz:=rS.size
 have vP:aO 6 bN (bQ w1.heap.size) (w2.alloc (aN opa na sa ma pa qa ra ta ua va)) (.slice (some ⟨w2.heap.size,0,none⟩) 1 1) [xa]:=aO.of_block (css:=[[.int .i64 opa,.int .i64 na,.string sa,.string ma,.slice pa qa ra,.slice ta ua va]]) (bY w2 _) (by show w1.heap.size<=w2.heap.size;omega) rfl YR (fun i y c hy hc=>by
  match i,hy,hc with
  |0,hy,hc=>cases hy;cases hc;exact aI _ _ _ _ _ _ (bU.later (aA w2 _)) zJ) rfl YO
 have hE:=pL (x:=.mk 10 0 noB noB [] [xa]) (op:=10) (n:=0) (s:=⟨#[]⟩) (m:=⟨#[]⟩) (a1:=none) (n1:=0) (c1:=0) (a2:=some ⟨w2.heap.size,0,none⟩) (n2:=1) (c2:=1) HW.out (w:=w2) ((Ba (aA _ _)).trans (rX.trans rS)) sS hbl2 aBu (fun b hb=>by have hb:w1.heap.size<=b:=hb;have:=sT.out;omega);unfold iP at hE;refine bodyPost_ret (v:=.tuple #[eK 10 0 ⟨#[]⟩ ⟨#[]⟩ none 0 0 (some ⟨w2.heap.size,0,none⟩) 1 1,.int .i64 3]) (by simp[results,Tryz.results134,go_sem,r0,r1,r2,r3,r4,r5,hbl2]) rfl ?_;exact Ran.good (HR.out.trans (PR.bnd_ok rV)) ⟨⟨10,0,⟨#[]⟩,⟨#[]⟩,none,0,0,some ⟨w2.heap.size,0,none⟩,1,1,rfl,hE.1⟩,hE.2.1,YM⟩ hE.2.2
end Go.Proofs.YtiionicikdnnpaaGreatDoor
