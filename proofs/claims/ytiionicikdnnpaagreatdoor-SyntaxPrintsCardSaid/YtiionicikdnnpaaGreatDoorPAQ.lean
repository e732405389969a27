/- Texts of this seat, joined. -/
import Derived.Test.YtiionicikdnnpaaGreatDoorAppAll
import Derived.Test.YtiionicikdnnpaaGreatDoorPAK
set_option maxHeartbeats 16000000
set_option maxRecDepth 100000
set_option linter.unusedVariables false
set_option linter.unusedSimpArgs false
set_option linter.constructorNameAsVariable false
namespace Go.Proofs.YtiionicikdnnpaaGreatDoor
open Go.RowKit
section
variable {α:Type} {k:Nat} {enc:(Nat->Prop)->World->α->List Value->Prop} {N:Nat->Prop} {w w':World} {b o:Nat} {l:List α} {css:List (List Value)}
def CssOf(k:Nat)(enc:(Nat->Prop)->World->α->List Value->Prop)(N:Nat->Prop)(w:World)(b o:Nat)(l:List α)(css:List (List Value)):Prop:=
 css.length=l.length/\∀i x,l[i]? =some x->∃cs,css[i]? =some cs/\enc N w x cs/\cs.length=k/\∀j u,cs[j]? =some u->w.cell? ⟨b,o+i*k+j,none⟩=some u
theorem CssOf.later(he:eF enc)(h:CssOf k enc N w b o l css)(hb:Below w.heap.size w w'):CssOf k enc N w' b o l css:=
 ⟨h.1,fun i x hx=>by
  obtain⟨cs,h1,h2,h3,h4⟩:=h.2 i x hx
  exact⟨cs,h1,he _ _ _ _ _ _ (aK.later hb) h2,h3,fun j u hu=>aB hb (h4 j u hu)⟩⟩
theorem CssOf.at_(h:CssOf k enc N w b o l css){i:Nat}{c:List Value}(hc:css[i]? =some c):∃x,l[i]? =some x/\enc N w x c/\c.length=k/\∀j u,c[j]? =some u->w.cell? ⟨b,o+i*k+j,none⟩=some u:=by
 have hi:=(Yb.1 hc).1;rw[h.1] at hi;obtain⟨cs,h1,h2,h3,h4⟩:=h.2 i _ (List.getElem?_eq_getElem hi);rw[hc] at h1;cases h1;exact⟨_,List.getElem?_eq_getElem hi,h2,h3,h4⟩
theorem CssOf.ks(h:CssOf k enc N w b o l css):∀c∈css,c.length=k:=fun c hc=>by
 obtain⟨i,hi⟩:=List.mem_iff_getElem?.1 hc;obtain⟨x,-,-,h3,-⟩:=h.at_ hi;exact h3
theorem CssOf.one(he:eF enc)(h:CssOf k enc N w b o l css){f c:Nat}{y:α}(hf:l[f]? =some y)(hc:1<=c)(tJ:c<=9223372036854775807):aO k enc (fun _=>True) w (.slice (some ⟨b,o+f*k,none⟩) 1 c) [y]:=by
 obtain⟨cs,h1,h2,h3,h4⟩:=h.2 f y hf;refine⟨_,c,rfl,by simpa using hc,tJ,fun _=>⟨b,o+f*k,rfl,trivial,fun i x hx=>?_⟩⟩
 cases i with
 |succ i=>simp at hx
 |zero=>
  simp at hx;subst hx;exact⟨cs,he _ _ _ _ _ _ (fun b _ _=>⟨trivial,fun o v h=>h⟩) h2,h3,fun j u hu=>by rw[Nat.zero_mul,Nat.add_zero];exact h4 j u hu⟩
end
end Go.Proofs.YtiionicikdnnpaaGreatDoor
namespace Go.Proofs.YtiionicikdnnpaaGreatDoor
open Go.RowKit
theorem VG{p:Prop}(h:p:=by
 go_wp2_with fail;refine HC.out.mono ?_;rintro e w2 ⟨rfl,pM⟩;go_wp2_with fail;go_ret
 exact⟨rfl,aA pK.out pM⟩):p:=h
theorem mA{α:Type}{p:α->Bool}{l:List α}{q:Nat}{x:α}(hx:l[q]? =some x)(hp:p x=false):l.all p=false:=by
 rw[<-Bool.not_eq_true];intro h;have:=List.all_eq_true.1 h x (List.mem_of_getElem? hx);rw[hp] at this;cases this
theorem allX_ok{α:Type}{p:α->Bool}{l:List α}{q:Nat}(h:∀x∈l.take q,p x=true)(hq:l.length<=q):l.all p=true:=List.all_eq_true.2 (lZ h hq)
def FoX(d:Nat):Prop:=∀(x:Xp)(N:Nat->Prop)(cx:List Value)(w:World),d<=100->aU N w x cx->
 Calls Tryz.prog 93 #[.agg cx.toArray,.int .i64 (d:Int)] w fun e w'=>e=.returned (.bool (aJ d x))/\Below w.heap.size w w'
theorem form_zero:FoX 0:=by
 rintro⟨op,n,s,m,ns,xs⟩ N cx w hd hx;have EQ:=hx;rw[aN] at hx;obtain⟨v1,v2,rfl,-,-,hn,ha⟩:=hx;obtain⟨a1,c1,rfl,-⟩:=id hn;obtain⟨a2,c2,rfl,vD,vC,qB⟩:=ha.at;have HA:=zh qB;have pK:=zh (aC w (aH op n s m a1 ns.length c1 a2 xs.length c2));have HX:=zh (bY w (aH op n s m a1 ns.length c1 a2 xs.length c2));have hX:=HX.out;obtain⟨⟨x0,x1,x2,x3,x4,x5⟩,-⟩:=bx6 hX;clear hX qB hn ha EQ;go_enter Tryz.func93,Tryz.ntmps93;go_wp2_with fail;go_ret;exact⟨rfl,pK.out⟩
theorem form_step(d:Nat)(hD:FoX d):FoX (d+1):=by
 rintro⟨op,n,s,m,ns,xs⟩ N cx w hd hx;have EQ:=hx;rw[aN] at hx;obtain⟨v1,v2,rfl,-,-,hn,ha⟩:=hx;obtain⟨a1,c1,rfl,-⟩:=id hn;obtain⟨a2,c2,rfl,vD,vC,qB⟩:=ha.at;have HA:=zh qB;have pK:=zh (aC w (aH op n s m a1 ns.length c1 a2 xs.length c2));have HX:=zh (bY w (aH op n s m a1 ns.length c1 a2 xs.length c2));have hX:=HX.out;obtain⟨⟨x0,x1,x2,x3,x4,x5⟩,-⟩:=bx6 hX;have HE:=zh (fun W(hb:Below w.heap.size w W)=>aG _ _ _ _ _ _ (aK.later hb) EQ);have HD:=zh hD;have HR:=zh (rx_node d op n s m ns xs);have hc:((d+1:Nat):Int)=(d:Int)+1:=VS;rw[hc];have hz:(((d:Int)+1)==0)=false:=V7;have hw:IntKind.i64.wrap ((d:Int)+1-1)=(d:Int):=ZA;clear hX qB hn ha EQ hD hc;generalize aJ (d+1) (.mk op n s m ns xs)=R at *;go_enter Tryz.func93,Tryz.ntmps93;go_wp2_with fail;refine(rflat_any op n s m ns xs (HE.out _ pK.out)).mono ?_;rintro e w2 ⟨rfl,pM⟩;have pQ:=zh (aA pK.out pM);have qX:=zh (aD pM HX.out);have pW:=qX.out;clear x0 x1 x2 x3 x4 x5 pM;obtain⟨⟨x0,x1,x2,x3,x4,x5⟩,-⟩:=bx6 pW;clear pW;generalize cD op n s m ns xs=nb at HR ⊢
 cases nb with
 |false=>
  exact SR
 |true=>
  go_wp2_with fail;go_loopw [5] (fun iv wr=>∃q:Nat,q<=xs.length/\iv=.int .i64 (q:Int)/\Hid (Below w2.heap.size w2 wr)/\Hid (∀y∈xs.take q,aJ d y=true)) (fun iv _=>xs.length-(intOf iv).toNat)
  case atStart=>exact⟨0,Nat.zero_le _,rfl,zh (Below.refl _ _),zh VY⟩
  case round=>
   obtain⟨q,hq,rfl,HW,HT⟩:=hrel;(rename World=>wr);have pW:=aD HW.out qX.out;clear x0 x1 x2 x3 x4 x5;obtain⟨⟨x0,x1,x2,x3,x4,x5⟩,-⟩:=bx6 pW;clear pW;have qZ:=zh (aA pQ.out HW.out);by_cases pS:q<xs.length
   ·obtain⟨x,hx,-⟩:=getElem?_of_lt pS;have sL:(0:Int)<=(q:Int)/\(q:Int)<(xs.length:Int):=VS;have uT:=zh hx;obtain⟨b1,o1,rfl,-,uG,qF,-,pO⟩:=HA.out q x hx;obtain⟨rW,n1,s1,m1,i1,j1,k1,u1,z1,t1,rfl⟩:=aZ qF;have rG:wr.cell? ⟨b1,o1+q*6,none⟩=some (.int .i64 rW):=aB qZ.out (pO 0 _ rfl);have rF:=aB qZ.out (pO 1 _ rfl);have rI:=aB qZ.out (pO 2 _ rfl);have sG:=aB qZ.out (pO 3 _ rfl);have sF:=aB qZ.out (pO 4 _ rfl);have sD:=aB qZ.out (pO 5 _ rfl);have HC:=zh (HD.out x N _ wr VS (aG _ _ _ _ _ _ (aK.later qZ.out) qF));clear pO hx qF;go_wp2_with fail;refine HC.out.mono ?_;rintro e w8 ⟨rfl,qM⟩;have rR:=zh (aA HW.out qM);clear qM HC rG rF rI sG sF sD x0 x1 x2 x3 x4 x5
    cases xR:aJ d x with
    |true=>
     have uF:=zh (iK uT.out HT.out xR);exact SH
    |false=>
     have HF:Hid (R=false):=zh (by rw[HR.out,mA uT.out xR];rfl);go_wp2_with fail;go_ret;exact⟨aF WI,aA pQ.out rR.out⟩
   have HF:Hid (R=true):=zh (by rw[HR.out,allX_ok HT.out VS];rfl);go_wp2_with fail;go_ret;exact⟨aF WI,qZ.out⟩
theorem foX_all:∀d,FoX d
 |0=>form_zero
 |d+1=>form_step d (foX_all d)
theorem lL(x:Xp){N:Nat->Prop}{cx:List Value}{w:World}(hx:aU N w x cx):
  Calls Tryz.prog 28 #[.agg cx.toArray] w fun e w'=>e=.returned (.bool (aJ 12 x))/\Below w.heap.size w w':=by
 obtain⟨op,n,s,m,i1,j1,k1,u1,z1,t1,rfl⟩:=aZ hx;have pK:=zh (aC w (aH op n s m i1 j1 k1 u1 z1 t1));have hX:=bY w (aH op n s m i1 j1 k1 u1 z1 t1);obtain⟨⟨x0,x1,x2,x3,x4,x5⟩,-⟩:=bx6 hX;have HC:=zh (foX_all 12 x N _ (w.alloc (aH op n s m i1 j1 k1 u1 z1 t1)) VU (aG _ _ _ _ _ _ (aK.later pK.out) hx));clear hX hx;go_enter Tryz.func28,Tryz.ntmps28;exact VG
theorem rall_any(l:List Xp){N:Nat->Prop}{v:Value}{w:World}(hv:aO 6 aU N w v l):
  Calls Tryz.prog 84 #[v] w fun e w'=>e=.returned (.bool (l.all (aJ 12)))/\Below w.heap.size w w':=by
 obtain⟨a1,c1,rfl,vD,vC,qB⟩:=hv.at;have HA:=zh qB;clear qB hv;have HR:Hid (l.all (aJ 12)=l.all (aJ 12)):=zh rfl;go_enter Tryz.func84,Tryz.ntmps84;go_wp2_with fail;go_loopw [3] (fun iv wr=>∃q:Nat,q<=l.length/\iv=.int .i64 (q:Int)/\Hid (Below w.heap.size w wr)/\Hid (∀y∈l.take q,aJ 12 y=true)) (fun iv _=>l.length-(intOf iv).toNat)
 case atStart=>exact⟨0,Nat.zero_le _,rfl,zh (Below.refl _ _),zh VY⟩
 case round=>
  obtain⟨q,hq,rfl,HW,HT⟩:=hrel;rename World=>wr
  by_cases pS:q<l.length
  ·obtain⟨x,hx,-⟩:=getElem?_of_lt pS;have sL:(0:Int)<=(q:Int)/\(q:Int)<(l.length:Int):=VS;have uT:=zh hx;obtain⟨b1,o1,rfl,-,uG,qF,-,pO⟩:=HA.out q x hx;obtain⟨rW,n1,s1,m1,i1,j1,k1,u1,z1,t1,rfl⟩:=aZ qF;have rG:wr.cell? ⟨b1,o1+q*6,none⟩=some (.int .i64 rW):=aB HW.out (pO 0 _ rfl);have rF:=aB HW.out (pO 1 _ rfl);have rI:=aB HW.out (pO 2 _ rfl);have sG:=aB HW.out (pO 3 _ rfl);have sF:=aB HW.out (pO 4 _ rfl);have sD:=aB HW.out (pO 5 _ rfl);have HC:=zh (lL x (aG _ _ _ _ _ _ (aK.later HW.out) qF));clear pO hx qF;go_wp2_with fail;refine HC.out.mono ?_;rintro e w8 ⟨rfl,qM⟩;have rR:=zh (aA HW.out qM);clear qM HC rG rF rI sG sF sD
   cases xR:aJ 12 x with
   |true=>
    have uF:=zh (iK uT.out HT.out xR);exact SH
   |false=>
    have HF:=zh (mA uT.out xR);go_wp2_with fail;exact UO
  have HF:=zh (allX_ok HT.out VS);exact VK
theorem UX{p:Prop}(h:p:=by
 clear qM HC rG rF rI sG sF sD;go_wp2_with fail;go_roundw;case rel=>exact⟨q+1,VS,WH,by rw[HN.out],rR⟩
 case measure=>simp[intOf];omega):p:=h
theorem bX_le:∀d:Fin 13,bX d.val<=2041950165844:=XQ
theorem dG{d:Nat}(hd:d<=12){x:Xp}(h:aJ d x=true)(lv:Nat):(Tx x lv).size<=2041950165844:=by
 have h1:=exp_size d x h;have h2:bX d<=2041950165844:=bX_le ⟨d,VS⟩
 have h3:(Jn (aI x)).size<=tsz (aI x):=by
  rw[jn_size,<-pH];exact emit_size false _
 rw[tx_own];split
 ·rw[ByteArray.size_append,ByteArray.size_append];have e1:(⟨#[40,32]⟩:bA).size=2:=rfl;have e2:(⟨#[32,41]⟩:bA).size=2:=rfl;omega
 omega
def oH(d:Nat):Prop:=∀(x:Xp)(N:Nat->Prop)(cx:List Value)(w:World)(lv:Nat),lv<=8->aJ d x=true->aU N w x cx->
 Calls Tryz.prog 76 #[.agg cx.toArray,.int .i64 (lv:Int)] w fun e w'=>e=.returned (.string (Tx x lv))/\Below w.heap.size w w'
theorem ls_nil:Ls []=⟨#[]⟩:=by unfold Ls;rw[if_pos rfl]
theorem ls_size{d:Nat}(hd:d<=12){l:List Xp}(h:∀x∈l,aJ d x=true):∀q,q<=l.length->(Ls (l.take q)).size<=q*2041950165850
 |0,_=>by rw[List.take_zero,ls_nil];exact Nat.zero_le _
 |q+1,hq=>by
  obtain⟨x,hx,hm⟩:=getElem?_of_lt (show q<l.length by omega);have h1:=ls_size hd h q VS;have h2:=dG hd (h x (List.mem_of_getElem? hx)) 0;rw[ls_step hx,ByteArray.size_append,ByteArray.size_append];have e1:(⟨#[32]⟩:bA).size=1:=rfl;have e2:(⟨#[44,32]⟩:bA).size=2:=rfl;split
  ·omega
  rw[ByteArray.size_append];omega
theorem rlist_of{d:Nat}(hd:d<=12)(hD:oH d)(l:List Xp)(hr:∀x∈l,aJ d x=true)(hl:l.length<=10){N:Nat->Prop}{v:Value}{w:World}(hv:aO 6 aU N w v l):
  Calls Tryz.prog 79 #[v] w fun e w'=>e=.returned (.string (Ls l))/\Below w.heap.size w w':=by
 obtain⟨a1,c1,rfl,vD,vC,qB⟩:=hv.at;have HA:=zh qB;have HD:=zh hD;have HRg:=zh hr;have HSz:=zh (ls_size hd hr);clear qB hv hD hr;go_enter Tryz.func79,Tryz.ntmps79;go_wp2_with fail;go_loopw [3,4] (fun sv iv wr=>∃q:Nat,q<=l.length/\iv=.int .i64 (q:Int)/\sv=.string (Ls (l.take q))/\Hid (Below w.heap.size w wr)) (fun _ iv _=>l.length-(intOf iv).toNat)
 case atStart=>exact⟨0,Nat.zero_le _,rfl,by rw[List.take_zero,ls_nil],zh (Below.refl _ _)⟩
 case round=>
  obtain⟨q,hq,rfl,rfl,HW⟩:=hrel;rename World=>wr
  by_cases pS:q<l.length
  ·obtain⟨x,hx,-⟩:=getElem?_of_lt pS;have sL:(0:Int)<=(q:Int)/\(q:Int)<(l.length:Int):=VS;have E1:=zh (ls_step hx);have tS:=HSz.out q hq;have xR:=HRg.out x (List.mem_of_getElem? hx);have rZ:=dG hd xR 0;obtain⟨b1,o1,rfl,-,uG,qF,-,pO⟩:=HA.out q x hx;obtain⟨rW,n1,s1,m1,i1,j1,k1,u1,z1,t1,rfl⟩:=aZ qF;have rG:wr.cell? ⟨b1,o1+q*6,none⟩=some (.int .i64 rW):=aB HW.out (pO 0 _ rfl);have rF:=aB HW.out (pO 1 _ rfl);have rI:=aB HW.out (pO 2 _ rfl);have sG:=aB HW.out (pO 3 _ rfl);have sF:=aB HW.out (pO 4 _ rfl);have sD:=aB HW.out (pO 5 _ rfl);have HC:=zh (HD.out x N _ wr 0 VU xR (aG _ _ _ _ _ _ (aK.later HW.out) qF));clear pO hx qF xR
   have OU:(Ls (l.take q)).size<=20419501658500:=by
    have:q*2041950165850<=10*2041950165850:=Nat.mul_le_mul_right _ VS;omega
   clear tS;generalize Tx x 0=t0 at *;generalize Ls (l.take q)=sq at *;by_cases h0:q=0
   ·have HN:Hid (Ls (l.take (q+1))=(sq++t0)++⟨#[32]⟩):=zh (by rw[E1.out,if_pos h0]);have hn:¬0<q:=VS;have hdq:decide (0<q)=false:=decide_eq_false hn;clear h0 E1;go_wp2_with fail;refine HC.out.mono ?_;rintro e w8 ⟨rfl,qM⟩;have rR:=zh (aA HW.out qM);have LF:(sq++t0).size<=30000000000000:=WJ;exact UX
   have HN:Hid (Ls (l.take (q+1))=((sq++⟨#[44,32]⟩)++t0)++⟨#[32]⟩):=zh (by rw[E1.out,if_neg h0]);have hn:0<q:=VS;have hzc:(sq++⟨#[44,32]⟩).size<=25000000000000:=XG;clear h0 E1;go_wp2_with fail;refine HC.out.mono ?_;rintro e w8 ⟨rfl,qM⟩;have rR:=zh (aA HW.out qM);have LF:(sq++⟨#[44,32]⟩++t0).size<=30000000000000:=WJ;exact UX
  have HE:Hid (l.take q=l):=zh (List.take_of_length_le VS);exact VN
end Go.Proofs.YtiionicikdnnpaaGreatDoor
