/- Texts of this seat, joined. -/
import Derived.Test.YtiionicikdnnpaaGreatDoorPU
set_option maxHeartbeats 2000000
set_option maxRecDepth 100000
set_option linter.unusedVariables false
set_option linter.unusedSimpArgs false
set_option linter.constructorNameAsVariable false
namespace Go.Proofs.YtiionicikdnnpaaGreatDoor
open Go.RowKit
theorem SW{p:Prop}(h:p:=by
 have HR:=zh hR;clear hR hn;go_wp2_with(go_at_call 17;refine(HM.out _ (zR.out.later (by repeat(first|exact Below.refl _ _|refine Below.drew ?_|refine Below.alloc ?_ VY _)))).mono ?_;rintro e w3 ⟨rfl,rfl⟩);go_ret
 exact⟨aF WP,aA qN.out (by repeat(first|exact Below.refl _ _|refine Below.drew ?_|refine Below.alloc ?_ VY _))⟩):p:=h
theorem TP{p:Prop}(h:p:=by
 try simp only[zn]
 refine wpAnyH_take (i:=15) (v:=.bool true) rfl VT VT VT (fun _ _ _ h=>h) (Or.inl ⟨VT,fun W hW=>VV⟩) tX ?_;try simp only[zn]
 refine wpAnyH_done VT ?_ _;go_wp2_with fail;go_ret
 exact⟨aF HR.out.symm,aA (aE w) pN⟩):p:=h
theorem tok_at{l:List Tok}{i:Nat}(h:i<l.length):l[i]? =some (aM l i):=by
 unfold aM;rw[List.getD_eq_getElem?_getD,List.getElem?_eq_getElem h];rfl
theorem dotted_any(p:Prs)(w:World)(i:Nat)(h:p.At w i):Calls Tryz.prog 221 #[.pointer (some ⟨p.pb,0,none⟩)] w fun e w'=>e=.returned (.bool (fF p.l i))/\Below w.heap.size w w':=by
 have HA:=zh h;have HI:=zh (fun W(hW:p.At W i)=>fU p W i kG hW)
 cases hq:isP p.l i kG with
 |false=>
  have HR:Hid (fF p.l i=false):=zh (by unfold fF;rw[hq];rfl);rw[hq] at HI;clear h hq;go_enter Tryz.func221,Tryz.ntmps221;go_wp2_with fail;have hS:p.At w.drew i:=HA.out.later (aE _);refine wp_region_held_drew (S:=fun W=>p.At W i) VT hS fun hS=>?_;refine zq 0 (.pointer (some ⟨p.pb,0,none⟩)) rfl ?_;try simp only[zn]
  refine wpAnyH_ready (rs:=[1]) VT VY ?_;refine AllReadyH.cons rfl (fun K hK=>?_) AllReadyH.nil;rw[if_pos W7];go_simp;refine(HI.out _ hS).mono ?_;rintro e w1 ⟨rfl,pN⟩;refine hK.out _ _ (hS.later pN) (fun tX=>?_);clear hK K;try simp only[zn]
  refine wpAnyH_take (i:=2) (v:=.bool true) rfl VT VT VT (fun _ _ _ h=>h) (Or.inl ⟨VT,fun W hW=>VV⟩) tX ?_;try simp only[zn]
  refine wpAnyH_take (i:=3) (v:=.bool true) rfl VT VT VT (fun _ _ _ h=>h) (Or.inl ⟨VT,fun W hW=>VV⟩) tX ?_;try simp only[zn]
  refine wpAnyH_take (i:=4) (v:=undef) rfl VT VT VT (fun _ _ _ h=>h) (Or.inr ⟨VT,rfl⟩) tX ?_;try simp only[zn]
  refine wpAnyH_take (i:=5) (v:=undef) rfl VT VT VT (fun _ _ _ h=>h) (Or.inr ⟨VT,rfl⟩) tX ?_;try simp only[zn]
  refine wpAnyH_take (i:=6) (v:=undef) rfl VT VT VT (fun _ _ _ h=>h) (Or.inr ⟨VT,rfl⟩) tX ?_;try simp only[zn]
  refine wpAnyH_take (i:=7) (v:=undef) rfl VT VT VT (fun _ _ _ h=>h) (Or.inr ⟨VT,rfl⟩) tX ?_;try simp only[zn]
  refine wpAnyH_take (i:=8) (v:=undef) rfl VT VT VT (fun _ _ _ h=>h) (Or.inr ⟨VT,rfl⟩) tX ?_;try simp only[zn]
  refine wpAnyH_take (i:=9) (v:=undef) rfl VT VT VT (fun _ _ _ h=>h) (Or.inr ⟨VT,rfl⟩) tX ?_;try simp only[zn]
  refine wpAnyH_take (i:=10) (v:=undef) rfl VT VT VT (fun _ _ _ h=>h) (Or.inr ⟨VT,rfl⟩) tX ?_;try simp only[zn]
  refine wpAnyH_take (i:=11) (v:=undef) rfl VT VT VT (fun _ _ _ h=>h) (Or.inr ⟨VT,rfl⟩) tX ?_;try simp only[zn]
  refine wpAnyH_take (i:=12) (v:=undef) rfl VT VT VT (fun _ _ _ h=>h) (Or.inr ⟨VT,rfl⟩) tX ?_;try simp only[zn]
  refine wpAnyH_take (i:=13) (v:=undef) rfl VT VT VT (fun _ _ _ h=>h) (Or.inr ⟨VT,rfl⟩) tX ?_;try simp only[zn]
  refine wpAnyH_take (i:=14) (v:=undef) rfl VT VT VT (fun _ _ _ h=>h) (Or.inr ⟨VT,rfl⟩) tX ?_;exact TP
 |true=>
  have vB:=h.bound;have rD:=h.len;have hw1:IntKind.i64.wrap ((i:Int)+1)=(i:Int)+1:=WY;have hw2:IntKind.i64.wrap ((i:Int)+2)=(i:Int)+2:=WY;rw[hq] at HI;by_cases hl:i+2<p.l.length
  ·have PP:decide ((p.l.length:Int)<=(i:Int)+2)=false:=decide_eq_false VS;have hge2:¬((p.l.length:Int)<=(i:Int)+2):=VS;have HR:Hid (fF p.l i=(decide ((aM p.l (i+1)).kind=0)&&aP (aM p.l (i+1)).text&&decide ((aM p.l (i+2)).kind=2)&&decide ((aM p.l (i+2)).text=aY))):=zh (by unfold fF;rw[hq,decide_eq_true hl];rfl);clear hq h;go_enter Tryz.func221,Tryz.ntmps221;go_wp2_with fail;have hS:p.At w.drew i:=HA.out.later (aE _);refine wp_region_held_drew (S:=fun W=>p.At W i) VT hS fun hS=>?_;refine zq 0 (.pointer (some ⟨p.pb,0,none⟩)) rfl ?_;(try simp only[zn]);refine wpAnyH_ready (rs:=[1]) VT VY ?_;refine AllReadyH.cons rfl (fun K hK=>?_) AllReadyH.nil;rw[if_pos W7];go_simp;refine(HI.out _ hS).mono ?_;rintro e w1 ⟨rfl,pN⟩;refine hK.out _ _ (hS.later pN) (fun tX=>?_);clear hK K;(try simp only[zn]);refine wpAnyH_take (i:=2) (v:=.bool false) rfl VT VT VT (fun _ _ _ h=>h) (Or.inl ⟨VT,fun W hW=>VV⟩) tX ?_;(try simp only[zn]);refine wpAnyH_take (i:=3) (v:=.bool false) rfl VT VT VT (fun _ _ _ h=>h) (Or.inl ⟨VT,fun W hW=>VV⟩) tX ?_;(try simp only[zn]);refine wpAnyH_take (i:=4) (v:=.pointer (some ⟨p.pb,0,none⟩)) rfl VT VT VT (fun _ _ _ h=>h) (Or.inl ⟨VT,fun W hW=>VV⟩) tX ?_;(try simp only[zn]);refine wpAnyH_take (i:=5) (v:=.pointer (some ⟨p.pb,0,none⟩)) rfl VT VT VT (fun _ _ _ h=>h) (Or.inl ⟨VT,fun W hW=>VV⟩) tX ?_;(try simp only[zn]);refine wpAnyH_take (i:=6) (v:=.pointer (some ⟨p.pb,1,none⟩)) rfl VT VT VT (fun _ _ _ h=>h) (Or.inl ⟨VT,fun W hW=>VV⟩) tX ?_;(try simp only[zn]);refine wpAnyH_take (i:=7) (v:=.int .i64 (i:Int)) rfl VT VT VT (fun _ _ _ h=>h) (Or.inl ⟨VT,fun W hW=>by have b1:=hW.box1;go_simp⟩) tX ?_;(try simp only[zn]);refine wpAnyH_take (i:=8) (v:=.int .i64 ((i:Int)+2)) rfl VT VT VT (fun _ _ _ h=>h) (Or.inl ⟨VT,fun W hW=>by rw[<-hw2];go_simp⟩) tX ?_;(try simp only[zn]);refine wpAnyH_take (i:=9) (v:=.pointer (some ⟨p.pb,0,none⟩)) rfl VT VT VT (fun _ _ _ h=>h) (Or.inl ⟨VT,fun W hW=>VV⟩) tX ?_;(try simp only[zn]);refine wpAnyH_take (i:=10) (v:=.pointer (some ⟨p.pb,0,none⟩)) rfl VT VT VT (fun _ _ _ h=>h) (Or.inl ⟨VT,fun W hW=>VV⟩) tX ?_;(try simp only[zn]);refine wpAnyH_take (i:=11) (v:=.pointer (some ⟨p.pb,0,none⟩)) rfl VT VT VT (fun _ _ _ h=>h) (Or.inl ⟨VT,fun W hW=>VV⟩) tX ?_;(try simp only[zn]);refine wpAnyH_take (i:=12) (v:=.slice (some ⟨p.b,p.o,none⟩) p.l.length p.c) rfl VT VT VT (fun _ _ _ h=>h) (Or.inl ⟨VT,fun W hW=>by have b0:=hW.box0;go_simp⟩) tX ?_;(try simp only[zn]);refine wpAnyH_take (i:=13) (v:=.int .i64 (p.l.length:Int)) rfl VT VT VT (fun _ _ _ h=>h) (Or.inl ⟨VT,fun W hW=>VV⟩) tX ?_;(try simp only[zn]);refine wpAnyH_take (i:=14) (v:=.bool false) rfl VT VT VT (fun _ _ _ h=>h) (Or.inl ⟨VT,fun W hW=>VV⟩) tX ?_;(try simp only[zn]);refine wpAnyH_take (i:=15) (v:=.bool false) rfl VT VT VT (fun _ _ _ h=>h) (Or.inl ⟨VT,fun W hW=>VV⟩) tX ?_;(try simp only[zn]);refine wpAnyH_done VT ?_ _;go_wp2_with fail;have rE:p.At (w1.alloc (dA 0 ⟨#[]⟩ 0 0)) i:=tX.later (aC _ _);have sV:p.At ((w1.alloc (dA 0 ⟨#[]⟩ 0 0)).alloc (dA 0 ⟨#[]⟩ 0 0)) i:=rE.later (aC _ _);obtain⟨⟨c0,c1,c2,c3⟩,rZ⟩:=tX.toks (i+1) _ (tok_at VS);obtain⟨⟨d0,d1,d2,d3⟩,rY⟩:=tX.toks (i+2) _ (tok_at hl);have b0:=tX.box0;have b1:=tX.box1;have zR:=zh tX;clear rE sV hS tX;have hpb1:=zR.out.blt;have hbt1:p.b<w1.heap.size:=gZ c0;have A0:¬p.pb=w1.heap.size:=VS;have hnb2:¬p.b=w1.heap.size:=VS;have HM:=zh (fun W(hW:p.At W i)=>iL (aM p.l (i+1)).text W VS hW.glob);generalize aM p.l (i+1)=t1 at *;generalize aM p.l (i+2)=t2 at *;have hin1:(0:Int)<=(i:Int)+1/\(i:Int)+1<(p.l.length:Int):=VS;have hin2:(0:Int)<=(i:Int)+2/\(i:Int)+2<(p.l.length:Int):=VS;have IU:((i:Int)+1).toNat=i+1:=VS;have hn2:((i:Int)+2).toNat=i+2:=VS;go_region_held3 (fun W=>W.cell? ⟨p.pb,0,none⟩=some (.slice (some ⟨p.b,p.o,none⟩) p.l.length p.c)/\W.cell? ⟨p.pb,1,none⟩=some (.int .i64 (i:Int))/\W.cell? ⟨p.b,p.o+(i+1)*4,none⟩=some (.int .i64 t1.kind)/\W.cell? ⟨p.b,p.o+(i+1)*4+1,none⟩=some (.string t1.text)/\W.cell? ⟨p.b,p.o+(i+1)*4+2,none⟩=some (.int .i64 t1.n)/\W.cell? ⟨p.b,p.o+(i+1)*4+3,none⟩=some (.int .i64 t1.pos)/\W.cell? ⟨p.b,p.o+(i+2)*4,none⟩=some (.int .i64 t2.kind)/\W.cell? ⟨p.b,p.o+(i+2)*4+1,none⟩=some (.string t2.text)/\W.cell? ⟨p.b,p.o+(i+2)*4+2,none⟩=some (.int .i64 t2.n)/\W.cell? ⟨p.b,p.o+(i+2)*4+3,none⟩=some (.int .i64 t2.pos)) (go_keep) (fail)
   all_goals
    have qN:=zh (aA (aE w) pN);clear pN;by_cases k1:t1.kind=0
    ·(have AL:(t1.kind==0)=true:=by rw[beq_iff_eq];exact k1);have hR:=HR.out;rw[decide_eq_true k1] at hR
     cases hn:aP t1.text with
     |false=>
      rw[hn] at HM hR;exact SW
     |true=>
      rw[hn] at HM hR;by_cases k2:t2.kind=2
      ·(have k2':(t2.kind==2)=true:=by rw[beq_iff_eq];exact k2);rw[decide_eq_true k2,<-eE,kOpen_list] at hR;exact SW
      have k2':(t2.kind==2)=false:=ZC;rw[decide_eq_false k2] at hR;exact SW
    have AL:(t1.kind==0)=false:=V9;have hR:=HR.out;rw[decide_eq_false k1] at hR;have HR:=zh hR;clear hR;go_wp2_with fail;go_ret;exact⟨aF WP,aA qN.out (by repeat(first|exact Below.refl _ _|refine Below.drew ?_|refine Below.alloc ?_ VY _))⟩
  have PP:decide ((p.l.length:Int)<=(i:Int)+2)=true:=decide_eq_true VS;have hge2:(p.l.length:Int)<=(i:Int)+2:=VS;have HR:Hid (fF p.l i=false):=zh (by unfold fF;rw[hq,decide_eq_false hl];rfl);clear hq h;go_enter Tryz.func221,Tryz.ntmps221;go_wp2_with fail;have hS:p.At w.drew i:=HA.out.later (aE _);refine wp_region_held_drew (S:=fun W=>p.At W i) VT hS fun hS=>?_;refine zq 0 (.pointer (some ⟨p.pb,0,none⟩)) rfl ?_;try simp only[zn]
  refine wpAnyH_ready (rs:=[1]) VT VY ?_;refine AllReadyH.cons rfl (fun K hK=>?_) AllReadyH.nil;rw[if_pos W7];go_simp;refine(HI.out _ hS).mono ?_;rintro e w1 ⟨rfl,pN⟩;refine hK.out _ _ (hS.later pN) (fun tX=>?_);clear hK K;try simp only[zn]
  refine wpAnyH_take (i:=2) (v:=.bool false) rfl VT VT VT (fun _ _ _ h=>h) (Or.inl ⟨VT,fun W hW=>VV⟩) tX ?_;try simp only[zn]
  refine wpAnyH_take (i:=3) (v:=.bool false) rfl VT VT VT (fun _ _ _ h=>h) (Or.inl ⟨VT,fun W hW=>VV⟩) tX ?_;try simp only[zn]
  refine wpAnyH_take (i:=4) (v:=.pointer (some ⟨p.pb,0,none⟩)) rfl VT VT VT (fun _ _ _ h=>h) (Or.inl ⟨VT,fun W hW=>VV⟩) tX ?_;try simp only[zn]
  refine wpAnyH_take (i:=5) (v:=.pointer (some ⟨p.pb,0,none⟩)) rfl VT VT VT (fun _ _ _ h=>h) (Or.inl ⟨VT,fun W hW=>VV⟩) tX ?_;try simp only[zn]
  refine wpAnyH_take (i:=6) (v:=.pointer (some ⟨p.pb,1,none⟩)) rfl VT VT VT (fun _ _ _ h=>h) (Or.inl ⟨VT,fun W hW=>VV⟩) tX ?_;try simp only[zn]
  refine wpAnyH_take (i:=7) (v:=.int .i64 (i:Int)) rfl VT VT VT (fun _ _ _ h=>h) (Or.inl ⟨VT,fun W hW=>by have b1:=hW.box1;go_simp⟩) tX ?_;try simp only[zn]
  refine wpAnyH_take (i:=8) (v:=.int .i64 ((i:Int)+2)) rfl VT VT VT (fun _ _ _ h=>h) (Or.inl ⟨VT,fun W hW=>by rw[<-hw2];go_simp⟩) tX ?_;try simp only[zn]
  refine wpAnyH_take (i:=9) (v:=.pointer (some ⟨p.pb,0,none⟩)) rfl VT VT VT (fun _ _ _ h=>h) (Or.inl ⟨VT,fun W hW=>VV⟩) tX ?_;try simp only[zn]
  refine wpAnyH_take (i:=10) (v:=.pointer (some ⟨p.pb,0,none⟩)) rfl VT VT VT (fun _ _ _ h=>h) (Or.inl ⟨VT,fun W hW=>VV⟩) tX ?_;try simp only[zn]
  refine wpAnyH_take (i:=11) (v:=.pointer (some ⟨p.pb,0,none⟩)) rfl VT VT VT (fun _ _ _ h=>h) (Or.inl ⟨VT,fun W hW=>VV⟩) tX ?_;try simp only[zn]
  refine wpAnyH_take (i:=12) (v:=.slice (some ⟨p.b,p.o,none⟩) p.l.length p.c) rfl VT VT VT (fun _ _ _ h=>h) (Or.inl ⟨VT,fun W hW=>by have b0:=hW.box0;go_simp⟩) tX ?_;try simp only[zn]
  refine wpAnyH_take (i:=13) (v:=.int .i64 (p.l.length:Int)) rfl VT VT VT (fun _ _ _ h=>h) (Or.inl ⟨VT,fun W hW=>VV⟩) tX ?_;try simp only[zn]
  refine wpAnyH_take (i:=14) (v:=.bool true) rfl VT VT VT (fun _ _ _ h=>h) (Or.inl ⟨VT,fun W hW=>VV⟩) tX ?_;exact TP
theorem R8{p:Prop}(h:p:=by
 have hjl:=sU.lt;clear pT pL qW A3 hex sU qU;go_wp2_with(first|(go_at_call 110;refine(dD p vL j cF (by have h:=uI;rw[if_neg Y4] at h;exact h)).mono ?_;rintro e rO (⟨x12,rS,rfl,rA⟩|⟨⟨⟩,k12,rS,⟨rfl,sK⟩,rA⟩))|(go_at_call 120;refine(mN p rH j bE tL.out.at_).mono ?_;rintro e vL ⟨rfl,uI,uH⟩))
 ·have tJ:¬isP p.l j bE=true:=Y4;exact⟨rfl,Ran.bad' (wS.out.trans ((if_neg tJ).trans (PR.bnd_bad rS))) (tL.out.off.trans (uH.trans rA))⟩
 ·have tJ:¬isP p.l j bE=true:=Y4;have hk12:=(cT rS).1;have D1:=(tL.out.acc.stays aG (cV.of_off (uH.trans rA) fun b hb=>.inl W5)).row aG;go_ret;exact Ran.good (wS.out.trans ((if_neg tJ).trans (PR.bnd_ok rS))) ⟨_,_,_,rfl,by simpa using D1,sK,VS⟩ (tL.out.off.trans (uH.trans rA))
 have tJ:isP p.l j bE=true:=by simpa using ‹(!isP p.l j bE)=false›
 rw[if_pos tJ] at uI;have pO:=uI.lt;have CE:OpL p w (out++[x]) _ _ (j+1) vL:=⟨tL.out.off.trans uH,tL.out.acc.stays aG (cV.of_off uH fun b hb=>.inl W5),uI,by have:=tL.out.len;omega⟩;have wZ:=zh CE;have A4:=zh (wS.out.trans (if_pos tJ));have BE:=zh uI;have PH:=tL.out.len;obtain⟨F',uJ⟩:∃F',F=F'+1:=⟨F-1,VS⟩;clear CE uI tJ;go_roundw
 case rel=>
  subst uJ;exact⟨some ⟨g,0,none⟩,cap,j+1,F',out++[x],_,VY,wZ,A4,zh ⟨VS,VS,VS⟩⟩
 case measure=>
  rw[BE.out.pos,HL.out.at_.pos];omega):p:=h
theorem UM{p:Prop}(h:p:=by
 rename_i hq;have hj:=(cT hx).1;rw[if_pos hq] at rE;go_ret
 exact Ran.good (HR.out.trans ((PR.bnd_ok hx).trans (if_pos hq))) ⟨none,0,0,rfl,aO.nil _ _ _ _,rE,VS⟩ (qI.trans pY)):p:=h
theorem VO{p:Prop}(h:p:=by
 exact⟨rfl,Ran.bad' (HR.out.trans (PR.bnd_bad hx)) qI⟩):p:=h
theorem xpInfo:(Tryz.prog.info? 35).map (fun i=>(i.zero,i.size,i.bytes))=some (some (bW 0 0 ByteArray.empty ByteArray.empty none 0 0 none 0 0),6,96):=VT
def oF(B:Nat)(x:Xp)(e:Ending)(w':World):Prop:=∃op n s m a1 n1 c1 a2 n2 c2,e=.returned (bW op n s m a1 n1 c1 a2 n2 c2)/\
 aU (bP B) w' x [.int .i64 op,.int .i64 n,.string s,.string m,.slice a1 n1 c1,.slice a2 n2 c2]
def gF(p:Prs)(f:Nat):Prop:=∀(form i:Nat)(w:World),p.At w i->form<=9->p.l.length<f+i->Calls Tryz.prog 48 #[.pointer (some ⟨p.pb,0,none⟩),.int .i64 (form:Int)] w
 (Ran p.S w (bS p.l f form i) fun x j e w'=>oF w.heap.size x e w'/\p.At w' j/\i<=j)
structure OpL (p:Prs) (W:World) (out:List Xp) (css:List (List Value)) (v:Value) (q:Nat) (wr:World):Prop where
 off:Off p.S W wr
 acc:Gro 6 35 aU W.heap.size out css v wr
 at_:p.At wr q
 len:out.length<=q
section
variable {l:List Tok} {rec:RecP} {F q:Nat} {out:List Xp}
theorem operFrom_yes(hb:iG l q=true)(hr:gX l q out.length 6=.ok ((),q)):cL l rec (F+1) out q=(rec 0 q).bnd fun e j=>
  if isP l j bE then cL l rec F (out++[e]) (j+1) else(dN l j cF).bnd fun _ k=>.ok (out++[e],k):=by
 rw[cL,if_pos hb,hr];rfl
theorem operFrom_no(hb:iG l q=false):cL l rec (F+1) out q=(rec 0 q).bnd fun e j=>
  if isP l j bE then cL l rec F (out++[e]) (j+1) else(dN l j cF).bnd fun _ k=>.ok (out++[e],k):=by
 rw[cL,if_neg (by rw[hb];simp)];rfl
theorem operFrom_full(hb:iG l q=true){x:Int×Int}(hr:gX l q out.length 6=.error x):cL l rec (F+1) out q=.error x:=by
 rw[cL,if_pos hb,hr];rfl
theorem oS{a b j:Nat}(h:gX l q a b=.ok ((),j)):j=q:=by
 unfold gX at h;split at h
 ·cases h;rfl
 cases h
end
theorem OpL.step{p:Prs}{W w5 w7 rH:World}{g cap n1 i0 j q:Nat}{out:List Xp}{css:List (List Value)}{v:Value}{x:Xp}{cs:List Value}{T:TypeId}(hW:p.At W i0)(h5:OpL p W out css v q w5)(qU:Off p.S w5 w7)(sU:p.At w7 j)(hq:out.length<q)(hqj:q<=j)
  (hex:aU (bP w5.heap.size) w7 x cs) (hl:cs.length=6)
  (pT:rH.ownsRow W.heap.size 35 6 (.slice (some ⟨g,0,none⟩) n1 cap) n1 (css.flatten++cs)) (hn:n1=out.length+1) (pL:(w7.alloc (.cells cs.toArray T)).grownBy rH v.ownBlock) (qW:v.ownBlock=some g\/g=w7.heap.size+1):
  OpL p W (out++[x]) (css++[cs]) (.slice (some ⟨g,0,none⟩) n1 cap) j rH:=by
 subst hn;have pS:=h5.acc.lt;have rK:=h5.acc.big;have o9:Off p.S w5 (w7.alloc (.cells cs.toArray T)):=qU.trans (Ba (aC _ _));have hA9:=h5.acc.stays aG (cV.of_off o9 fun b hb=>.inl YU)
 have hx:aU (nE W.heap.size v) (w7.alloc (.cells cs.toArray T)) x cs:=by
  refine aG.wide (aG _ _ _ _ _ _ (aK.later (aC _ _)) hex) fun b hb _=>?_;have hb:w5.heap.size<=b:=hb;exact⟨VS,fun e=>by have:=pS b e;omega⟩
 have AW:(w7.alloc (.cells cs.toArray T)).heap.size=w7.heap.size+1:=VY;have yP:Off (fun b=>W.heap.size<=b) (w7.alloc (.cells cs.toArray T)) rH:=⟨pL.os,pL.tape,pL.output,pL.size,fun b hb hn=>pL.block b hb (fun e=>hn (pS b e.symm).1)⟩;refine⟨?_,hA9.added aG hx hl pT pL ZE,?_,?_⟩
 ·exact Off.fresh (((h5.off.trans o9).or _).trans (yP.mono fun b hb=>.inr hb)) (Nat.le_refl _)
 ·exact hW.above sU ((Ba (aC _ _)).trans yP)
 simp;omega
theorem OpL.off'{p:Prs}{W wr w':World}{out:List Xp}{css:List (List Value)}{v:Value}{q:Nat}(h:OpL p W out css v q wr)(ho:Off p.S wr w')(ha:p.At w' q)(uS:p.pb<W.heap.size:=by exact Prs.At.blt (Hid.out ‹_›)):OpL p W out css v q w':=
 ⟨h.off.trans ho,h.acc.stays aG (cV.of_off ho fun b hb=>.inl WR),ha,h.len⟩
theorem mJ(p:Prs)(f:Nat)(hE:gF p f)(w:World)(i:Nat)(h:p.At w i)(tD:p.l.length<=f+i):Calls Tryz.prog 220 #[.pointer (some ⟨p.pb,0,none⟩)] w
  (Ran p.S w (jI p.l (bS p.l f) i) fun xs j e w'=>∃a n c,e=.returned (.slice a n c)/\aO 6 aU (bP w.heap.size) w' (.slice a n c) xs/\p.At w' j/\i<=j):=by
 obtain⟨i0,wO,tS,rZ,rY⟩:=info_parts xpInfo;have HE:=zh hE;have HW:=zh h;have OE:=zh (dD p w i aY h);have rD:=h.len;have HR:Hid (jI p.l (bS p.l f) i=(dN p.l i aY).bnd fun _ j=>if isP p.l j cF then .ok ([],j+1) else cL p.l (bS p.l f) (p.l.length+1) [] j):=zh rfl;clear h hE;go_enter Tryz.func220,Tryz.ntmps220;go_wp2_with(first|(go_at_call 120;refine(mN p w1 j cF qV).mono ?_;rintro e w2 ⟨rfl,rE,pY⟩)|(go_at_call 110;refine OE.out.mono ?_;rintro e w1 (⟨x,hx,rfl,qI⟩|⟨⟨⟩,j,hx,⟨rfl,qV⟩,qI⟩)))
 ·exact VO
 ·exact UM
 rename_i hq;have hj:=(cT hx).1;rw[if_neg YM] at rE;have sS:=zh (HR.out.trans ((PR.bnd_ok hx).trans (if_neg YM)));have Q8:Hid (OpL p w [] [] (.slice none 0 0) j w2):=zh ⟨qI.trans pY,Gro.first_at _ _ _ (qI.trans pY).size,rE,Nat.zero_le _⟩;have HJ:=zh hj;clear hj hx qI qV pY rE hq OE HR;go_loopw [3] (fun v wr=>∃(a:Option Addr)(c q F:Nat)(out:List Xp)(css:List (List Value)),v=.slice a out.length c/\Hid (OpL p w out css v q wr)/\Hid (jI p.l (bS p.l f) i=cL p.l (bS p.l f) (F+1) out q)/\Hid (p.l.length<=F+q/\i<q/\out.length<q)) (fun _ wr=>p.l.length-posOf wr p.pb)
 case atStart=>exact⟨none,0,j,p.l.length,[],[],rfl,Q8,sS,zh ⟨VS,by have:=HJ.out;omega,by have:=HJ.out;simp;omega⟩⟩
 case round=>
  obtain⟨a,c,q,F,out,css,rfl,HL,qO,HB⟩:=hrel;rename World=>wr
  have yT:=HB.out.1;have zX:=HB.out.2.1;have PA:=HB.out.2.2;have hq4:=HL.out.at_.lt
  cases I7:iG p.l q with
  |true=>
   go_wp2_with(first|(go_at_call 247;refine(begins_any p wr q HL.out.at_).mono ?_;rintro e w5 ⟨rfl,hb5⟩;rw[I7];have uO:=zh (HL.out.off' (Ba hb5) (HL.out.at_.later hb5)))|(go_at_call 113;refine(oR p w5 q out.length 6 uO.out.at_).mono ?_;rintro e w6 (⟨x,hx,rfl,qY⟩|⟨⟨⟩,j6,hx,⟨rfl,tW⟩,qY⟩))|(go_at_call 48;have hj6:=oS hx;subst hj6;have AF:=zh (uO.out.off' qY tW);refine(HE.out 0 j6 w6 tW VS VS).mono ?_;rintro e w7 (⟨x7,sA,rfl,qU⟩|⟨x,j,sA,⟨⟨op,n,s,m,a1,n1,c1,a2,n2,c2,rfl,hex⟩,sU,hqj⟩,qU⟩))|(at_builtin;have sZ:=(AF.out.acc.stays aG (cV.of_off (qU.trans (Ba (aC w7 (aH op n s m a1 n1 c1 a2 n2 c2)))) fun b hb=>.inl W5));have tB:=sZ.big;have hlen9:=AF.out.len;have hlt9:=AF.out.at_.lt;refine wpList_append_lies _ rfl _ _ 25 rfl w.heap.size 35 i0 (bW 0 0 ByteArray.empty ByteArray.empty none 0 0 none 0 0) 6 96 Tryz.underlying25 wO tS rZ rY rfl VS (.slice a out.length c) out.length css.flatten W7 sZ.own ⟨w7.heap.size,0,none⟩ 1 1 [.int .i64 op,.int .i64 n,.string s,.string m,.slice a1 n1 c1,.slice a2 n2 c2] W7 rfl (World.news_of_block (cs:=#[.int .i64 op,.int .i64 n,.string s,.string m,.slice a1 n1 c1,.slice a2 n2 c2]) (t:=35) (fr:=(0,0)) (bY w7 _)) WF VS WL VS tB (w7.heap.size+1) VY ?_))
   ·exact⟨rfl,Ran.bad' (qO.out.trans (operFrom_full I7 hx)) (uO.out.off.trans qY)⟩
   ·exact⟨rfl,Ran.bad' (qO.out.trans ((operFrom_yes I7 hx).trans (PR.bnd_bad sA))) (AF.out.off.trans qU)⟩
   intro g cap rH pT pL qW _;have A3:=AF.out.step HW.out qU sU PA hqj hex rfl pT rfl pL qW;have tL:=zh A3;have wS:=zh (qO.out.trans ((operFrom_yes I7 hx).trans (PR.bnd_ok sA)));exact R8
  |false=>
   go_wp2_with(first|(go_at_call 247;refine(begins_any p wr q HL.out.at_).mono ?_;rintro e w5 ⟨rfl,hb5⟩;rw[I7];have uO:=zh (HL.out.off' (Ba hb5) (HL.out.at_.later hb5)))|(go_at_call 48;refine(HE.out 0 q w5 uO.out.at_ VS VS).mono ?_;rintro e w7 (⟨x7,sA,rfl,qU⟩|⟨x,j,sA,⟨⟨op,n,s,m,a1,n1,c1,a2,n2,c2,rfl,hex⟩,sU,hqj⟩,qU⟩))|(at_builtin;have sZ:=(uO.out.acc.stays aG (cV.of_off (qU.trans (Ba (aC w7 (aH op n s m a1 n1 c1 a2 n2 c2)))) fun b hb=>.inl W5));have tB:=sZ.big;have hlen9:=uO.out.len;have hlt9:=uO.out.at_.lt;refine wpList_append_lies _ rfl _ _ 25 rfl w.heap.size 35 i0 (bW 0 0 ByteArray.empty ByteArray.empty none 0 0 none 0 0) 6 96 Tryz.underlying25 wO tS rZ rY rfl VS (.slice a out.length c) out.length css.flatten W7 sZ.own ⟨w7.heap.size,0,none⟩ 1 1 [.int .i64 op,.int .i64 n,.string s,.string m,.slice a1 n1 c1,.slice a2 n2 c2] W7 rfl (World.news_of_block (cs:=#[.int .i64 op,.int .i64 n,.string s,.string m,.slice a1 n1 c1,.slice a2 n2 c2]) (t:=35) (fr:=(0,0)) (bY w7 _)) WF VS WL VS tB (w7.heap.size+1) VY ?_))
   ·exact⟨rfl,Ran.bad' (qO.out.trans ((operFrom_no I7).trans (PR.bnd_bad sA))) (uO.out.off.trans qU)⟩
   intro g cap rH pT pL qW _;have A3:=uO.out.step HW.out qU sU PA hqj hex rfl pT rfl pL qW;have tL:=zh A3;have wS:=zh (qO.out.trans ((operFrom_no I7).trans (PR.bnd_ok sA)));exact R8
end Go.Proofs.YtiionicikdnnpaaGreatDoor
namespace Go.Proofs.YtiionicikdnnpaaGreatDoor
open Go.RowKit
theorem bx6{w:World}{b:Nat}{x0 x1 x2 x3 x4 x5:Value}{t:TypeId}(h:w.heap[b]? =some (.cells #[x0,x1,x2,x3,x4,x5] t)):
  (w.cell? ⟨b,0,none⟩=some x0/\w.cell? ⟨b,1,none⟩=some x1/\w.cell? ⟨b,2,none⟩=some x2/\w.cell? ⟨b,3,none⟩=some x3/\w.cell? ⟨b,4,none⟩=some x4/\w.cell? ⟨b,5,none⟩=some x5)/\
  (w.frozen? ⟨b,0,none⟩=false/\w.frozen? ⟨b,1,none⟩=false/\w.frozen? ⟨b,2,none⟩=false/\w.frozen? ⟨b,3,none⟩=false/\w.frozen? ⟨b,4,none⟩=false/\w.frozen? ⟨b,5,none⟩=false):=
 ⟨⟨(bx h 0 rfl).1,(bx h 1 rfl).1,(bx h 2 rfl).1,(bx h 3 rfl).1,(bx h 4 rfl).1,(bx h 5 rfl).1⟩,(bx h 0 (u:=x0) rfl).2,(bx h 1 (u:=x1) rfl).2,(bx h 2 (u:=x2) rfl).2,(bx h 3 (u:=x3) rfl).2,(bx h 4 (u:=x4) rfl).2,(bx h 5 (u:=x5) rfl).2⟩
def PreV(p:Prs)(W:World)(i:Nat)(r:Xp×Nat)(j:Nat)(e:Ending)(w':World):Prop:=(∃op n s m a1 n1 c1 a2 n2 c2,e=.returned (.tuple #[bW op n s m a1 n1 c1 a2 n2 c2,.int .i64 (r.2:Int)])/\
 aU (bP W.heap.size) w' r.1 [.int .i64 op,.int .i64 n,.string s,.string m,.slice a1 n1 c1,.slice a2 n2 c2])/\p.At w' j/\i<=j
def fP(w:World)(b:Nat)(x0 x1 x2 x3 x4 x5:Value):World:=
 (((((w.setCell ⟨b,0,none⟩ x0).setCell ⟨b,1,none⟩ x1).setCell ⟨b,2,none⟩ x2).setCell ⟨b,3,none⟩ x3).setCell ⟨b,4,none⟩ x4).setCell ⟨b,5,none⟩ x5
theorem jQ(w:World)(b:Nat)(x0 x1 x2 x3 x4 x5:Value):Off (fun k=>k=b) w (fP w b x0 x1 x2 x3 x4 x5):=by
 unfold fP;exact(((((Off.setCell (S:=fun k=>k=b) _ rfl).trans (Off.setCell (S:=fun k=>k=b) _ rfl)).trans (Off.setCell (S:=fun k=>k=b) _ rfl)).trans (Off.setCell (S:=fun k=>k=b) _ rfl)).trans (Off.setCell (S:=fun k=>k=b) _ rfl)).trans (Off.setCell (S:=fun k=>k=b) _ rfl)
abbrev bG:Array Value:=#[.int .i64 0,.int .i64 0,.string ⟨#[]⟩,.string ⟨#[]⟩,.slice none 0 0,.slice none 0 0]
theorem gJ{p:Prs}{W w:World}{i0 j:Nat}{x:Xp}{op n:Int}{s m:bA}{a1 a2:Option Addr}{n1 c1 n2 c2:Nat}{N:Nat->Prop}(hW:p.At W i0)(ho:Off p.S W w)(ha:p.At w j)
  (hx:aU N w x [.int .i64 op,.int .i64 n,.string s,.string m,.slice a1 n1 c1,.slice a2 n2 c2]) (hN:∀b,N b->W.heap.size<b):
  aU (bP W.heap.size) (fP w W.heap.size (.int .i64 op) (.int .i64 n) (.string s) (.string m) (.slice a1 n1 c1) (.slice a2 n2 c2)) x [.int .i64 op,.int .i64 n,.string s,.string m,.slice a1 n1 c1,.slice a2 n2 c2]/\
  p.At (fP w W.heap.size (.int .i64 op) (.int .i64 n) (.string s) (.string m) (.slice a1 n1 c1) (.slice a2 n2 c2)) j/\Off p.S W (fP w W.heap.size (.int .i64 op) (.int .i64 n) (.string s) (.string m) (.slice a1 n1 c1) (.slice a2 n2 c2)):=by
 have pY:=jQ w W.heap.size (.int .i64 op) (.int .i64 n) (.string s) (.string m) (.slice a1 n1 c1) (.slice a2 n2 c2);refine⟨aG.wide (aG.off hx pY fun b hb hn=>by have:=hN b hn;omega) fun b hb _=>Nat.le_of_lt (hN b hb),hW.above ha (pY.mono fun b hb=>VS),?_⟩;exact Off.fresh ((ho.or _).trans (pY.mono fun b hb=>.inr (Nat.le_of_eq hb.symm))) (Nat.le_refl _)
theorem fE(w:World)(a:Addr)(v:Value):(w.setCell a v).heap.size=w.heap.size:=by simp[World.setCell]
theorem set6_size(w:World)(b:Nat)(x0 x1 x2 x3 x4 x5:Value):(fP w b x0 x1 x2 x3 x4 x5).heap.size=w.heap.size:=by unfold fP;simp only[fE]
theorem nO{p:Prs}{W w:World}{i0 j:Nat}{x:Xp}{op n:Int}{s m:bA}{a1 a2:Option Addr}{n1 c1 n2 c2:Nat}{N:Nat->Prop}{cs:Array Value}{T:TypeId}(hW:p.At W i0)(ho:Off p.S W w)(ha:p.At w j)(hb:W.heap.size<w.heap.size)
  (hx:aU N (w.alloc (.cells cs T)) x [.int .i64 op,.int .i64 n,.string s,.string m,.slice a1 n1 c1,.slice a2 n2 c2]) (hN:∀b,N b->W.heap.size<b):
  aU (bP W.heap.size) ((fP w W.heap.size (.int .i64 op) (.int .i64 n) (.string s) (.string m) (.slice a1 n1 c1) (.slice a2 n2 c2)).alloc (.cells cs T)) x [.int .i64 op,.int .i64 n,.string s,.string m,.slice a1 n1 c1,.slice a2 n2 c2]/\
  p.At ((fP w W.heap.size (.int .i64 op) (.int .i64 n) (.string s) (.string m) (.slice a1 n1 c1) (.slice a2 n2 c2)).alloc (.cells cs T)) j/\Off p.S W ((fP w W.heap.size (.int .i64 op) (.int .i64 n) (.string s) (.string m) (.slice a1 n1 c1) (.slice a2 n2 c2)).alloc (.cells cs T)):=by
 have o:=jQ w W.heap.size (.int .i64 op) (.int .i64 n) (.string s) (.string m) (.slice a1 n1 c1) (.slice a2 n2 c2);have tT:=set6_size w W.heap.size (.int .i64 op) (.int .i64 n) (.string s) (.string m) (.slice a1 n1 c1) (.slice a2 n2 c2);generalize fP w W.heap.size (.int .i64 op) (.int .i64 n) (.string s) (.string m) (.slice a1 n1 c1) (.slice a2 n2 c2)=w2 at o tT ⊢
 have pY:Off (fun k=>k=W.heap.size) (w.alloc (.cells cs T)) (w2.alloc (.cells cs T)):=⟨o.os,o.tape,o.output,by simp[tT],fun k hk hn=>by
  by_cases GV:k<w.heap.size
  ·rw[Below.heap_alloc _ _ _ VS,Below.heap_alloc _ _ _ GV];exact o.block k GV hn
  have FJ:k=w.heap.size:=by simp at hk;omega
  subst FJ;have h2:=bY w2 (.cells cs T);rw[tT] at h2
  rw[h2,bY w]⟩
 refine⟨aG.wide (aG.off hx pY fun b hb hn=>by have:=hN b hn;omega) fun b hb _=>Nat.le_of_lt (hN b hb),hW.above (ha.later (aC _ _)) (pY.mono fun b hb=>VS),?_⟩;exact Off.fresh (((ho.trans (Ba (aC _ _))).or _).trans (pY.mono fun b hb=>.inr (Nat.le_of_eq hb.symm))) (Nat.le_refl _)
theorem prefix_if(p:Prs)(f:Nat)(hE:gF p f)(w:World)(i:Nat)(h:p.At w i)(tD:p.l.length<=f+i)(hq:isP p.l i kIf=true):Calls Tryz.prog 134 #[.pointer (some ⟨p.pb,0,none⟩),.int .i64 0] w
  (Ran p.S w (cK p.l (bS p.l f) 0 i) (PreV p w i)):=by
 have HE:=zh hE;have HW:=zh h;have HR:Hid (cK p.l (bS p.l f) 0 i=(bS p.l f 0 (i+1)).bnd fun a j=>(dN p.l j kN).bnd fun _ j2=>(bS p.l f 0 j2).bnd fun b j3=>(dN p.l j3 kO).bnd fun _ j4=>(bS p.l f 0 j4).bnd fun c j5=>.ok ((.mk 11 0 noB noB [] [a,b,c],0),j5)):=zh (by unfold cK;rw[if_pos ⟨rfl,hq⟩]);have HH:=zh (fK p (w.alloc (.cells bG 35)) i kIf (h.later (aC _ _)) hq);have rD:=h.len;have pP:w.heap.size≠p.pb:=WG;have uS:=h.blt;clear h hE hq;go_enter Tryz.func134,Tryz.ntmps134;go_wp2_with(first|(go_at_call 110;refine(dD p (w4.alloc (aH opb nb sb mb pb' qb rb tb ub vb)) j4 kO (sQ.later (aC _ _))).mono ?_;rintro e w5 (⟨x5,rP,rfl,qS⟩|⟨⟨⟩,j5,rP,⟨rfl,tG⟩,qS⟩))|(go_at_call 48;refine(HE.out 0 j3 w3 sV VS (by have:=(cT qJ).1;omega)).mono ?_;rintro e w4 (⟨x4,rC,rfl,qH⟩|⟨xb,j4,rC,⟨⟨opb,nb,sb,mb,pb',qb,rb,tb,ub,vb,rfl,C2⟩,sQ,hij4⟩,qH⟩))|(go_at_call 110;refine(dD p (w2.alloc (aH opa na sa ma pa qa ra ta ua va)) j2 kN (rE.later (aC _ _))).mono ?_;rintro e w3 (⟨x3,qJ,rfl,qP⟩|⟨⟨⟩,j3,qJ,⟨rfl,sV⟩,qP⟩))|(go_at_call 48;refine(HE.out 0 (i+1) w1 qV VS VS).mono ?_;rintro e w2 (⟨x2,qD,rfl,pY⟩|⟨xa,j2,qD,⟨⟨opa,na,sa,ma,pa,qa,ra,ta,ua,va,rfl,xL⟩,rE,hij2⟩,pY⟩))|(go_at_call 120;refine HH.out.mono ?_;rintro e w1 ⟨rfl,qV,qI⟩))
 ·exact⟨rfl,Ran.bad' (HR.out.trans (PR.bnd_bad qD)) ((Ba (aC _ _)).trans (qI.trans pY))⟩
 ·exact⟨rfl,Ran.bad' (HR.out.trans ((PR.bnd_ok qD).trans (PR.bnd_bad qJ))) ((Ba (aC _ _)).trans (qI.trans (pY.trans ((Ba (aC _ _)).trans qP))))⟩
 ·exact⟨rfl,Ran.bad' (HR.out.trans ((PR.bnd_ok qD).trans ((PR.bnd_ok qJ).trans (PR.bnd_bad rC)))) ((Ba (aC _ _)).trans (qI.trans (pY.trans ((Ba (aC _ _)).trans (qP.trans qH)))))⟩
 ·exact⟨rfl,Ran.bad' (HR.out.trans ((PR.bnd_ok qD).trans ((PR.bnd_ok qJ).trans ((PR.bnd_ok rC).trans (PR.bnd_bad rP))))) ((Ba (aC _ _)).trans (qI.trans (pY.trans ((Ba (aC _ _)).trans (qP.trans (qH.trans ((Ba (aC _ _)).trans qS)))))))⟩
 have rZ:=qI.size;have rY:=pY.size;have zV:=qP.size;have EP:=qH.size;have yS:=qS.size;have rX:(w.alloc (.cells bG 35)).heap.size=w.heap.size+1:=VY;have uW:(w2.alloc (aH opa na sa ma pa qa ra ta ua va)).heap.size=w2.heap.size+1:=VY;have hs4:(w4.alloc (aH opb nb sb mb pb' qb rb tb ub vb)).heap.size=w4.heap.size+1:=VY;have OW:Off p.S w w5:=(Ba (aC _ _)).trans (qI.trans (pY.trans ((Ba (aC _ _)).trans (qP.trans (qH.trans ((Ba (aC _ _)).trans qS))))));have O2:Off p.S w2 w5:=(Ba (aC _ _)).trans (qP.trans (qH.trans ((Ba (aC _ _)).trans qS)));have O4:Off p.S w4 w5:=(Ba (aC _ _)).trans qS;have n2:w2.heap.size≠p.pb:=VS;have n4:w4.heap.size≠p.pb:=VS;have FP:w5.heap[w.heap.size]? =some (.cells bG 35):=qS.heap pP (aD (aC _ _) (qH.heap pP (qP.heap pP (aD (aC _ _) (pY.heap pP (qI.heap pP (bY w _)))))));have hBA:w5.heap[w2.heap.size]? =some (aH opa na sa ma pa qa ra ta ua va):=qS.heap n2 (aD (aC _ _) (qH.heap n2 (qP.heap n2 (bY w2 _))));have GY:w5.heap[w4.heap.size]? =some (aH opb nb sb mb pb' qb rb tb ub vb):=qS.heap n4 (bY w4 _);have OB:=zh (aG.off xL O2 (fun b hb hn=>by have hb:b=p.pb:=hb;have hn:w1.heap.size<=b:=hn;omega));have HXB:=zh (aG.off C2 O4 (fun b hb hn=>by have hb:b=p.pb:=hb;have hn:w3.heap.size<=b:=hn;omega));have qO:=zh (HR.out.trans ((PR.bnd_ok qD).trans ((PR.bnd_ok qJ).trans ((PR.bnd_ok rC).trans (PR.bnd_ok rP)))));have OJ:=zh OW;have GI:=zh FP;have DO:=(cT qJ).1;have hj5:=(cT rP).1;clear xL C2 O2 O4 OW FP qD qJ rC rP qI pY qP qH qS HH HR qV rE sV sQ;refine wp_region_held_drew (S:=(fun W=>W.heap[w2.heap.size]? =some (aH opa na sa ma pa qa ra ta ua va)/\W.heap[w4.heap.size]? =some (aH opb nb sb mb pb' qb rb tb ub vb))) VT ⟨hBA,GY⟩ fun hS=>?_;refine zt 0 (bW opa na sa ma pa qa ra ta ua va) rfl (fun W hW=>by obtain⟨⟨c0,c1,c2,c3,c4,c5⟩,-⟩:=bx6 hW.1;go_simp) ?_;refine zt 1 (bW opb nb sb mb pb' qb rb tb ub vb) rfl (fun W hW=>by obtain⟨⟨c0,c1,c2,c3,c4,c5⟩,-⟩:=bx6 hW.2;go_simp) ?_;refine zq 2 (.pointer (some ⟨p.pb,0,none⟩)) rfl ?_;try simp only[zn]
 refine zr 3 rfl (fun K hK=>?_);go_simp;refine(HE.out 0 j5 w5.drew (tG.later (aE _)) VS VS).mono ?_;rintro e w6 (⟨x6,tP,rfl,qY⟩|⟨xc,j6,tP,⟨⟨opc,nc,sc,mc,pc,qc,rc,tc,uc,vc,rfl,DR⟩,tW,PK⟩,qY⟩)
 ·go_wp2_with fail;exact⟨rfl,Ran.bad' (qO.out.trans (PR.bnd_bad tP)) (OJ.out.trans ((Ba (aE w5)).trans qY))⟩
 have hBA6:=qY.heap n2 (aD (aE w5) hBA);have hBB6:=qY.heap n4 (aD (aE w5) GY);refine hK.out _ _ ⟨hBA6,hBB6⟩ (fun hS=>?_);clear hK K;try simp only[zn]
 have L5:=aD (aC w6 (oBx8 opa na sa ma pa qa ra ta ua va opb nb sb mb pb' qb rb tb ub vb opc nc sc mc pc qc rc tc uc vc)) (qY.heap pP (aD (aE w5) GI.out));have KZ:=bY w6 (oBx8 opa na sa ma pa qa ra ta ua va opb nb sb mb pb' qb rb tb ub vb opc nc sc mc pc qc rc tc uc vc);have hA6:p.At (w6.alloc (oBx8 opa na sa ma pa qa ra ta ua va opb nb sb mb pb' qb rb tb ub vb opc nc sc mc pc qc rc tc uc vc)) j6:=tW.later (aC _ _);have O6:Off p.S w5 (w6.alloc (oBx8 opa na sa ma pa qa ra ta ua va opb nb sb mb pb' qb rb tb ub vb opc nc sc mc pc qc rc tc uc vc)):=(Ba (aE w5)).trans (qY.trans (Ba (aC _ _)));have JS:=aD (aC w6 (oBx8 opa na sa ma pa qa ra ta ua va opb nb sb mb pb' qb rb tb ub vb opc nc sc mc pc qc rc tc uc vc)) hBA6;have hBB7:=aD (aC w6 (oBx8 opa na sa ma pa qa ra ta ua va opb nb sb mb pb' qb rb tb ub vb opc nc sc mc pc qc rc tc uc vc)) hBB6;have GT:=qY.size;have hszd:w5.drew.heap.size=w5.heap.size:=rfl;have hXA:=aG.off OB.out O6 (fun b hb hn=>by have hb:b=p.pb:=hb;have hn:w1.heap.size<=b:=hn;omega);have hXB:=aG.off HXB.out O6 (fun b hb hn=>by have hb:b=p.pb:=hb;have hn:w3.heap.size<=b:=hn;omega);have hXC:=aG _ _ _ _ _ _ (aK.later (aC w6 (oBx8 opa na sa ma pa qa ra ta ua va opb nb sb mb pb' qb rb tb ub vb opc nc sc mc pc qc rc tc uc vc))) DR
 have tY:Hid (aO 6 aU (bP w1.heap.size) (w6.alloc (oBx8 opa na sa ma pa qa ra ta ua va opb nb sb mb pb' qb rb tb ub vb opc nc sc mc pc qc rc tc uc vc)) (.slice (some ⟨w6.heap.size,0,none⟩) 3 3) [xa,xb,xc]):=zh (aO.of_block (css:=[[.int .i64 opa,.int .i64 na,.string sa,.string ma,.slice pa qa ra,.slice ta ua va],[.int .i64 opb,.int .i64 nb,.string sb,.string mb,.slice pb' qb rb,.slice tb ub vb],[.int .i64 opc,.int .i64 nc,.string sc,.string mc,.slice pc qc rc,.slice tc uc vc]]) KZ (by show w1.heap.size<=w6.heap.size;omega) rfl VY (fun i y c hy hc=>by
  match i,hy,hc with
  |0,hy,hc=>cases hy;cases hc;exact hXA
  |1,hy,hc=>cases hy;cases hc;exact aG.wide hXB (fun b hb _=>by have hb:w3.heap.size<=b:=hb;show w1.heap.size<=b;omega)
  |2,hy,hc=>cases hy;cases hc;exact aG.wide hXC (fun b hb _=>by have hb:w5.drew.heap.size<=b:=hb;show w1.heap.size<=b;omega)) rfl VU)
 have HA6:=zh hA6;have HO6:=zh (OJ.out.trans O6);obtain⟨⟨r0,r1,r2,r3,r4,r5⟩,g0,g1,g2,g3,g4,g5⟩:=bx6 L5;clear hXA hXB hXC DR OB HXB KZ hA6 O6 L5;refine zr 4 rfl (fun K hK=>?_);go_simp;refine hK.out _ _ ⟨JS,hBB7⟩ (fun hS=>?_);clear hK K;refine zq 5 (bW 11 0 ⟨#[]⟩ ⟨#[]⟩ none 0 0 (some ⟨w6.heap.size,0,none⟩) 3 3) rfl ?_;try simp only[zn]
 refine zr 6 rfl (fun K hK=>?_);go_simp;have hE:=gJ (x:=.mk 11 0 noB noB [] [xa,xb,xc]) (op:=11) (n:=0) (s:=⟨#[]⟩) (m:=⟨#[]⟩) (a1:=none) (n1:=0) (c1:=0) (a2:=some ⟨w6.heap.size,0,none⟩) (n2:=3) (c2:=3) HW.out HO6.out HA6.out (by rw[aN];exact⟨_,_,rfl,VU,VU,aO.nil _ _ _ _,tY.out⟩) (fun b hb=>by have hb:w1.heap.size<=b:=hb;omega);have GX:=jQ (w6.alloc (oBx8 opa na sa ma pa qa ra ta ua va opb nb sb mb pb' qb rb tb ub vb opc nc sc mc pc qc rc tc uc vc)) w.heap.size (.int .i64 11) (.int .i64 0) (.string ⟨#[]⟩) (.string ⟨#[]⟩) (.slice none 0 0) (.slice (some ⟨w6.heap.size,0,none⟩) 3 3);have JR:=GX.heap VS JS;have hBB8:=GX.heap VS hBB7;unfold fP at hE JR hBB8;have AT:=zh hE;clear hE GX tY HA6 HO6;refine hK.out _ _ ⟨JR,hBB8⟩ (fun hS=>?_);clear hK K;refine zq 7 (.int .i64 0) rfl ?_;try simp only[zn]
 refine wpAnyH_done VT ?_ _;go_wp2_with fail;refine bodyPost_ret (v:=.tuple #[bW 11 0 ⟨#[]⟩ ⟨#[]⟩ none 0 0 (some ⟨w6.heap.size,0,none⟩) 3 3,.int .i64 0]) X1 rfl ?_;exact Ran.good (qO.out.trans (PR.bnd_ok tP)) ⟨⟨11,0,⟨#[]⟩,⟨#[]⟩,none,0,0,some ⟨w6.heap.size,0,none⟩,3,3,rfl,AT.out.1⟩,AT.out.2.1,VS⟩ AT.out.2.2
theorem VB{p:Prop}(h:p:=by
 exact⟨rfl,Ran.bad' (HR.out.trans (PR.bnd_bad rP)) ((Ba (aC _ _)).trans (qI.trans (pY.trans (qP.trans (qH.trans qS)))))⟩):p:=h
theorem prefix_set(p:Prs)(f:Nat)(hE:gF p f)(w:World)(i:Nat)(h:p.At w i)(tD:p.l.length<=f+i)(qi:isP p.l i kIf=false)(ql:isP p.l i mE=false)(qs:isP p.l i nN=true):Calls Tryz.prog 134 #[.pointer (some ⟨p.pb,0,none⟩),.int .i64 0] w
  (Ran p.S w (cK p.l (bS p.l f) 0 i) (PreV p w i)):=by
 have HE:=zh hE;have HW:=zh h;have HR:Hid (cK p.l (bS p.l f) 0 i=(fR p.l (i+1)).bnd fun s j=>(bS p.l f 0 j).bnd fun a j2=>.ok ((.mk 18 0 s noB [] [a],0),j2)):=zh (by unfold cK;rw[if_neg (by rw[qi];simp),if_neg (by rw[ql];simp),if_pos ⟨rfl,qs⟩]);have qB:=zh (h.later (aC w (.cells bG 35)));have rD:=h.len;have pP:w.heap.size≠p.pb:=WG;have uS:=h.blt;have rX:(w.alloc (.cells bG 35)).heap.size=w.heap.size+1:=VY;clear h hE;go_enter Tryz.func134,Tryz.ntmps134;go_wp2_with(first|(go_at_call 48;have rB:=zh (show w.heap.size<w4.heap.size from(Array.getElem?_eq_some_iff.1 (qH.heap pP (qP.heap pP (pY.heap pP (qI.heap pP (bY w _)))))).1);refine(HE.out 0 j4 w4 sQ VS (by have:=fQ rC;omega)).mono ?_;rintro e w5 (⟨y5,rP,rfl,qS⟩|⟨xa,j5,rP,⟨⟨opa,na,sa,ma,pa,qa,ra,ta,ua,va,rfl,xL⟩,tG,FK⟩,qS⟩)<;>have D0:=zh (qS.heap pP (qH.heap pP (qP.heap pP (pY.heap pP (qI.heap pP (bY w _))))))<;>obtain⟨⟨r0,r1,r2,r3,r4,r5⟩,g0,g1,g2,g3,g4,g5⟩:=bx6 D0.out<;>have I8:w.heap.size<w5.heap.size:=(Array.getElem?_eq_some_iff.1 D0.out).1<;>have LN:¬w.heap.size=w5.heap.size:=VS)|(go_at_call 111;refine(fH p w3 (i+1) sV).mono ?_;rintro e w4 (⟨y4,rC,rfl,qH⟩|⟨ns,j4,rC,⟨rfl,sQ,tT⟩,qH⟩))|(go_at_call 120;refine(fK p w2 i nN rE qs).mono ?_;rintro e w3 ⟨rfl,sV,qP⟩)|(go_at_call 120;refine(bH p w1 i mE qV ql).mono ?_;rintro e w2 ⟨rfl,rE,pY⟩)|(go_at_call 120;refine(bH p (w.alloc (.cells bG 35)) i kIf qB.out qi).mono ?_;rintro e w1 ⟨rfl,qV,qI⟩))
 ·exact⟨rfl,Ran.bad' (HR.out.trans (PR.bnd_bad rC)) ((Ba (aC _ _)).trans (qI.trans (pY.trans (qP.trans qH))))⟩
 ·exact⟨rfl,Ran.bad' (HR.out.trans ((PR.bnd_ok rC).trans (PR.bnd_bad rP))) ((Ba (aC _ _)).trans (qI.trans (pY.trans (qP.trans (qH.trans qS)))))⟩
 have hj4:=fQ rC;have hz:=qS.size
 have tY:aO 6 aU (bP w4.heap.size) (w5.alloc (aH opa na sa ma pa qa ra ta ua va)) (.slice (some ⟨w5.heap.size,0,none⟩) 1 1) [xa]:=aO.of_block (css:=[[.int .i64 opa,.int .i64 na,.string sa,.string ma,.slice pa qa ra,.slice ta ua va]]) (bY w5 _) (by show w4.heap.size<=w5.heap.size;omega) rfl VY (fun i y c hy hc=>by
  match i,hy,hc with
  |0,hy,hc=>cases hy;cases hc;exact aG _ _ _ _ _ _ (aK.later (aC w5 _)) xL) rfl VU
 have hE:=nO (x:=.mk 18 0 ns noB [] [xa]) (op:=18) (n:=0) (s:=ns) (m:=⟨#[]⟩) (a1:=none) (n1:=0) (c1:=0) (a2:=some ⟨w5.heap.size,0,none⟩) (n2:=1) (c2:=1) HW.out (w:=w5) ((Ba (aC _ _)).trans (qI.trans (pY.trans (qP.trans (qH.trans qS))))) tG I8 (by rw[aN];exact⟨_,_,rfl,tT,VU,aO.nil _ _ _ _,tY⟩) (fun b hb=>by have hb:w4.heap.size<=b:=hb;have:=rB.out;omega);unfold fP at hE;refine bodyPost_ret (v:=.tuple #[bW 18 0 ns ⟨#[]⟩ none 0 0 (some ⟨w5.heap.size,0,none⟩) 1 1,.int .i64 0]) (by simp[results,Tryz.results134,go_sem,r0,r1,r2,r3,r4,r5,I8]) rfl ?_;exact Ran.good (HR.out.trans ((PR.bnd_ok rC).trans (PR.bnd_ok rP))) ⟨⟨18,0,ns,⟨#[]⟩,none,0,0,some ⟨w5.heap.size,0,none⟩,1,1,rfl,hE.1⟩,hE.2.1,VS⟩ hE.2.2
theorem prefix_not0(p:Prs)(f:Nat)(hE:gF p f)(w:World)(i:Nat)(h:p.At w i)(tD:p.l.length<=f+i)(qi:isP p.l i kIf=false)(ql:isP p.l i mE=false)(qs:isP p.l i nN=false)(qn:isP p.l i nH=true):Calls Tryz.prog 134 #[.pointer (some ⟨p.pb,0,none⟩),.int .i64 0] w
  (Ran p.S w (cK p.l (bS p.l f) 0 i) (PreV p w i)):=by
 have HE:=zh hE;have HW:=zh h;have HR:Hid (cK p.l (bS p.l f) 0 i=(bS p.l f 3 (i+1)).bnd fun a j=>.ok ((.mk 10 0 noB noB [] [a],3),j)):=zh (by unfold cK;rw[if_neg (by rw[qi];simp),if_neg (by rw[ql];simp),if_neg (by rw[qs];simp),if_pos ⟨VU,qn⟩]);have qB:=zh (h.later (aC w (.cells bG 35)));have rD:=h.len;have pP:w.heap.size≠p.pb:=WG;have uS:=h.blt;have rX:(w.alloc (.cells bG 35)).heap.size=w.heap.size+1:=VY;clear h hE;go_enter Tryz.func134,Tryz.ntmps134;go_wp2_with(first|(go_at_call 48;have rB:=zh (show w.heap.size<w4.heap.size from(Array.getElem?_eq_some_iff.1 (qH.heap pP (qP.heap pP (pY.heap pP (qI.heap pP (bY w _)))))).1);refine(HE.out 3 (i+1) w4 sQ VS VS).mono ?_;rintro e w5 (⟨y5,rP,rfl,qS⟩|⟨xa,j5,rP,⟨⟨opa,na,sa,ma,pa,qa,ra,ta,ua,va,rfl,xL⟩,tG,FK⟩,qS⟩)<;>have D0:=zh (qS.heap pP (qH.heap pP (qP.heap pP (pY.heap pP (qI.heap pP (bY w _))))))<;>obtain⟨⟨r0,r1,r2,r3,r4,r5⟩,g0,g1,g2,g3,g4,g5⟩:=bx6 D0.out<;>have I8:w.heap.size<w5.heap.size:=(Array.getElem?_eq_some_iff.1 D0.out).1<;>have LN:¬w.heap.size=w5.heap.size:=VS)|(go_at_call 120;refine(fK p w3 i nH sV qn).mono ?_;rintro e w4 ⟨rfl,sQ,qH⟩)|(go_at_call 120;refine(bH p w2 i nN rE qs).mono ?_;rintro e w3 ⟨rfl,sV,qP⟩)|(go_at_call 120;refine(bH p w1 i mE qV ql).mono ?_;rintro e w2 ⟨rfl,rE,pY⟩)|(go_at_call 120;refine(bH p (w.alloc (.cells bG 35)) i kIf qB.out qi).mono ?_;rintro e w1 ⟨rfl,qV,qI⟩))
 ·exact VB
 have hz:=qS.size
 have tY:aO 6 aU (bP w4.heap.size) (w5.alloc (aH opa na sa ma pa qa ra ta ua va)) (.slice (some ⟨w5.heap.size,0,none⟩) 1 1) [xa]:=aO.of_block (css:=[[.int .i64 opa,.int .i64 na,.string sa,.string ma,.slice pa qa ra,.slice ta ua va]]) (bY w5 _) (by show w4.heap.size<=w5.heap.size;omega) rfl VY (fun i y c hy hc=>by
  match i,hy,hc with
  |0,hy,hc=>cases hy;cases hc;exact aG _ _ _ _ _ _ (aK.later (aC w5 _)) xL) rfl VU
 have hE:=nO (x:=.mk 10 0 noB noB [] [xa]) (op:=10) (n:=0) (s:=⟨#[]⟩) (m:=⟨#[]⟩) (a1:=none) (n1:=0) (c1:=0) (a2:=some ⟨w5.heap.size,0,none⟩) (n2:=1) (c2:=1) HW.out (w:=w5) ((Ba (aC _ _)).trans (qI.trans (pY.trans (qP.trans (qH.trans qS))))) tG I8 ZL (fun b hb=>by have hb:w4.heap.size<=b:=hb;have:=rB.out;omega);unfold fP at hE;refine bodyPost_ret (v:=.tuple #[bW 10 0 ⟨#[]⟩ ⟨#[]⟩ none 0 0 (some ⟨w5.heap.size,0,none⟩) 1 1,.int .i64 3]) (by simp[results,Tryz.results134,go_sem,r0,r1,r2,r3,r4,r5,I8]) rfl ?_;exact Ran.good (HR.out.trans (PR.bnd_ok rP)) ⟨⟨10,0,⟨#[]⟩,⟨#[]⟩,none,0,0,some ⟨w5.heap.size,0,none⟩,1,1,rfl,hE.1⟩,hE.2.1,VS⟩ hE.2.2
theorem prefix_not(p:Prs)(f:Nat)(hE:gF p f)(w:World)(i:Nat)(form:Nat)(hf:form<=9)(h:p.At w i)(tD:p.l.length<=f+i)(vH:0<form)(hf3:form<=3)(qn:isP p.l i nH=true):Calls Tryz.prog 134 #[.pointer (some ⟨p.pb,0,none⟩),.int .i64 (form:Int)] w
  (Ran p.S w (cK p.l (bS p.l f) form i) (PreV p w i)):=by
 have HE:=zh hE;have HW:=zh h;have HR:Hid (cK p.l (bS p.l f) form i=(bS p.l f 3 (i+1)).bnd fun a j=>.ok ((.mk 10 0 noB noB [] [a],3),j)):=zh (by unfold cK;rw[if_neg VS,if_neg VS,if_neg VS,if_pos ⟨hf3,qn⟩]);have qB:=zh (h.later (aC w (.cells bG 35)));have rD:=h.len;have pP:w.heap.size≠p.pb:=WG;have uS:=h.blt;have rX:(w.alloc (.cells bG 35)).heap.size=w.heap.size+1:=VY;clear h hE;have hfe:((form:Int)==0)=false:=V7;have hfl:(form:Int)<=3:=VS;have hfn:¬(form:Int)=0:=VS;go_enter Tryz.func134,Tryz.ntmps134;go_wp2_with(first|(go_at_call 48;have qN:=zh (show w.heap.size<w1.heap.size from(Array.getElem?_eq_some_iff.1 (qI.heap pP (bY w _))).1);refine(HE.out 3 (i+1) w1 qV VS VS).mono ?_;rintro e w2 (⟨y2,qD,rfl,pY⟩|⟨xa,j2,qD,⟨⟨opa,na,sa,ma,pa,qa,ra,ta,ua,va,rfl,xL⟩,rE,hij2⟩,pY⟩)<;>have L6:=zh (pY.heap pP (qI.heap pP (bY w _)))<;>obtain⟨⟨r0,r1,r2,r3,r4,r5⟩,g0,g1,g2,g3,g4,g5⟩:=bx6 L6.out<;>have hbl2:w.heap.size<w2.heap.size:=(Array.getElem?_eq_some_iff.1 L6.out).1<;>have hnb2:¬w.heap.size=w2.heap.size:=VS)|(go_at_call 120;refine(fK p (w.alloc (.cells bG 35)) i nH qB.out qn).mono ?_;rintro e w1 ⟨rfl,qV,qI⟩))
 ·exact⟨rfl,Ran.bad' (HR.out.trans (PR.bnd_bad qD)) ((Ba (aC _ _)).trans (qI.trans pY))⟩
 have hz:=pY.size
 have tY:aO 6 aU (bP w1.heap.size) (w2.alloc (aH opa na sa ma pa qa ra ta ua va)) (.slice (some ⟨w2.heap.size,0,none⟩) 1 1) [xa]:=aO.of_block (css:=[[.int .i64 opa,.int .i64 na,.string sa,.string ma,.slice pa qa ra,.slice ta ua va]]) (bY w2 _) (by show w1.heap.size<=w2.heap.size;omega) rfl VY (fun i y c hy hc=>by
  match i,hy,hc with
  |0,hy,hc=>cases hy;cases hc;exact aG _ _ _ _ _ _ (aK.later (aC w2 _)) xL) rfl VU
 have hE:=nO (x:=.mk 10 0 noB noB [] [xa]) (op:=10) (n:=0) (s:=⟨#[]⟩) (m:=⟨#[]⟩) (a1:=none) (n1:=0) (c1:=0) (a2:=some ⟨w2.heap.size,0,none⟩) (n2:=1) (c2:=1) HW.out (w:=w2) ((Ba (aC _ _)).trans (qI.trans pY)) rE hbl2 ZL (fun b hb=>by have hb:w1.heap.size<=b:=hb;have:=qN.out;omega);unfold fP at hE;refine bodyPost_ret (v:=.tuple #[bW 10 0 ⟨#[]⟩ ⟨#[]⟩ none 0 0 (some ⟨w2.heap.size,0,none⟩) 1 1,.int .i64 3]) (by simp[results,Tryz.results134,go_sem,r0,r1,r2,r3,r4,r5,hbl2]) rfl ?_;exact Ran.good (HR.out.trans (PR.bnd_ok qD)) ⟨⟨10,0,⟨#[]⟩,⟨#[]⟩,none,0,0,some ⟨w2.heap.size,0,none⟩,1,1,rfl,hE.1⟩,hE.2.1,VS⟩ hE.2.2
end Go.Proofs.YtiionicikdnnpaaGreatDoor
