/- Texts of this seat, joined. -/
import Derived.Test.YtiionicikdnnpaaGreatDoorNT
set_option maxHeartbeats 2000000
set_option maxRecDepth 100000
set_option linter.unusedVariables false
set_option linter.unusedSimpArgs false
namespace Go.Proofs.YtiionicikdnnpaaGreatDoor
open Go.RowKit
theorem PV{p:Prop}(h:p:=by
 have HR:=zh hR;clear hR hn;go_wp2_with(go_at_call 17;refine(HM.out _ (D3.out.later (by repeat(first|exact Below.refl _ _|refine Below.drew ?_|refine Below.alloc ?_ R2 _)))).mono ?_;rintro e w3 ⟨rfl,rfl⟩);go_ret
 exact⟨aE SY,aA qL.out (by repeat(first|exact Below.refl _ _|refine Below.drew ?_|refine Below.alloc ?_ R2 _))⟩):p:=h
theorem QB{p:Prop}(h:p:=by
 try simp only[zn]
 refine wpAnyH_take (i:=15) (v:=.bool true) rfl RZ RZ RZ (fun _ _ _ h=>h) (Or.inl ⟨RZ,fun W hW=>SZ⟩) tH ?_;try simp only[zn]
 refine wpAnyH_done RZ ?_ _;go_wp2_with fail;go_ret
 exact⟨aE HR.out.symm,aA (aF w) pO⟩):p:=h
theorem tok_at{l:List Tok}{i:Nat}(h:i<l.length):l[i]? =some (aI l i):=by
 unfold aI;rw[List.getD_eq_getElem?_getD,List.getElem?_eq_getElem h];rfl
theorem dotted_any(p:Prs)(w:World)(i:Nat)(h:p.At w i):Calls Tryz.prog 221 #[.pointer (some ⟨p.pb,0,none⟩)] w fun e w'=>e=.returned (.bool (eS p.l i))/\Below w.heap.size w w':=by
 have HA:=zh h;have HI:=zh (fun W(hW:p.At W i)=>gJ p W i kX hW)
 cases hq:isP p.l i kX with
 |false=>
  have HR:Hid (eS p.l i=false):=zh (by unfold eS;rw[hq];rfl);rw[hq] at HI;clear h hq;go_enter Tryz.func221,Tryz.ntmps221;go_wp2_with fail;have hS:p.At w.drew i:=HA.out.later (aF _);refine wp_region_held_drew (S:=fun W=>p.At W i) RZ hS fun hS=>?_;refine zq 0 (.pointer (some ⟨p.pb,0,none⟩)) rfl ?_;try simp only[zn]
  refine wpAnyH_ready (rs:=[1]) RZ R2 ?_;refine AllReadyH.cons rfl (fun K hK=>?_) AllReadyH.nil;rw[if_pos TH];go_simp;refine(HI.out _ hS).mono ?_;rintro e w1 ⟨rfl,pO⟩;refine hK.out _ _ (hS.later pO) (fun tH=>?_);clear hK K;try simp only[zn]
  refine wpAnyH_take (i:=2) (v:=.bool true) rfl RZ RZ RZ (fun _ _ _ h=>h) (Or.inl ⟨RZ,fun W hW=>SZ⟩) tH ?_;try simp only[zn]
  refine wpAnyH_take (i:=3) (v:=.bool true) rfl RZ RZ RZ (fun _ _ _ h=>h) (Or.inl ⟨RZ,fun W hW=>SZ⟩) tH ?_;try simp only[zn]
  refine wpAnyH_take (i:=4) (v:=undef) rfl RZ RZ RZ (fun _ _ _ h=>h) (Or.inr ⟨RZ,rfl⟩) tH ?_;try simp only[zn]
  refine wpAnyH_take (i:=5) (v:=undef) rfl RZ RZ RZ (fun _ _ _ h=>h) (Or.inr ⟨RZ,rfl⟩) tH ?_;try simp only[zn]
  refine wpAnyH_take (i:=6) (v:=undef) rfl RZ RZ RZ (fun _ _ _ h=>h) (Or.inr ⟨RZ,rfl⟩) tH ?_;try simp only[zn]
  refine wpAnyH_take (i:=7) (v:=undef) rfl RZ RZ RZ (fun _ _ _ h=>h) (Or.inr ⟨RZ,rfl⟩) tH ?_;try simp only[zn]
  refine wpAnyH_take (i:=8) (v:=undef) rfl RZ RZ RZ (fun _ _ _ h=>h) (Or.inr ⟨RZ,rfl⟩) tH ?_;try simp only[zn]
  refine wpAnyH_take (i:=9) (v:=undef) rfl RZ RZ RZ (fun _ _ _ h=>h) (Or.inr ⟨RZ,rfl⟩) tH ?_;try simp only[zn]
  refine wpAnyH_take (i:=10) (v:=undef) rfl RZ RZ RZ (fun _ _ _ h=>h) (Or.inr ⟨RZ,rfl⟩) tH ?_;try simp only[zn]
  refine wpAnyH_take (i:=11) (v:=undef) rfl RZ RZ RZ (fun _ _ _ h=>h) (Or.inr ⟨RZ,rfl⟩) tH ?_;try simp only[zn]
  refine wpAnyH_take (i:=12) (v:=undef) rfl RZ RZ RZ (fun _ _ _ h=>h) (Or.inr ⟨RZ,rfl⟩) tH ?_;try simp only[zn]
  refine wpAnyH_take (i:=13) (v:=undef) rfl RZ RZ RZ (fun _ _ _ h=>h) (Or.inr ⟨RZ,rfl⟩) tH ?_;try simp only[zn]
  refine wpAnyH_take (i:=14) (v:=undef) rfl RZ RZ RZ (fun _ _ _ h=>h) (Or.inr ⟨RZ,rfl⟩) tH ?_;exact QB
 |true=>
  have AH:=h.bound;have qG:=h.len;have hw1:IntKind.i64.wrap ((i:Int)+1)=(i:Int)+1:=SQ;have hw2:IntKind.i64.wrap ((i:Int)+2)=(i:Int)+2:=SQ;rw[hq] at HI;by_cases hl:i+2<p.l.length
  ·have LF:decide ((p.l.length:Int)<=(i:Int)+2)=false:=decide_eq_false RY;have hge2:¬((p.l.length:Int)<=(i:Int)+2):=RY;have HR:Hid (eS p.l i=(decide ((aI p.l (i+1)).kind=0)&&aM (aI p.l (i+1)).text&&decide ((aI p.l (i+2)).kind=2)&&decide ((aI p.l (i+2)).text=aS))):=zh (by unfold eS;rw[hq,decide_eq_true hl];rfl);clear hq h;go_enter Tryz.func221,Tryz.ntmps221;go_wp2_with fail;have hS:p.At w.drew i:=HA.out.later (aF _);refine wp_region_held_drew (S:=fun W=>p.At W i) RZ hS fun hS=>?_;refine zq 0 (.pointer (some ⟨p.pb,0,none⟩)) rfl ?_;(try simp only[zn]);refine wpAnyH_ready (rs:=[1]) RZ R2 ?_;refine AllReadyH.cons rfl (fun K hK=>?_) AllReadyH.nil;rw[if_pos TH];go_simp;refine(HI.out _ hS).mono ?_;rintro e w1 ⟨rfl,pO⟩;refine hK.out _ _ (hS.later pO) (fun tH=>?_);clear hK K;(try simp only[zn]);refine wpAnyH_take (i:=2) (v:=.bool false) rfl RZ RZ RZ (fun _ _ _ h=>h) (Or.inl ⟨RZ,fun W hW=>SZ⟩) tH ?_;(try simp only[zn]);refine wpAnyH_take (i:=3) (v:=.bool false) rfl RZ RZ RZ (fun _ _ _ h=>h) (Or.inl ⟨RZ,fun W hW=>SZ⟩) tH ?_;(try simp only[zn]);refine wpAnyH_take (i:=4) (v:=.pointer (some ⟨p.pb,0,none⟩)) rfl RZ RZ RZ (fun _ _ _ h=>h) (Or.inl ⟨RZ,fun W hW=>SZ⟩) tH ?_;(try simp only[zn]);refine wpAnyH_take (i:=5) (v:=.pointer (some ⟨p.pb,0,none⟩)) rfl RZ RZ RZ (fun _ _ _ h=>h) (Or.inl ⟨RZ,fun W hW=>SZ⟩) tH ?_;(try simp only[zn]);refine wpAnyH_take (i:=6) (v:=.pointer (some ⟨p.pb,1,none⟩)) rfl RZ RZ RZ (fun _ _ _ h=>h) (Or.inl ⟨RZ,fun W hW=>SZ⟩) tH ?_;(try simp only[zn]);refine wpAnyH_take (i:=7) (v:=.int .i64 (i:Int)) rfl RZ RZ RZ (fun _ _ _ h=>h) (Or.inl ⟨RZ,fun W hW=>by have b1:=hW.box1;go_simp⟩) tH ?_;(try simp only[zn]);refine wpAnyH_take (i:=8) (v:=.int .i64 ((i:Int)+2)) rfl RZ RZ RZ (fun _ _ _ h=>h) (Or.inl ⟨RZ,fun W hW=>by rw[<-hw2];go_simp⟩) tH ?_;(try simp only[zn]);refine wpAnyH_take (i:=9) (v:=.pointer (some ⟨p.pb,0,none⟩)) rfl RZ RZ RZ (fun _ _ _ h=>h) (Or.inl ⟨RZ,fun W hW=>SZ⟩) tH ?_;(try simp only[zn]);refine wpAnyH_take (i:=10) (v:=.pointer (some ⟨p.pb,0,none⟩)) rfl RZ RZ RZ (fun _ _ _ h=>h) (Or.inl ⟨RZ,fun W hW=>SZ⟩) tH ?_;(try simp only[zn]);refine wpAnyH_take (i:=11) (v:=.pointer (some ⟨p.pb,0,none⟩)) rfl RZ RZ RZ (fun _ _ _ h=>h) (Or.inl ⟨RZ,fun W hW=>SZ⟩) tH ?_;(try simp only[zn]);refine wpAnyH_take (i:=12) (v:=.slice (some ⟨p.b,p.o,none⟩) p.l.length p.c) rfl RZ RZ RZ (fun _ _ _ h=>h) (Or.inl ⟨RZ,fun W hW=>by have b0:=hW.box0;go_simp⟩) tH ?_;(try simp only[zn]);refine wpAnyH_take (i:=13) (v:=.int .i64 (p.l.length:Int)) rfl RZ RZ RZ (fun _ _ _ h=>h) (Or.inl ⟨RZ,fun W hW=>SZ⟩) tH ?_;(try simp only[zn]);refine wpAnyH_take (i:=14) (v:=.bool false) rfl RZ RZ RZ (fun _ _ _ h=>h) (Or.inl ⟨RZ,fun W hW=>SZ⟩) tH ?_;(try simp only[zn]);refine wpAnyH_take (i:=15) (v:=.bool false) rfl RZ RZ RZ (fun _ _ _ h=>h) (Or.inl ⟨RZ,fun W hW=>SZ⟩) tH ?_;(try simp only[zn]);refine wpAnyH_done RZ ?_ _;go_wp2_with fail;have qY:p.At (w1.alloc (dI 0 ⟨#[]⟩ 0 0)) i:=tH.later (aB _ _);have rY:p.At ((w1.alloc (dI 0 ⟨#[]⟩ 0 0)).alloc (dI 0 ⟨#[]⟩ 0 0)) i:=qY.later (aB _ _);obtain⟨⟨c0,c1,c2,c3⟩,sG⟩:=tH.toks (i+1) _ (tok_at RY);obtain⟨⟨d0,d1,d2,d3⟩,rU⟩:=tH.toks (i+2) _ (tok_at hl);have b0:=tH.box0;have b1:=tH.box1;have D3:=zh tH;clear qY rY hS tH;have hpb1:=D3.out.blt;have hbt1:p.b<w1.heap.size:=jK c0;have AG:¬p.pb=w1.heap.size:=RY;have hnb2:¬p.b=w1.heap.size:=RY;have HM:=zh (fun W(hW:p.At W i)=>iX (aI p.l (i+1)).text W RY hW.glob);generalize aI p.l (i+1)=t1 at *;generalize aI p.l (i+2)=t2 at *;have hin1:(0:Int)<=(i:Int)+1/\(i:Int)+1<(p.l.length:Int):=RY;have hin2:(0:Int)<=(i:Int)+2/\(i:Int)+2<(p.l.length:Int):=RY;have MP:((i:Int)+1).toNat=i+1:=RY;have FP:((i:Int)+2).toNat=i+2:=RY;go_region_held3 (fun W=>W.cell? ⟨p.pb,0,none⟩=some (.slice (some ⟨p.b,p.o,none⟩) p.l.length p.c)/\W.cell? ⟨p.pb,1,none⟩=some (.int .i64 (i:Int))/\W.cell? ⟨p.b,p.o+(i+1)*4,none⟩=some (.int .i64 t1.kind)/\W.cell? ⟨p.b,p.o+(i+1)*4+1,none⟩=some (.string t1.text)/\W.cell? ⟨p.b,p.o+(i+1)*4+2,none⟩=some (.int .i64 t1.n)/\W.cell? ⟨p.b,p.o+(i+1)*4+3,none⟩=some (.int .i64 t1.pos)/\W.cell? ⟨p.b,p.o+(i+2)*4,none⟩=some (.int .i64 t2.kind)/\W.cell? ⟨p.b,p.o+(i+2)*4+1,none⟩=some (.string t2.text)/\W.cell? ⟨p.b,p.o+(i+2)*4+2,none⟩=some (.int .i64 t2.n)/\W.cell? ⟨p.b,p.o+(i+2)*4+3,none⟩=some (.int .i64 t2.pos)) (go_keep) (fail)
   all_goals
    have qL:=zh (aA (aF w) pO);clear pO;by_cases k1:t1.kind=0
    ·(have zQ:(t1.kind==0)=true:=by rw[beq_iff_eq];exact k1);have hR:=HR.out;rw[decide_eq_true k1] at hR
     cases hn:aM t1.text with
     |false=>
      rw[hn] at HM hR;exact PV
     |true=>
      rw[hn] at HM hR;by_cases k2:t2.kind=2
      ·(have k2':(t2.kind==2)=true:=by rw[beq_iff_eq];exact k2);rw[decide_eq_true k2,<-eE,kOpen_list] at hR;exact PV
      have k2':(t2.kind==2)=false:=U5;rw[decide_eq_false k2] at hR;exact PV
    have zQ:(t1.kind==0)=false:=SC;have hR:=HR.out;rw[decide_eq_false k1] at hR;have HR:=zh hR;clear hR;go_wp2_with fail;go_ret;exact⟨aE SY,aA qL.out (by repeat(first|exact Below.refl _ _|refine Below.drew ?_|refine Below.alloc ?_ R2 _))⟩
  have LF:decide ((p.l.length:Int)<=(i:Int)+2)=true:=decide_eq_true RY;have hge2:(p.l.length:Int)<=(i:Int)+2:=RY;have HR:Hid (eS p.l i=false):=zh (by unfold eS;rw[hq,decide_eq_false hl];rfl);clear hq h;go_enter Tryz.func221,Tryz.ntmps221;go_wp2_with fail;have hS:p.At w.drew i:=HA.out.later (aF _);refine wp_region_held_drew (S:=fun W=>p.At W i) RZ hS fun hS=>?_;refine zq 0 (.pointer (some ⟨p.pb,0,none⟩)) rfl ?_;try simp only[zn]
  refine wpAnyH_ready (rs:=[1]) RZ R2 ?_;refine AllReadyH.cons rfl (fun K hK=>?_) AllReadyH.nil;rw[if_pos TH];go_simp;refine(HI.out _ hS).mono ?_;rintro e w1 ⟨rfl,pO⟩;refine hK.out _ _ (hS.later pO) (fun tH=>?_);clear hK K;try simp only[zn]
  refine wpAnyH_take (i:=2) (v:=.bool false) rfl RZ RZ RZ (fun _ _ _ h=>h) (Or.inl ⟨RZ,fun W hW=>SZ⟩) tH ?_;try simp only[zn]
  refine wpAnyH_take (i:=3) (v:=.bool false) rfl RZ RZ RZ (fun _ _ _ h=>h) (Or.inl ⟨RZ,fun W hW=>SZ⟩) tH ?_;try simp only[zn]
  refine wpAnyH_take (i:=4) (v:=.pointer (some ⟨p.pb,0,none⟩)) rfl RZ RZ RZ (fun _ _ _ h=>h) (Or.inl ⟨RZ,fun W hW=>SZ⟩) tH ?_;try simp only[zn]
  refine wpAnyH_take (i:=5) (v:=.pointer (some ⟨p.pb,0,none⟩)) rfl RZ RZ RZ (fun _ _ _ h=>h) (Or.inl ⟨RZ,fun W hW=>SZ⟩) tH ?_;try simp only[zn]
  refine wpAnyH_take (i:=6) (v:=.pointer (some ⟨p.pb,1,none⟩)) rfl RZ RZ RZ (fun _ _ _ h=>h) (Or.inl ⟨RZ,fun W hW=>SZ⟩) tH ?_;try simp only[zn]
  refine wpAnyH_take (i:=7) (v:=.int .i64 (i:Int)) rfl RZ RZ RZ (fun _ _ _ h=>h) (Or.inl ⟨RZ,fun W hW=>by have b1:=hW.box1;go_simp⟩) tH ?_;try simp only[zn]
  refine wpAnyH_take (i:=8) (v:=.int .i64 ((i:Int)+2)) rfl RZ RZ RZ (fun _ _ _ h=>h) (Or.inl ⟨RZ,fun W hW=>by rw[<-hw2];go_simp⟩) tH ?_;try simp only[zn]
  refine wpAnyH_take (i:=9) (v:=.pointer (some ⟨p.pb,0,none⟩)) rfl RZ RZ RZ (fun _ _ _ h=>h) (Or.inl ⟨RZ,fun W hW=>SZ⟩) tH ?_;try simp only[zn]
  refine wpAnyH_take (i:=10) (v:=.pointer (some ⟨p.pb,0,none⟩)) rfl RZ RZ RZ (fun _ _ _ h=>h) (Or.inl ⟨RZ,fun W hW=>SZ⟩) tH ?_;try simp only[zn]
  refine wpAnyH_take (i:=11) (v:=.pointer (some ⟨p.pb,0,none⟩)) rfl RZ RZ RZ (fun _ _ _ h=>h) (Or.inl ⟨RZ,fun W hW=>SZ⟩) tH ?_;try simp only[zn]
  refine wpAnyH_take (i:=12) (v:=.slice (some ⟨p.b,p.o,none⟩) p.l.length p.c) rfl RZ RZ RZ (fun _ _ _ h=>h) (Or.inl ⟨RZ,fun W hW=>by have b0:=hW.box0;go_simp⟩) tH ?_;try simp only[zn]
  refine wpAnyH_take (i:=13) (v:=.int .i64 (p.l.length:Int)) rfl RZ RZ RZ (fun _ _ _ h=>h) (Or.inl ⟨RZ,fun W hW=>SZ⟩) tH ?_;try simp only[zn]
  refine wpAnyH_take (i:=14) (v:=.bool true) rfl RZ RZ RZ (fun _ _ _ h=>h) (Or.inl ⟨RZ,fun W hW=>SZ⟩) tH ?_;exact QB
theorem PF{p:Prop}(h:p:=by
 have LB:=rX.lt;clear pR pM qV AK hex rX qO;go_wp2_with(first|(go_at_call 110;refine(dK p uC j bQ (by have h:=tP;rw[if_neg UZ] at h;exact h)).mono ?_;rintro e rD (⟨x12,rH,rfl,qU⟩|⟨⟨⟩,k12,rH,⟨rfl,rO⟩,qU⟩))|(go_at_call 120;refine(mN p rB j aY sU.out.at_).mono ?_;rintro e uC ⟨rfl,tP,tO⟩))
 ·have sI:¬isP p.l j aY=true:=UZ;exact⟨rfl,Ran.bad' (vY.out.trans ((if_neg sI).trans (PR.bnd_bad rH))) (sU.out.off.trans (tO.trans qU))⟩
 ·have sI:¬isP p.l j aY=true:=UZ;have hk12:=(cX rH).1;have C5:=(sU.out.acc.stays aH (dC.of_off (tO.trans qU) fun b hb=>.inl TA)).row aH;go_ret;exact Ran.good (vY.out.trans ((if_neg sI).trans (PR.bnd_ok rH))) ⟨_,_,_,rfl,by simpa using C5,rO,RY⟩ (sU.out.off.trans (tO.trans qU))
 have sI:isP p.l j aY=true:=by simpa using ‹(!isP p.l j aY)=false›
 rw[if_pos sI] at tP;have rW:=tP.lt;have BL:OpL p w (out++[x]) _ _ (j+1) uC:=⟨sU.out.off.trans tO,sU.out.acc.stays aH (dC.of_off tO fun b hb=>.inl TA),tP,by have:=sU.out.len;omega⟩;have wB:=zh BL;have AL:=zh (vY.out.trans (if_pos sI));have AR:=zh tP;have MS:=sU.out.len;obtain⟨F',tQ⟩:∃F',F=F'+1:=⟨F-1,RY⟩;clear BL tP sI;go_roundw
 case rel=>
  subst tQ;exact⟨some ⟨g,0,none⟩,cap,j+1,F',out++[x],_,R2,wB,AL,zh ⟨RY,RY,RY⟩⟩
 case measure=>
  rw[AR.out.pos,HL.out.at_.pos];omega):p:=h
theorem QV{p:Prop}(h:p:=by
 rename_i hq;have hj:=(cX hx).1;rw[if_pos hq] at qY;go_ret
 exact Ran.good (HR.out.trans ((PR.bnd_ok hx).trans (if_pos hq))) ⟨none,0,0,rfl,aO.nil _ _ _ _,qY,RY⟩ (qE.trans pU)):p:=h
theorem RW{p:Prop}(h:p:=by
 exact⟨rfl,Ran.bad' (HR.out.trans (PR.bnd_bad hx)) qE⟩):p:=h
theorem xpInfo:(Tryz.prog.info? 35).map (fun i=>(i.zero,i.size,i.bytes))=some (some (dW 0 0 ByteArray.empty ByteArray.empty none 0 0 none 0 0),6,96):=RZ
def oC(B:Nat)(x:Xp)(e:Ending)(w':World):Prop:=∃op n s m a1 n1 c1 a2 n2 c2,e=.returned (dW op n s m a1 n1 c1 a2 n2 c2)/\
 bJ (bO B) w' x [.int .i64 op,.int .i64 n,.string s,.string m,.slice a1 n1 c1,.slice a2 n2 c2]
def gV(p:Prs)(f:Nat):Prop:=∀(form i:Nat)(w:World),p.At w i->form<=9->p.l.length<f+i->Calls Tryz.prog 48 #[.pointer (some ⟨p.pb,0,none⟩),.int .i64 (form:Int)] w
 (Ran p.S w (bL p.l f form i) fun x j e w'=>oC w.heap.size x e w'/\p.At w' j/\i<=j)
structure OpL (p:Prs) (W:World) (out:List Xp) (css:List (List Value)) (v:Value) (q:Nat) (wr:World):Prop where
 off:Off p.S W wr
 acc:Gro 6 35 bJ W.heap.size out css v wr
 at_:p.At wr q
 len:out.length<=q
section
variable {l:List Tok} {rec:RecP} {F q:Nat} {out:List Xp}
theorem operFrom_yes(hb:dX l q=true)(hr:eH l q out.length 6=.ok ((),q)):bF l rec (F+1) out q=(rec 0 q).bnd fun e j=>
  if isP l j aY then bF l rec F (out++[e]) (j+1) else(dD l j bQ).bnd fun _ k=>.ok (out++[e],k):=by
 rw[bF,if_pos hb,hr];rfl
theorem operFrom_no(hb:dX l q=false):bF l rec (F+1) out q=(rec 0 q).bnd fun e j=>
  if isP l j aY then bF l rec F (out++[e]) (j+1) else(dD l j bQ).bnd fun _ k=>.ok (out++[e],k):=by
 rw[bF,if_neg (by rw[hb];simp)];rfl
theorem operFrom_full(hb:dX l q=true){x:Int×Int}(hr:eH l q out.length 6=.error x):bF l rec (F+1) out q=.error x:=by
 rw[bF,if_pos hb,hr];rfl
theorem oP{a b j:Nat}(h:eH l q a b=.ok ((),j)):j=q:=by
 unfold eH at h;split at h
 ·cases h;rfl
 cases h
end
theorem OpL.step{p:Prs}{W w5 w7 rB:World}{g cap n1 i0 j q:Nat}{out:List Xp}{css:List (List Value)}{v:Value}{x:Xp}{cs:List Value}{T:TypeId}(hW:p.At W i0)(h5:OpL p W out css v q w5)(qO:Off p.S w5 w7)(rX:p.At w7 j)(hq:out.length<q)(hqj:q<=j)
  (hex:bJ (bO w5.heap.size) w7 x cs) (hl:cs.length=6)
  (pR:rB.ownsRow W.heap.size 35 6 (.slice (some ⟨g,0,none⟩) n1 cap) n1 (css.flatten++cs)) (hn:n1=out.length+1) (pM:(w7.alloc (.cells cs.toArray T)).grownBy rB v.ownBlock) (qV:v.ownBlock=some g\/g=w7.heap.size+1):
  OpL p W (out++[x]) (css++[cs]) (.slice (some ⟨g,0,none⟩) n1 cap) j rB:=by
 subst hn;have qA:=h5.acc.lt;have tX:=h5.acc.big;have o9:Off p.S w5 (w7.alloc (.cells cs.toArray T)):=qO.trans (Ba (aB _ _));have hA9:=h5.acc.stays aH (dC.of_off o9 fun b hb=>.inl UQ)
 have hx:bJ (nD W.heap.size v) (w7.alloc (.cells cs.toArray T)) x cs:=by
  refine aH.wide (aH _ _ _ _ _ _ (aQ.later (aB _ _)) hex) fun b hb _=>?_;have hb:w5.heap.size<=b:=hb;exact⟨RY,fun e=>by have:=qA b e;omega⟩
 have AC:(w7.alloc (.cells cs.toArray T)).heap.size=w7.heap.size+1:=R2;have xY:Off (fun b=>W.heap.size<=b) (w7.alloc (.cells cs.toArray T)) rB:=⟨pM.os,pM.tape,pM.output,pM.size,fun b hb hn=>pM.block b hb (fun e=>hn (qA b e.symm).1)⟩;refine⟨?_,hA9.added aH hx hl pR pM U7,?_,?_⟩
 ·exact Off.fresh (((h5.off.trans o9).or _).trans (xY.mono fun b hb=>.inr hb)) (Nat.le_refl _)
 ·exact hW.above rX ((Ba (aB _ _)).trans xY)
 simp;omega
theorem OpL.off'{p:Prs}{W wr w':World}{out:List Xp}{css:List (List Value)}{v:Value}{q:Nat}(h:OpL p W out css v q wr)(ho:Off p.S wr w')(ha:p.At w' q)(tY:p.pb<W.heap.size:=by exact Prs.At.blt (Hid.out ‹_›)):OpL p W out css v q w':=
 ⟨h.off.trans ho,h.acc.stays aH (dC.of_off ho fun b hb=>.inl SM),ha,h.len⟩
theorem mI(p:Prs)(f:Nat)(hE:gV p f)(w:World)(i:Nat)(h:p.At w i)(sH:p.l.length<=f+i):Calls Tryz.prog 220 #[.pointer (some ⟨p.pb,0,none⟩)] w
  (Ran p.S w (eO p.l (bL p.l f) i) fun xs j e w'=>∃a n c,e=.returned (.slice a n c)/\aO 6 bJ (bO w.heap.size) w' (.slice a n c) xs/\p.At w' j/\i<=j):=by
 obtain⟨i0,xS,xN,sG,rU⟩:=info_parts xpInfo;have HE:=zh hE;have HW:=zh h;have LW:=zh (dK p w i aS h);have qG:=h.len;have HR:Hid (eO p.l (bL p.l f) i=(dD p.l i aS).bnd fun _ j=>if isP p.l j bQ then .ok ([],j+1) else bF p.l (bL p.l f) (p.l.length+1) [] j):=zh rfl;clear h hE;go_enter Tryz.func220,Tryz.ntmps220;go_wp2_with(first|(go_at_call 120;refine(mN p w1 j bQ qP).mono ?_;rintro e w2 ⟨rfl,qY,pU⟩)|(go_at_call 110;refine LW.out.mono ?_;rintro e w1 (⟨x,hx,rfl,qE⟩|⟨⟨⟩,j,hx,⟨rfl,qP⟩,qE⟩)))
 ·exact RW
 ·exact QV
 rename_i hq;have hj:=(cX hx).1;rw[if_neg UJ] at qY;have sL:=zh (HR.out.trans ((PR.bnd_ok hx).trans (if_neg UJ)));have OF:Hid (OpL p w [] [] (.slice none 0 0) j w2):=zh ⟨qE.trans pU,Gro.first_at _ _ _ (qE.trans pU).size,qY,Nat.zero_le _⟩;have HJ:=zh hj;clear hj hx qE qP pU qY hq LW HR;go_loopw [3] (fun v wr=>∃(a:Option Addr)(c q F:Nat)(out:List Xp)(css:List (List Value)),v=.slice a out.length c/\Hid (OpL p w out css v q wr)/\Hid (eO p.l (bL p.l f) i=bF p.l (bL p.l f) (F+1) out q)/\Hid (p.l.length<=F+q/\i<q/\out.length<q)) (fun _ wr=>p.l.length-posOf wr p.pb)
 case atStart=>exact⟨none,0,j,p.l.length,[],[],rfl,OF,sL,zh ⟨RY,by have:=HJ.out;omega,by have:=HJ.out;simp;omega⟩⟩
 case round=>
  obtain⟨a,c,q,F,out,css,rfl,HL,qI,HB⟩:=hrel;rename World=>wr
  have zF:=HB.out.1;have zE:=HB.out.2.1;have MK:=HB.out.2.2;have hq4:=HL.out.at_.lt
  cases GD:dX p.l q with
  |true=>
   go_wp2_with(first|(go_at_call 247;refine(begins_any p wr q HL.out.at_).mono ?_;rintro e w5 ⟨rfl,hb5⟩;rw[GD];have tU:=zh (HL.out.off' (Ba hb5) (HL.out.at_.later hb5)))|(go_at_call 113;refine(oO p w5 q out.length 6 tU.out.at_).mono ?_;rintro e w6 (⟨x,hx,rfl,qR⟩|⟨⟨⟩,j6,hx,⟨rfl,tG⟩,qR⟩))|(go_at_call 48;have hj6:=oP hx;subst hj6;have zL:=zh (tU.out.off' qR tG);refine(HE.out 0 j6 w6 tG RY RY).mono ?_;rintro e w7 (⟨x7,rJ,rfl,qO⟩|⟨x,j,rJ,⟨⟨op,n,s,m,a1,n1,c1,a2,n2,c2,rfl,hex⟩,rX,hqj⟩,qO⟩))|(at_builtin;have sA:=(zL.out.acc.stays aH (dC.of_off (qO.trans (Ba (aB w7 (aN op n s m a1 n1 c1 a2 n2 c2)))) fun b hb=>.inl TA));have sB:=sA.big;have hlen9:=zL.out.len;have hlt9:=zL.out.at_.lt;refine wpList_append_lies _ rfl _ _ 25 rfl w.heap.size 35 i0 (dW 0 0 ByteArray.empty ByteArray.empty none 0 0 none 0 0) 6 96 Tryz.underlying25 xS xN sG rU rfl RY (.slice a out.length c) out.length css.flatten TH sA.own ⟨w7.heap.size,0,none⟩ 1 1 [.int .i64 op,.int .i64 n,.string s,.string m,.slice a1 n1 c1,.slice a2 n2 c2] TH rfl (World.news_of_block (cs:=#[.int .i64 op,.int .i64 n,.string s,.string m,.slice a1 n1 c1,.slice a2 n2 c2]) (t:=35) (fr:=(0,0)) (bY w7 _)) SG RY SH RY sB (w7.heap.size+1) R2 ?_))
   ·exact⟨rfl,Ran.bad' (qI.out.trans (operFrom_full GD hx)) (tU.out.off.trans qR)⟩
   ·exact⟨rfl,Ran.bad' (qI.out.trans ((operFrom_yes GD hx).trans (PR.bnd_bad rJ))) (zL.out.off.trans qO)⟩
   intro g cap rB pR pM qV _;have AK:=zL.out.step HW.out qO rX MK hqj hex rfl pR rfl pM qV;have sU:=zh AK;have vY:=zh (qI.out.trans ((operFrom_yes GD hx).trans (PR.bnd_ok rJ)));exact PF
  |false=>
   go_wp2_with(first|(go_at_call 247;refine(begins_any p wr q HL.out.at_).mono ?_;rintro e w5 ⟨rfl,hb5⟩;rw[GD];have tU:=zh (HL.out.off' (Ba hb5) (HL.out.at_.later hb5)))|(go_at_call 48;refine(HE.out 0 q w5 tU.out.at_ RY RY).mono ?_;rintro e w7 (⟨x7,rJ,rfl,qO⟩|⟨x,j,rJ,⟨⟨op,n,s,m,a1,n1,c1,a2,n2,c2,rfl,hex⟩,rX,hqj⟩,qO⟩))|(at_builtin;have sA:=(tU.out.acc.stays aH (dC.of_off (qO.trans (Ba (aB w7 (aN op n s m a1 n1 c1 a2 n2 c2)))) fun b hb=>.inl TA));have sB:=sA.big;have hlen9:=tU.out.len;have hlt9:=tU.out.at_.lt;refine wpList_append_lies _ rfl _ _ 25 rfl w.heap.size 35 i0 (dW 0 0 ByteArray.empty ByteArray.empty none 0 0 none 0 0) 6 96 Tryz.underlying25 xS xN sG rU rfl RY (.slice a out.length c) out.length css.flatten TH sA.own ⟨w7.heap.size,0,none⟩ 1 1 [.int .i64 op,.int .i64 n,.string s,.string m,.slice a1 n1 c1,.slice a2 n2 c2] TH rfl (World.news_of_block (cs:=#[.int .i64 op,.int .i64 n,.string s,.string m,.slice a1 n1 c1,.slice a2 n2 c2]) (t:=35) (fr:=(0,0)) (bY w7 _)) SG RY SH RY sB (w7.heap.size+1) R2 ?_))
   ·exact⟨rfl,Ran.bad' (qI.out.trans ((operFrom_no GD).trans (PR.bnd_bad rJ))) (tU.out.off.trans qO)⟩
   intro g cap rB pR pM qV _;have AK:=tU.out.step HW.out qO rX MK hqj hex rfl pR rfl pM qV;have sU:=zh AK;have vY:=zh (qI.out.trans ((operFrom_no GD).trans (PR.bnd_ok rJ)));exact PF
end Go.Proofs.YtiionicikdnnpaaGreatDoor
namespace Go.Proofs.YtiionicikdnnpaaGreatDoor
open Go.RowKit
theorem bx6{w:World}{b:Nat}{x0 x1 x2 x3 x4 x5:Value}{t:TypeId}(h:w.heap[b]? =some (.cells #[x0,x1,x2,x3,x4,x5] t)):
  (w.cell? ⟨b,0,none⟩=some x0/\w.cell? ⟨b,1,none⟩=some x1/\w.cell? ⟨b,2,none⟩=some x2/\w.cell? ⟨b,3,none⟩=some x3/\w.cell? ⟨b,4,none⟩=some x4/\w.cell? ⟨b,5,none⟩=some x5)/\
  (w.frozen? ⟨b,0,none⟩=false/\w.frozen? ⟨b,1,none⟩=false/\w.frozen? ⟨b,2,none⟩=false/\w.frozen? ⟨b,3,none⟩=false/\w.frozen? ⟨b,4,none⟩=false/\w.frozen? ⟨b,5,none⟩=false):=
 ⟨⟨(bx h 0 rfl).1,(bx h 1 rfl).1,(bx h 2 rfl).1,(bx h 3 rfl).1,(bx h 4 rfl).1,(bx h 5 rfl).1⟩,(bx h 0 (u:=x0) rfl).2,(bx h 1 (u:=x1) rfl).2,(bx h 2 (u:=x2) rfl).2,(bx h 3 (u:=x3) rfl).2,(bx h 4 (u:=x4) rfl).2,(bx h 5 (u:=x5) rfl).2⟩
def PreV(p:Prs)(W:World)(i:Nat)(r:Xp×Nat)(j:Nat)(e:Ending)(w':World):Prop:=(∃op n s m a1 n1 c1 a2 n2 c2,e=.returned (.tuple #[dW op n s m a1 n1 c1 a2 n2 c2,.int .i64 (r.2:Int)])/\
 bJ (bO W.heap.size) w' r.1 [.int .i64 op,.int .i64 n,.string s,.string m,.slice a1 n1 c1,.slice a2 n2 c2])/\p.At w' j/\i<=j
def gC(w:World)(b:Nat)(x0 x1 x2 x3 x4 x5:Value):World:=
 (((((w.setCell ⟨b,0,none⟩ x0).setCell ⟨b,1,none⟩ x1).setCell ⟨b,2,none⟩ x2).setCell ⟨b,3,none⟩ x3).setCell ⟨b,4,none⟩ x4).setCell ⟨b,5,none⟩ x5
theorem kH(w:World)(b:Nat)(x0 x1 x2 x3 x4 x5:Value):Off (fun k=>k=b) w (gC w b x0 x1 x2 x3 x4 x5):=by
 unfold gC;exact(((((Off.setCell (S:=fun k=>k=b) _ rfl).trans (Off.setCell (S:=fun k=>k=b) _ rfl)).trans (Off.setCell (S:=fun k=>k=b) _ rfl)).trans (Off.setCell (S:=fun k=>k=b) _ rfl)).trans (Off.setCell (S:=fun k=>k=b) _ rfl)).trans (Off.setCell (S:=fun k=>k=b) _ rfl)
abbrev bC:Array Value:=#[.int .i64 0,.int .i64 0,.string ⟨#[]⟩,.string ⟨#[]⟩,.slice none 0 0,.slice none 0 0]
theorem gX{p:Prs}{W w:World}{i0 j:Nat}{x:Xp}{op n:Int}{s m:bA}{a1 a2:Option Addr}{n1 c1 n2 c2:Nat}{N:Nat->Prop}(hW:p.At W i0)(ho:Off p.S W w)(ha:p.At w j)
  (hx:bJ N w x [.int .i64 op,.int .i64 n,.string s,.string m,.slice a1 n1 c1,.slice a2 n2 c2]) (hN:∀b,N b->W.heap.size<b):
  bJ (bO W.heap.size) (gC w W.heap.size (.int .i64 op) (.int .i64 n) (.string s) (.string m) (.slice a1 n1 c1) (.slice a2 n2 c2)) x [.int .i64 op,.int .i64 n,.string s,.string m,.slice a1 n1 c1,.slice a2 n2 c2]/\
  p.At (gC w W.heap.size (.int .i64 op) (.int .i64 n) (.string s) (.string m) (.slice a1 n1 c1) (.slice a2 n2 c2)) j/\Off p.S W (gC w W.heap.size (.int .i64 op) (.int .i64 n) (.string s) (.string m) (.slice a1 n1 c1) (.slice a2 n2 c2)):=by
 have pU:=kH w W.heap.size (.int .i64 op) (.int .i64 n) (.string s) (.string m) (.slice a1 n1 c1) (.slice a2 n2 c2);refine⟨aH.wide (aH.off hx pU fun b hb hn=>by have:=hN b hn;omega) fun b hb _=>Nat.le_of_lt (hN b hb),hW.above ha (pU.mono fun b hb=>RY),?_⟩;exact Off.fresh ((ho.or _).trans (pU.mono fun b hb=>.inr (Nat.le_of_eq hb.symm))) (Nat.le_refl _)
theorem fR(w:World)(a:Addr)(v:Value):(w.setCell a v).heap.size=w.heap.size:=by simp[World.setCell]
theorem set6_size(w:World)(b:Nat)(x0 x1 x2 x3 x4 x5:Value):(gC w b x0 x1 x2 x3 x4 x5).heap.size=w.heap.size:=by unfold gC;simp only[fR]
theorem nO{p:Prs}{W w:World}{i0 j:Nat}{x:Xp}{op n:Int}{s m:bA}{a1 a2:Option Addr}{n1 c1 n2 c2:Nat}{N:Nat->Prop}{cs:Array Value}{T:TypeId}(hW:p.At W i0)(ho:Off p.S W w)(ha:p.At w j)(hb:W.heap.size<w.heap.size)
  (hx:bJ N (w.alloc (.cells cs T)) x [.int .i64 op,.int .i64 n,.string s,.string m,.slice a1 n1 c1,.slice a2 n2 c2]) (hN:∀b,N b->W.heap.size<b):
  bJ (bO W.heap.size) ((gC w W.heap.size (.int .i64 op) (.int .i64 n) (.string s) (.string m) (.slice a1 n1 c1) (.slice a2 n2 c2)).alloc (.cells cs T)) x [.int .i64 op,.int .i64 n,.string s,.string m,.slice a1 n1 c1,.slice a2 n2 c2]/\
  p.At ((gC w W.heap.size (.int .i64 op) (.int .i64 n) (.string s) (.string m) (.slice a1 n1 c1) (.slice a2 n2 c2)).alloc (.cells cs T)) j/\Off p.S W ((gC w W.heap.size (.int .i64 op) (.int .i64 n) (.string s) (.string m) (.slice a1 n1 c1) (.slice a2 n2 c2)).alloc (.cells cs T)):=by
 have o:=kH w W.heap.size (.int .i64 op) (.int .i64 n) (.string s) (.string m) (.slice a1 n1 c1) (.slice a2 n2 c2);have sV:=set6_size w W.heap.size (.int .i64 op) (.int .i64 n) (.string s) (.string m) (.slice a1 n1 c1) (.slice a2 n2 c2);generalize gC w W.heap.size (.int .i64 op) (.int .i64 n) (.string s) (.string m) (.slice a1 n1 c1) (.slice a2 n2 c2)=w2 at o sV ⊢
 have pU:Off (fun k=>k=W.heap.size) (w.alloc (.cells cs T)) (w2.alloc (.cells cs T)):=⟨o.os,o.tape,o.output,by simp[sV],fun k hk hn=>by
  by_cases JS:k<w.heap.size
  ·rw[Below.heap_alloc _ _ _ RY,Below.heap_alloc _ _ _ JS];exact o.block k JS hn
  have EB:k=w.heap.size:=by simp at hk;omega
  subst EB;have h2:=bY w2 (.cells cs T);rw[sV] at h2
  rw[h2,bY w]⟩
 refine⟨aH.wide (aH.off hx pU fun b hb hn=>by have:=hN b hn;omega) fun b hb _=>Nat.le_of_lt (hN b hb),hW.above (ha.later (aB _ _)) (pU.mono fun b hb=>RY),?_⟩;exact Off.fresh (((ho.trans (Ba (aB _ _))).or _).trans (pU.mono fun b hb=>.inr (Nat.le_of_eq hb.symm))) (Nat.le_refl _)
theorem prefix_if(p:Prs)(f:Nat)(hE:gV p f)(w:World)(i:Nat)(h:p.At w i)(sH:p.l.length<=f+i)(hq:isP p.l i kIf=true):Calls Tryz.prog 134 #[.pointer (some ⟨p.pb,0,none⟩),.int .i64 0] w
  (Ran p.S w (bS p.l (bL p.l f) 0 i) (PreV p w i)):=by
 have HE:=zh hE;have HW:=zh h;have HR:Hid (bS p.l (bL p.l f) 0 i=(bL p.l f 0 (i+1)).bnd fun a j=>(dD p.l j kU).bnd fun _ j2=>(bL p.l f 0 j2).bnd fun b j3=>(dD p.l j3 kV).bnd fun _ j4=>(bL p.l f 0 j4).bnd fun c j5=>.ok ((.mk 11 0 noB noB [] [a,b,c],0),j5)):=zh (by unfold bS;rw[if_pos ⟨rfl,hq⟩]);have HH:=zh (fY p (w.alloc (.cells bC 35)) i kIf (h.later (aB _ _)) hq);have qG:=h.len;have pQ:w.heap.size≠p.pb:=SF;have tY:=h.blt;clear h hE hq;go_enter Tryz.func134,Tryz.ntmps134;go_wp2_with(first|(go_at_call 110;refine(dK p (w4.alloc (aN opb nb sb mb pb' qb rb tb ub vb)) j4 kV (rR.later (aB _ _))).mono ?_;rintro e w5 (⟨x5,rF,rfl,qM⟩|⟨⟨⟩,j5,rF,⟨rfl,sN⟩,qM⟩))|(go_at_call 48;refine(HE.out 0 j3 w3 rY RY (by have:=(cX qF).1;omega)).mono ?_;rintro e w4 (⟨x4,qX,rfl,qD⟩|⟨xb,j4,qX,⟨⟨opb,nb,sb,mb,pb',qb,rb,tb,ub,vb,rfl,DR⟩,rR,hij4⟩,qD⟩))|(go_at_call 110;refine(dK p (w2.alloc (aN opa na sa ma pa qa ra ta ua va)) j2 kU (qY.later (aB _ _))).mono ?_;rintro e w3 (⟨x3,qF,rfl,qK⟩|⟨⟨⟩,j3,qF,⟨rfl,rY⟩,qK⟩))|(go_at_call 48;refine(HE.out 0 (i+1) w1 qP RY RY).mono ?_;rintro e w2 (⟨x2,qB,rfl,pU⟩|⟨xa,j2,qB,⟨⟨opa,na,sa,ma,pa,qa,ra,ta,ua,va,rfl,wQ⟩,qY,hij2⟩,pU⟩))|(go_at_call 120;refine HH.out.mono ?_;rintro e w1 ⟨rfl,qP,qE⟩))
 ·exact⟨rfl,Ran.bad' (HR.out.trans (PR.bnd_bad qB)) ((Ba (aB _ _)).trans (qE.trans pU))⟩
 ·exact⟨rfl,Ran.bad' (HR.out.trans ((PR.bnd_ok qB).trans (PR.bnd_bad qF))) ((Ba (aB _ _)).trans (qE.trans (pU.trans ((Ba (aB _ _)).trans qK))))⟩
 ·exact⟨rfl,Ran.bad' (HR.out.trans ((PR.bnd_ok qB).trans ((PR.bnd_ok qF).trans (PR.bnd_bad qX)))) ((Ba (aB _ _)).trans (qE.trans (pU.trans ((Ba (aB _ _)).trans (qK.trans qD)))))⟩
 ·exact⟨rfl,Ran.bad' (HR.out.trans ((PR.bnd_ok qB).trans ((PR.bnd_ok qF).trans ((PR.bnd_ok qX).trans (PR.bnd_bad rF))))) ((Ba (aB _ _)).trans (qE.trans (pU.trans ((Ba (aB _ _)).trans (qK.trans (qD.trans ((Ba (aB _ _)).trans qM)))))))⟩
 have sG:=qE.size;have rU:=pU.size;have CD:=qK.size;have DP:=qD.size;have yC:=qM.size;have vS:(w.alloc (.cells bC 35)).heap.size=w.heap.size+1:=R2;have EW:(w2.alloc (aN opa na sa ma pa qa ra ta ua va)).heap.size=w2.heap.size+1:=R2;have hs4:(w4.alloc (aN opb nb sb mb pb' qb rb tb ub vb)).heap.size=w4.heap.size+1:=R2;have OW:Off p.S w w5:=(Ba (aB _ _)).trans (qE.trans (pU.trans ((Ba (aB _ _)).trans (qK.trans (qD.trans ((Ba (aB _ _)).trans qM))))));have O2:Off p.S w2 w5:=(Ba (aB _ _)).trans (qK.trans (qD.trans ((Ba (aB _ _)).trans qM)));have O4:Off p.S w4 w5:=(Ba (aB _ _)).trans qM;have n2:w2.heap.size≠p.pb:=RY;have n4:w4.heap.size≠p.pb:=RY;have EI:w5.heap[w.heap.size]? =some (.cells bC 35):=qM.heap pQ (aC (aB _ _) (qD.heap pQ (qK.heap pQ (aC (aB _ _) (pU.heap pQ (qE.heap pQ (bY w _)))))));have hBA:w5.heap[w2.heap.size]? =some (aN opa na sa ma pa qa ra ta ua va):=qM.heap n2 (aC (aB _ _) (qD.heap n2 (qK.heap n2 (bY w2 _))));have EZ:w5.heap[w4.heap.size]? =some (aN opb nb sb mb pb' qb rb tb ub vb):=qM.heap n4 (bY w4 _);have LV:=zh (aH.off wQ O2 (fun b hb hn=>by have hb:b=p.pb:=hb;have hn:w1.heap.size<=b:=hn;omega));have HXB:=zh (aH.off DR O4 (fun b hb hn=>by have hb:b=p.pb:=hb;have hn:w3.heap.size<=b:=hn;omega));have qI:=zh (HR.out.trans ((PR.bnd_ok qB).trans ((PR.bnd_ok qF).trans ((PR.bnd_ok qX).trans (PR.bnd_ok rF)))));have L2:=zh OW;have I8:=zh EI;have MW:=(cX qF).1;have hj5:=(cX rF).1;clear wQ DR O2 O4 OW EI qB qF qX rF qE pU qK qD qM HH HR qP qY rY rR;refine wp_region_held_drew (S:=(fun W=>W.heap[w2.heap.size]? =some (aN opa na sa ma pa qa ra ta ua va)/\W.heap[w4.heap.size]? =some (aN opb nb sb mb pb' qb rb tb ub vb))) RZ ⟨hBA,EZ⟩ fun hS=>?_;refine zt 0 (dW opa na sa ma pa qa ra ta ua va) rfl (fun W hW=>by obtain⟨⟨c0,c1,c2,c3,c4,c5⟩,-⟩:=bx6 hW.1;go_simp) ?_;refine zt 1 (dW opb nb sb mb pb' qb rb tb ub vb) rfl (fun W hW=>by obtain⟨⟨c0,c1,c2,c3,c4,c5⟩,-⟩:=bx6 hW.2;go_simp) ?_;refine zq 2 (.pointer (some ⟨p.pb,0,none⟩)) rfl ?_;try simp only[zn]
 refine zr 3 rfl (fun K hK=>?_);go_simp;refine(HE.out 0 j5 w5.drew (sN.later (aF _)) RY RY).mono ?_;rintro e w6 (⟨x6,tD,rfl,qR⟩|⟨xc,j6,tD,⟨⟨opc,nc,sc,mc,pc,qc,rc,tc,uc,vc,rfl,EE⟩,tG,MY⟩,qR⟩)
 ·go_wp2_with fail;exact⟨rfl,Ran.bad' (qI.out.trans (PR.bnd_bad tD)) (L2.out.trans ((Ba (aF w5)).trans qR))⟩
 have hBA6:=qR.heap n2 (aC (aF w5) hBA);have hBB6:=qR.heap n4 (aC (aF w5) EZ);refine hK.out _ _ ⟨hBA6,hBB6⟩ (fun hS=>?_);clear hK K;try simp only[zn]
 have J2:=aC (aB w6 (oBx7 opa na sa ma pa qa ra ta ua va opb nb sb mb pb' qb rb tb ub vb opc nc sc mc pc qc rc tc uc vc)) (qR.heap pQ (aC (aF w5) I8.out));have I2:=bY w6 (oBx7 opa na sa ma pa qa ra ta ua va opb nb sb mb pb' qb rb tb ub vb opc nc sc mc pc qc rc tc uc vc);have hA6:p.At (w6.alloc (oBx7 opa na sa ma pa qa ra ta ua va opb nb sb mb pb' qb rb tb ub vb opc nc sc mc pc qc rc tc uc vc)) j6:=tG.later (aB _ _);have O6:Off p.S w5 (w6.alloc (oBx7 opa na sa ma pa qa ra ta ua va opb nb sb mb pb' qb rb tb ub vb opc nc sc mc pc qc rc tc uc vc)):=(Ba (aF w5)).trans (qR.trans (Ba (aB _ _)));have GY:=aC (aB w6 (oBx7 opa na sa ma pa qa ra ta ua va opb nb sb mb pb' qb rb tb ub vb opc nc sc mc pc qc rc tc uc vc)) hBA6;have hBB7:=aC (aB w6 (oBx7 opa na sa ma pa qa ra ta ua va opb nb sb mb pb' qb rb tb ub vb opc nc sc mc pc qc rc tc uc vc)) hBB6;have EU:=qR.size;have hszd:w5.drew.heap.size=w5.heap.size:=rfl;have hXA:=aH.off LV.out O6 (fun b hb hn=>by have hb:b=p.pb:=hb;have hn:w1.heap.size<=b:=hn;omega);have hXB:=aH.off HXB.out O6 (fun b hb hn=>by have hb:b=p.pb:=hb;have hn:w3.heap.size<=b:=hn;omega);have hXC:=aH _ _ _ _ _ _ (aQ.later (aB w6 (oBx7 opa na sa ma pa qa ra ta ua va opb nb sb mb pb' qb rb tb ub vb opc nc sc mc pc qc rc tc uc vc))) EE
 have tI:Hid (aO 6 bJ (bO w1.heap.size) (w6.alloc (oBx7 opa na sa ma pa qa ra ta ua va opb nb sb mb pb' qb rb tb ub vb opc nc sc mc pc qc rc tc uc vc)) (.slice (some ⟨w6.heap.size,0,none⟩) 3 3) [xa,xb,xc]):=zh (aO.of_block (css:=[[.int .i64 opa,.int .i64 na,.string sa,.string ma,.slice pa qa ra,.slice ta ua va],[.int .i64 opb,.int .i64 nb,.string sb,.string mb,.slice pb' qb rb,.slice tb ub vb],[.int .i64 opc,.int .i64 nc,.string sc,.string mc,.slice pc qc rc,.slice tc uc vc]]) I2 (by show w1.heap.size<=w6.heap.size;omega) rfl R2 (fun i y c hy hc=>by
  match i,hy,hc with
  |0,hy,hc=>cases hy;cases hc;exact hXA
  |1,hy,hc=>cases hy;cases hc;exact aH.wide hXB (fun b hb _=>by have hb:w3.heap.size<=b:=hb;show w1.heap.size<=b;omega)
  |2,hy,hc=>cases hy;cases hc;exact aH.wide hXC (fun b hb _=>by have hb:w5.drew.heap.size<=b:=hb;show w1.heap.size<=b;omega)) rfl R0)
 have HA6:=zh hA6;have HO6:=zh (L2.out.trans O6);obtain⟨⟨r0,r1,r2,r3,r4,r5⟩,g0,g1,g2,g3,g4,g5⟩:=bx6 J2;clear hXA hXB hXC EE LV HXB I2 hA6 O6 J2;refine zr 4 rfl (fun K hK=>?_);go_simp;refine hK.out _ _ ⟨GY,hBB7⟩ (fun hS=>?_);clear hK K;refine zq 5 (dW 11 0 ⟨#[]⟩ ⟨#[]⟩ none 0 0 (some ⟨w6.heap.size,0,none⟩) 3 3) rfl ?_;try simp only[zn]
 refine zr 6 rfl (fun K hK=>?_);go_simp;have hE:=gX (x:=.mk 11 0 noB noB [] [xa,xb,xc]) (op:=11) (n:=0) (s:=⟨#[]⟩) (m:=⟨#[]⟩) (a1:=none) (n1:=0) (c1:=0) (a2:=some ⟨w6.heap.size,0,none⟩) (n2:=3) (c2:=3) HW.out HO6.out HA6.out (by rw[aW];exact⟨_,_,rfl,R0,R0,aO.nil _ _ _ _,tI.out⟩) (fun b hb=>by have hb:w1.heap.size<=b:=hb;omega);have EY:=kH (w6.alloc (oBx7 opa na sa ma pa qa ra ta ua va opb nb sb mb pb' qb rb tb ub vb opc nc sc mc pc qc rc tc uc vc)) w.heap.size (.int .i64 11) (.int .i64 0) (.string ⟨#[]⟩) (.string ⟨#[]⟩) (.slice none 0 0) (.slice (some ⟨w6.heap.size,0,none⟩) 3 3);have GW:=EY.heap RY GY;have hBB8:=EY.heap RY hBB7;unfold gC at hE GW hBB8;have EP:=zh hE;clear hE EY tI HA6 HO6;refine hK.out _ _ ⟨GW,hBB8⟩ (fun hS=>?_);clear hK K;refine zq 7 (.int .i64 0) rfl ?_;try simp only[zn]
 refine wpAnyH_done RZ ?_ _;go_wp2_with fail;refine bodyPost_ret (v:=.tuple #[dW 11 0 ⟨#[]⟩ ⟨#[]⟩ none 0 0 (some ⟨w6.heap.size,0,none⟩) 3 3,.int .i64 0]) TZ rfl ?_;exact Ran.good (qI.out.trans (PR.bnd_ok tD)) ⟨⟨11,0,⟨#[]⟩,⟨#[]⟩,none,0,0,some ⟨w6.heap.size,0,none⟩,3,3,rfl,EP.out.1⟩,EP.out.2.1,RY⟩ EP.out.2.2
theorem RI{p:Prop}(h:p:=by
 exact⟨rfl,Ran.bad' (HR.out.trans (PR.bnd_bad rF)) ((Ba (aB _ _)).trans (qE.trans (pU.trans (qK.trans (qD.trans qM)))))⟩):p:=h
theorem prefix_set(p:Prs)(f:Nat)(hE:gV p f)(w:World)(i:Nat)(h:p.At w i)(sH:p.l.length<=f+i)(qi:isP p.l i kIf=false)(ql:isP p.l i lJ=false)(qs:isP p.l i mL=true):Calls Tryz.prog 134 #[.pointer (some ⟨p.pb,0,none⟩),.int .i64 0] w
  (Ran p.S w (bS p.l (bL p.l f) 0 i) (PreV p w i)):=by
 have HE:=zh hE;have HW:=zh h;have HR:Hid (bS p.l (bL p.l f) 0 i=(fC p.l (i+1)).bnd fun s j=>(bL p.l f 0 j).bnd fun a j2=>.ok ((.mk 18 0 s noB [] [a],0),j2)):=zh (by unfold bS;rw[if_neg (by rw[qi];simp),if_neg (by rw[ql];simp),if_pos ⟨rfl,qs⟩]);have rI:=zh (h.later (aB w (.cells bC 35)));have qG:=h.len;have pQ:w.heap.size≠p.pb:=SF;have tY:=h.blt;have vS:(w.alloc (.cells bC 35)).heap.size=w.heap.size+1:=R2;clear h hE;go_enter Tryz.func134,Tryz.ntmps134;go_wp2_with(first|(go_at_call 48;have rA:=zh (show w.heap.size<w4.heap.size from(Array.getElem?_eq_some_iff.1 (qD.heap pQ (qK.heap pQ (pU.heap pQ (qE.heap pQ (bY w _)))))).1);refine(HE.out 0 j4 w4 rR RY (by have:=gD qX;omega)).mono ?_;rintro e w5 (⟨y5,rF,rfl,qM⟩|⟨xa,j5,rF,⟨⟨opa,na,sa,ma,pa,qa,ra,ta,ua,va,rfl,wQ⟩,sN,EC⟩,qM⟩)<;>have C4:=zh (qM.heap pQ (qD.heap pQ (qK.heap pQ (pU.heap pQ (qE.heap pQ (bY w _))))))<;>obtain⟨⟨r0,r1,r2,r3,r4,r5⟩,g0,g1,g2,g3,g4,g5⟩:=bx6 C4.out<;>have GE:w.heap.size<w5.heap.size:=(Array.getElem?_eq_some_iff.1 C4.out).1<;>have JQ:¬w.heap.size=w5.heap.size:=RY)|(go_at_call 111;refine(fV p w3 (i+1) rY).mono ?_;rintro e w4 (⟨y4,qX,rfl,qD⟩|⟨ns,j4,qX,⟨rfl,rR,sV⟩,qD⟩))|(go_at_call 120;refine(fY p w2 i mL qY qs).mono ?_;rintro e w3 ⟨rfl,rY,qK⟩)|(go_at_call 120;refine(bI p w1 i lJ qP ql).mono ?_;rintro e w2 ⟨rfl,qY,pU⟩)|(go_at_call 120;refine(bI p (w.alloc (.cells bC 35)) i kIf rI.out qi).mono ?_;rintro e w1 ⟨rfl,qP,qE⟩))
 ·exact⟨rfl,Ran.bad' (HR.out.trans (PR.bnd_bad qX)) ((Ba (aB _ _)).trans (qE.trans (pU.trans (qK.trans qD))))⟩
 ·exact⟨rfl,Ran.bad' (HR.out.trans ((PR.bnd_ok qX).trans (PR.bnd_bad rF))) ((Ba (aB _ _)).trans (qE.trans (pU.trans (qK.trans (qD.trans qM)))))⟩
 have hj4:=gD qX;have hz:=qM.size
 have tI:aO 6 bJ (bO w4.heap.size) (w5.alloc (aN opa na sa ma pa qa ra ta ua va)) (.slice (some ⟨w5.heap.size,0,none⟩) 1 1) [xa]:=aO.of_block (css:=[[.int .i64 opa,.int .i64 na,.string sa,.string ma,.slice pa qa ra,.slice ta ua va]]) (bY w5 _) (by show w4.heap.size<=w5.heap.size;omega) rfl R2 (fun i y c hy hc=>by
  match i,hy,hc with
  |0,hy,hc=>cases hy;cases hc;exact aH _ _ _ _ _ _ (aQ.later (aB w5 _)) wQ) rfl R0
 have hE:=nO (x:=.mk 18 0 ns noB [] [xa]) (op:=18) (n:=0) (s:=ns) (m:=⟨#[]⟩) (a1:=none) (n1:=0) (c1:=0) (a2:=some ⟨w5.heap.size,0,none⟩) (n2:=1) (c2:=1) HW.out (w:=w5) ((Ba (aB _ _)).trans (qE.trans (pU.trans (qK.trans (qD.trans qM))))) sN GE (by rw[aW];exact⟨_,_,rfl,sV,R0,aO.nil _ _ _ _,tI⟩) (fun b hb=>by have hb:w4.heap.size<=b:=hb;have:=rA.out;omega);unfold gC at hE;refine bodyPost_ret (v:=.tuple #[dW 18 0 ns ⟨#[]⟩ none 0 0 (some ⟨w5.heap.size,0,none⟩) 1 1,.int .i64 0]) (by simp[results,Tryz.results134,go_sem,r0,r1,r2,r3,r4,r5,GE]) rfl ?_;exact Ran.good (HR.out.trans ((PR.bnd_ok qX).trans (PR.bnd_ok rF))) ⟨⟨18,0,ns,⟨#[]⟩,none,0,0,some ⟨w5.heap.size,0,none⟩,1,1,rfl,hE.1⟩,hE.2.1,RY⟩ hE.2.2
theorem prefix_not0(p:Prs)(f:Nat)(hE:gV p f)(w:World)(i:Nat)(h:p.At w i)(sH:p.l.length<=f+i)(qi:isP p.l i kIf=false)(ql:isP p.l i lJ=false)(qs:isP p.l i mL=false)(qn:isP p.l i mD=true):Calls Tryz.prog 134 #[.pointer (some ⟨p.pb,0,none⟩),.int .i64 0] w
  (Ran p.S w (bS p.l (bL p.l f) 0 i) (PreV p w i)):=by
 have HE:=zh hE;have HW:=zh h;have HR:Hid (bS p.l (bL p.l f) 0 i=(bL p.l f 3 (i+1)).bnd fun a j=>.ok ((.mk 10 0 noB noB [] [a],3),j)):=zh (by unfold bS;rw[if_neg (by rw[qi];simp),if_neg (by rw[ql];simp),if_neg (by rw[qs];simp),if_pos ⟨R0,qn⟩]);have rI:=zh (h.later (aB w (.cells bC 35)));have qG:=h.len;have pQ:w.heap.size≠p.pb:=SF;have tY:=h.blt;have vS:(w.alloc (.cells bC 35)).heap.size=w.heap.size+1:=R2;clear h hE;go_enter Tryz.func134,Tryz.ntmps134;go_wp2_with(first|(go_at_call 48;have rA:=zh (show w.heap.size<w4.heap.size from(Array.getElem?_eq_some_iff.1 (qD.heap pQ (qK.heap pQ (pU.heap pQ (qE.heap pQ (bY w _)))))).1);refine(HE.out 3 (i+1) w4 rR RY RY).mono ?_;rintro e w5 (⟨y5,rF,rfl,qM⟩|⟨xa,j5,rF,⟨⟨opa,na,sa,ma,pa,qa,ra,ta,ua,va,rfl,wQ⟩,sN,EC⟩,qM⟩)<;>have C4:=zh (qM.heap pQ (qD.heap pQ (qK.heap pQ (pU.heap pQ (qE.heap pQ (bY w _))))))<;>obtain⟨⟨r0,r1,r2,r3,r4,r5⟩,g0,g1,g2,g3,g4,g5⟩:=bx6 C4.out<;>have GE:w.heap.size<w5.heap.size:=(Array.getElem?_eq_some_iff.1 C4.out).1<;>have JQ:¬w.heap.size=w5.heap.size:=RY)|(go_at_call 120;refine(fY p w3 i mD rY qn).mono ?_;rintro e w4 ⟨rfl,rR,qD⟩)|(go_at_call 120;refine(bI p w2 i mL qY qs).mono ?_;rintro e w3 ⟨rfl,rY,qK⟩)|(go_at_call 120;refine(bI p w1 i lJ qP ql).mono ?_;rintro e w2 ⟨rfl,qY,pU⟩)|(go_at_call 120;refine(bI p (w.alloc (.cells bC 35)) i kIf rI.out qi).mono ?_;rintro e w1 ⟨rfl,qP,qE⟩))
 ·exact RI
 have hz:=qM.size
 have tI:aO 6 bJ (bO w4.heap.size) (w5.alloc (aN opa na sa ma pa qa ra ta ua va)) (.slice (some ⟨w5.heap.size,0,none⟩) 1 1) [xa]:=aO.of_block (css:=[[.int .i64 opa,.int .i64 na,.string sa,.string ma,.slice pa qa ra,.slice ta ua va]]) (bY w5 _) (by show w4.heap.size<=w5.heap.size;omega) rfl R2 (fun i y c hy hc=>by
  match i,hy,hc with
  |0,hy,hc=>cases hy;cases hc;exact aH _ _ _ _ _ _ (aQ.later (aB w5 _)) wQ) rfl R0
 have hE:=nO (x:=.mk 10 0 noB noB [] [xa]) (op:=10) (n:=0) (s:=⟨#[]⟩) (m:=⟨#[]⟩) (a1:=none) (n1:=0) (c1:=0) (a2:=some ⟨w5.heap.size,0,none⟩) (n2:=1) (c2:=1) HW.out (w:=w5) ((Ba (aB _ _)).trans (qE.trans (pU.trans (qK.trans (qD.trans qM))))) sN GE VG (fun b hb=>by have hb:w4.heap.size<=b:=hb;have:=rA.out;omega);unfold gC at hE;refine bodyPost_ret (v:=.tuple #[dW 10 0 ⟨#[]⟩ ⟨#[]⟩ none 0 0 (some ⟨w5.heap.size,0,none⟩) 1 1,.int .i64 3]) (by simp[results,Tryz.results134,go_sem,r0,r1,r2,r3,r4,r5,GE]) rfl ?_;exact Ran.good (HR.out.trans (PR.bnd_ok rF)) ⟨⟨10,0,⟨#[]⟩,⟨#[]⟩,none,0,0,some ⟨w5.heap.size,0,none⟩,1,1,rfl,hE.1⟩,hE.2.1,RY⟩ hE.2.2
theorem prefix_not(p:Prs)(f:Nat)(hE:gV p f)(w:World)(i:Nat)(form:Nat)(hf:form<=9)(h:p.At w i)(sH:p.l.length<=f+i)(uU:0<form)(M1:form<=3)(qn:isP p.l i mD=true):Calls Tryz.prog 134 #[.pointer (some ⟨p.pb,0,none⟩),.int .i64 (form:Int)] w
  (Ran p.S w (bS p.l (bL p.l f) form i) (PreV p w i)):=by
 have HE:=zh hE;have HW:=zh h;have HR:Hid (bS p.l (bL p.l f) form i=(bL p.l f 3 (i+1)).bnd fun a j=>.ok ((.mk 10 0 noB noB [] [a],3),j)):=zh (by unfold bS;rw[if_neg RY,if_neg RY,if_neg RY,if_pos ⟨M1,qn⟩]);have rI:=zh (h.later (aB w (.cells bC 35)));have qG:=h.len;have pQ:w.heap.size≠p.pb:=SF;have tY:=h.blt;have vS:(w.alloc (.cells bC 35)).heap.size=w.heap.size+1:=R2;clear h hE;have hfe:((form:Int)==0)=false:=SA;have hfl:(form:Int)<=3:=RY;have hfn:¬(form:Int)=0:=RY;go_enter Tryz.func134,Tryz.ntmps134;go_wp2_with(first|(go_at_call 48;have qL:=zh (show w.heap.size<w1.heap.size from(Array.getElem?_eq_some_iff.1 (qE.heap pQ (bY w _))).1);refine(HE.out 3 (i+1) w1 qP RY RY).mono ?_;rintro e w2 (⟨y2,qB,rfl,pU⟩|⟨xa,j2,qB,⟨⟨opa,na,sa,ma,pa,qa,ra,ta,ua,va,rfl,wQ⟩,qY,hij2⟩,pU⟩)<;>have J3:=zh (pU.heap pQ (qE.heap pQ (bY w _)))<;>obtain⟨⟨r0,r1,r2,r3,r4,r5⟩,g0,g1,g2,g3,g4,g5⟩:=bx6 J3.out<;>have hbl2:w.heap.size<w2.heap.size:=(Array.getElem?_eq_some_iff.1 J3.out).1<;>have hnb2:¬w.heap.size=w2.heap.size:=RY)|(go_at_call 120;refine(fY p (w.alloc (.cells bC 35)) i mD rI.out qn).mono ?_;rintro e w1 ⟨rfl,qP,qE⟩))
 ·exact⟨rfl,Ran.bad' (HR.out.trans (PR.bnd_bad qB)) ((Ba (aB _ _)).trans (qE.trans pU))⟩
 have hz:=pU.size
 have tI:aO 6 bJ (bO w1.heap.size) (w2.alloc (aN opa na sa ma pa qa ra ta ua va)) (.slice (some ⟨w2.heap.size,0,none⟩) 1 1) [xa]:=aO.of_block (css:=[[.int .i64 opa,.int .i64 na,.string sa,.string ma,.slice pa qa ra,.slice ta ua va]]) (bY w2 _) (by show w1.heap.size<=w2.heap.size;omega) rfl R2 (fun i y c hy hc=>by
  match i,hy,hc with
  |0,hy,hc=>cases hy;cases hc;exact aH _ _ _ _ _ _ (aQ.later (aB w2 _)) wQ) rfl R0
 have hE:=nO (x:=.mk 10 0 noB noB [] [xa]) (op:=10) (n:=0) (s:=⟨#[]⟩) (m:=⟨#[]⟩) (a1:=none) (n1:=0) (c1:=0) (a2:=some ⟨w2.heap.size,0,none⟩) (n2:=1) (c2:=1) HW.out (w:=w2) ((Ba (aB _ _)).trans (qE.trans pU)) qY hbl2 VG (fun b hb=>by have hb:w1.heap.size<=b:=hb;have:=qL.out;omega);unfold gC at hE;refine bodyPost_ret (v:=.tuple #[dW 10 0 ⟨#[]⟩ ⟨#[]⟩ none 0 0 (some ⟨w2.heap.size,0,none⟩) 1 1,.int .i64 3]) (by simp[results,Tryz.results134,go_sem,r0,r1,r2,r3,r4,r5,hbl2]) rfl ?_;exact Ran.good (HR.out.trans (PR.bnd_ok qB)) ⟨⟨10,0,⟨#[]⟩,⟨#[]⟩,none,0,0,some ⟨w2.heap.size,0,none⟩,1,1,rfl,hE.1⟩,hE.2.1,RY⟩ hE.2.2
end Go.Proofs.YtiionicikdnnpaaGreatDoor
