/- Texts of this seat, joined. -/
import Derived.Test.YtiionicikdnnpaaGreatDoorCU
set_option maxHeartbeats 2000000
set_option maxRecDepth 100000
set_option linter.unusedVariables false
set_option linter.unusedSimpArgs false
namespace Go.Proofs.YtiionicikdnnpaaGreatDoor
open Go.RowKit
theorem V8{p:Prop}(h:p:=by
 unfold iP at hE;refine bodyPost_ret (v:=.tuple #[eK opa na sa ma pa qa ra ta ua va,.int .i64 8]) aAk rfl ?_
 exact Ran.good (HR.out.trans (PR.bnd_ok hx)) ⟨⟨opa,na,sa,ma,pa,qa,ra,ta,ua,va,rfl,hE.1⟩,hE.2.1,GA⟩ hE.2.2):p:=h
theorem prefix_let(p:Prs)(f:Nat)(hE:iL p f)(w:World)(i:Nat)(h:p.At w i)(uK:p.l.length<=f+i)(qi:isP p.l i kIf=false)(ql:isP p.l i mT=true):Calls Tryz.prog 134 #[.pointer (some ⟨p.pb,0,none⟩),.int .i64 0] w
  (Ran p.S w (cH p.l (bM p.l f) 0 i) (PreV p w i)):=by
 have HE:=zh hE;have HW:=zh h;have HR:Hid (cH p.l (bM p.l f) 0 i=(gK p.l (i+1)).bnd fun s j=>(eB p.l j kEq).bnd fun _ j2=>(bM p.l f 0 j2).bnd fun a j3=>(eB p.l j3 kIn).bnd fun _ j4=>(bM p.l f 0 j4).bnd fun b j5=>.ok ((.mk 12 0 s noB [] [a,b],0),j5)):=zh (by unfold cH;rw[if_neg (by rw[qi];simp),if_pos ⟨rfl,ql⟩]);have uM:=zh (h.later (aA w (.cells bW 35)));have hlen:=h.len;have rO:w.heap.size≠p.pb:=ZC;have wQ:=h.blt;have xD:(w.alloc (.cells bW 35)).heap.size=w.heap.size+1:=YR;clear h hE;go_enter Tryz.func134,Tryz.ntmps134;go_wp2_with(first|(go_at_call 110;refine(eA p (w5.alloc (aN opa na sa ma pa qa ra ta ua va)) j5 kIn (uS.later (aA _ _))).mono ?_;rintro e w6 (⟨y6,uX,rfl,sH⟩|⟨⟨⟩,j6,uX,⟨rfl,vN⟩,sH⟩))|(go_at_call 48;refine(HE.out 0 j4 w4 uA YM (by have:=gU rW;have:=(dJ sI).1;omega)).mono ?_;rintro e w5 (⟨y5,sQ,rfl,sC⟩|⟨xa,j5,sQ,⟨⟨opa,na,sa,ma,pa,qa,ra,ta,ua,va,rfl,zJ⟩,uS,I7⟩,sC⟩))|(go_at_call 110;refine(eA p w3 j3 kEq uF).mono ?_;rintro e w4 (⟨y4,sI,rfl,rY⟩|⟨⟨⟩,j4,sI,⟨rfl,uA⟩,rY⟩))|(go_at_call 111;refine(gJ p w2 (i+1) sS).mono ?_;rintro e w3 (⟨y3,rW,rfl,sB⟩|⟨ns,j3,rW,⟨rfl,uF,tK⟩,sB⟩))|(go_at_call 120;refine(gM p w1 i mT sG ql).mono ?_;rintro e w2 ⟨rfl,sS,rS⟩)|(go_at_call 120;refine(bG p (w.alloc (.cells bW 35)) i kIf uM.out qi).mono ?_;rintro e w1 ⟨rfl,sG,rX⟩))
 ·exact⟨rfl,Ran.bad' (HR.out.trans (PR.bnd_bad rW)) ((Ba (aA _ _)).trans (rX.trans (rS.trans sB)))⟩
 ·exact⟨rfl,Ran.bad' (HR.out.trans ((PR.bnd_ok rW).trans (PR.bnd_bad sI))) ((Ba (aA _ _)).trans (rX.trans (rS.trans (sB.trans rY))))⟩
 ·exact⟨rfl,Ran.bad' (HR.out.trans ((PR.bnd_ok rW).trans ((PR.bnd_ok sI).trans (PR.bnd_bad sQ)))) ((Ba (aA _ _)).trans (rX.trans (rS.trans (sB.trans (rY.trans sC)))))⟩
 ·exact⟨rfl,Ran.bad' (HR.out.trans ((PR.bnd_ok rW).trans ((PR.bnd_ok sI).trans ((PR.bnd_ok sQ).trans (PR.bnd_bad uX))))) ((Ba (aA _ _)).trans (rX.trans (rS.trans (sB.trans (rY.trans (sC.trans ((Ba (aA _ _)).trans sH)))))))⟩
 have tF:=rX.size;have sY:=rS.size;have DJ:=sB.size;have FC:=rY.size;have AY:=sC.size;have JY:=sH.size;have QW:(w5.alloc (aN opa na sa ma pa qa ra ta ua va)).heap.size=w5.heap.size+1:=YR;have OW:Off p.S w w6:=((Ba (aA _ _)).trans (rX.trans (rS.trans (sB.trans (rY.trans (sC.trans ((Ba (aA _ _)).trans sH)))))));have O5:Off p.S w5 w6:=(Ba (aA _ _)).trans sH;have n5:w5.heap.size≠p.pb:=YM;have JI:w6.heap[w.heap.size]? =some (.cells bW 35):=sH.heap rO (aH (aA _ _) (sC.heap rO (rY.heap rO (sB.heap rO (rS.heap rO (rX.heap rO (bY w _)))))));have hBA:w6.heap[w5.heap.size]? =some (aN opa na sa ma pa qa ra ta ua va):=sH.heap n5 (bY w5 _);have RZ:=zh (aI.off zJ O5 (fun b hb hn=>by have hb:b=p.pb:=hb;have hn:w4.heap.size<=b:=hn;omega));have sA:=zh (HR.out.trans ((PR.bnd_ok rW).trans ((PR.bnd_ok sI).trans ((PR.bnd_ok sQ).trans (PR.bnd_ok uX)))));have R5:=zh OW;have J7:=zh JI;have SZ:=gU rW;have hj4:=(dJ sI).1;have hj6:=(dJ uX).1;clear zJ O5 OW JI rW sI sQ uX rX rS sB rY sC sH HR sG sS uF uA uS;refine wp_region_held_drew (S:=(fun W=>W.heap[w5.heap.size]? =some (aN opa na sa ma pa qa ra ta ua va))) YN hBA fun hS=>?_;refine zq 0 (.string ns) rfl ?_;refine zt 1 (eK opa na sa ma pa qa ra ta ua va) rfl (fun W hW=>by obtain⟨⟨c0,c1,c2,c3,c4,c5⟩,-⟩:=bx6 hW;go_simp) ?_;refine zq 2 (.pointer (some ⟨p.pb,0,none⟩)) rfl ?_;try simp only[zn]
 refine zr 3 rfl (fun K hK=>?_);go_simp;refine(HE.out 0 j6 w6.drew (vN.later (aE _)) YM YM).mono ?_;rintro e w7 (⟨y7,tJ,rfl,sF⟩|⟨xc,j7,tJ,⟨⟨opc,nc,sc,mc,pc,qc,rc,tc,uc,vc,rfl,JC⟩,uE,S0⟩,sF⟩)
 ·go_wp2_with fail;exact⟨rfl,Ran.bad' (sA.out.trans (PR.bnd_bad tJ)) (R5.out.trans ((Ba (aE w6)).trans sF))⟩
 have L4:=sF.heap n5 (aH (aE w6) hBA);refine hK.out _ _ L4 (fun hS=>?_);clear hK K;try simp only[zn]
 have PA:=aH (aA w7 (qV opa na sa ma pa qa ra ta ua va opc nc sc mc pc qc rc tc uc vc)) (sF.heap rO (aH (aE w6) J7.out));have NQ:=bY w7 (qV opa na sa ma pa qa ra ta ua va opc nc sc mc pc qc rc tc uc vc);have hA7:p.At (w7.alloc (qV opa na sa ma pa qa ra ta ua va opc nc sc mc pc qc rc tc uc vc)) j7:=uE.later (aA _ _);have O7:Off p.S w6 (w7.alloc (qV opa na sa ma pa qa ra ta ua va opc nc sc mc pc qc rc tc uc vc)):=(Ba (aE w6)).trans (sF.trans (Ba (aA _ _)));have L3:=aH (aA w7 (qV opa na sa ma pa qa ra ta ua va opc nc sc mc pc qc rc tc uc vc)) L4;have JX:=sF.size;have hszd:w6.drew.heap.size=w6.heap.size:=rfl;have hXA:=aI.off RZ.out O7 (fun b hb hn=>by have hb:b=p.pb:=hb;have hn:w4.heap.size<=b:=hn;omega);have hXC:=aI _ _ _ _ _ _ (bU.later (aA w7 (qV opa na sa ma pa qa ra ta ua va opc nc sc mc pc qc rc tc uc vc))) JC
 have vP:Hid (aO 6 bN (bQ w4.heap.size) (w7.alloc (qV opa na sa ma pa qa ra ta ua va opc nc sc mc pc qc rc tc uc vc)) (.slice (some ⟨w7.heap.size,0,none⟩) 2 2) [xa,xc]):=zh (aO.of_block (css:=[[.int .i64 opa,.int .i64 na,.string sa,.string ma,.slice pa qa ra,.slice ta ua va],[.int .i64 opc,.int .i64 nc,.string sc,.string mc,.slice pc qc rc,.slice tc uc vc]]) NQ (by show w4.heap.size<=w7.heap.size;omega) rfl YR (fun i y c hy hc=>by
  match i,hy,hc with
  |0,hy,hc=>cases hy;cases hc;exact hXA
  |1,hy,hc=>cases hy;cases hc;exact aI.wide hXC (fun b hb _=>by have hb:w6.drew.heap.size<=b:=hb;show w4.heap.size<=b;omega)) rfl YO)
 have HA7:=zh hA7;have HO7:=zh (R5.out.trans O7);obtain⟨⟨r0,r1,r2,r3,r4,r5⟩,g0,g1,g2,g3,g4,g5⟩:=bx6 PA;clear hXA hXC JC RZ NQ hA7 O7 PA;refine zr 4 rfl (fun K hK=>?_);go_simp;refine hK.out _ _ L3 (fun hS=>?_);clear hK K;refine zq 5 (eK 12 0 ns ⟨#[]⟩ none 0 0 (some ⟨w7.heap.size,0,none⟩) 2 2) rfl ?_;try simp only[zn]
 refine zr 6 rfl (fun K hK=>?_);go_simp;have hE:=iO (x:=.mk 12 0 ns noB [] [xa,xc]) (op:=12) (n:=0) (s:=ns) (m:=⟨#[]⟩) (a1:=none) (n1:=0) (c1:=0) (a2:=some ⟨w7.heap.size,0,none⟩) (n2:=2) (c2:=2) HW.out HO7.out HA7.out (by rw[aU];exact⟨_,_,rfl,tK,YO,aO.nil _ _ _ _,vP.out⟩) (fun b hb=>Z8);have J4:=qQ (w7.alloc (qV opa na sa ma pa qa ra ta ua va opc nc sc mc pc qc rc tc uc vc)) w.heap.size (.int .i64 12) (.int .i64 0) (.string ns) (.string ⟨#[]⟩) (.slice none 0 0) (.slice (some ⟨w7.heap.size,0,none⟩) 2 2);have hBA9:=J4.heap YM L3;unfold iP at hE hBA9;have FL:=zh hE;clear hE J4 vP HA7 HO7;refine hK.out _ _ hBA9 (fun hS=>?_);clear hK K;refine zq 7 (.int .i64 0) rfl ?_;try simp only[zn]
 refine wpAnyH_done YN ?_ _;go_wp2_with fail;refine bodyPost_ret (v:=.tuple #[eK 12 0 ns ⟨#[]⟩ none 0 0 (some ⟨w7.heap.size,0,none⟩) 2 2,.int .i64 0]) aAk rfl ?_;exact Ran.good (sA.out.trans (PR.bnd_ok tJ)) ⟨⟨12,0,ns,⟨#[]⟩,none,0,0,some ⟨w7.heap.size,0,none⟩,2,2,rfl,FL.out.1⟩,FL.out.2.1,YM⟩ FL.out.2.2
def PrimOk(p:Prs)(f:Nat):Prop:=∀(i:Nat)(w:World),p.At w i->p.l.length<=f+i->Calls Tryz.prog 191 #[.pointer (some ⟨p.pb,0,none⟩)] w
 (Ran p.S w (aQ p.l (bM p.l f) i) fun x j e w'=>qH w.heap.size x e w'/\p.At w' j/\i<=j)
theorem prefix_prim0(p:Prs)(f:Nat)(hE:iL p f)(w:World)(i:Nat)(hP:PrimOk p f)(h:p.At w i)(uK:p.l.length<=f+i)(qi:isP p.l i kIf=false)(ql:isP p.l i mT=false)(qs:isP p.l i oE=false)(qn:isP p.l i nR=false):Calls Tryz.prog 134 #[.pointer (some ⟨p.pb,0,none⟩),.int .i64 0] w
  (Ran p.S w (cH p.l (bM p.l f) 0 i) (PreV p w i)):=by
 have HE:=zh hE;have HW:=zh h;have HP:=zh hP;have HR:Hid (cH p.l (bM p.l f) 0 i=(aQ p.l (bM p.l f) i).bnd fun e j=>.ok ((e,8),j)):=zh (by unfold cH;rw[if_neg (by rw[qi];simp),if_neg (by rw[ql];simp),if_neg (by rw[qs];simp),if_neg (by rw[qn];simp)]);have uM:=zh (h.later (aA w (.cells bW 35)));have hlen:=h.len;have rO:w.heap.size≠p.pb:=ZC;have wQ:=h.blt;have xD:(w.alloc (.cells bW 35)).heap.size=w.heap.size+1:=YR;clear h hE hP;go_enter Tryz.func134,Tryz.ntmps134;go_wp2_with(first|(go_at_call 191;have HB:=zh (show w.heap.size<w4.heap.size from(Array.getElem?_eq_some_iff.1 (rY.heap rO (sB.heap rO (rS.heap rO (rX.heap rO (bY w _)))))).1);refine(HP.out i w4 uA YM).mono ?_;rintro e w5 (⟨y,hx,rfl,sC⟩|⟨xa,j,hx,⟨⟨opa,na,sa,ma,pa,qa,ra,ta,ua,va,rfl,zJ⟩,uS,GA⟩,sC⟩)<;>have JI:=zh (sC.heap rO (rY.heap rO (sB.heap rO (rS.heap rO (rX.heap rO (bY w _))))))<;>obtain⟨⟨r0,r1,r2,r3,r4,r5⟩,g0,g1,g2,g3,g4,g5⟩:=bx6 JI.out)|(go_at_call 120;refine(bG p w3 i nR uF qn).mono ?_;rintro e w4 ⟨rfl,uA,rY⟩)|(go_at_call 120;refine(bG p w2 i oE sS qs).mono ?_;rintro e w3 ⟨rfl,uF,sB⟩)|(go_at_call 120;refine(bG p w1 i mT sG ql).mono ?_;rintro e w2 ⟨rfl,sS,rS⟩)|(go_at_call 120;refine(bG p (w.alloc (.cells bW 35)) i kIf uM.out qi).mono ?_;rintro e w1 ⟨rfl,sG,rX⟩))
 ·exact⟨rfl,Ran.bad' (HR.out.trans (PR.bnd_bad hx)) ((Ba (aA _ _)).trans (rX.trans (rS.trans (sB.trans (rY.trans sC)))))⟩
 have hE:=iO HW.out ((Ba (aA _ _)).trans (rX.trans (rS.trans (sB.trans (rY.trans sC))))) uS zJ (fun b hb=>by have hb:w4.heap.size<=b:=hb;have:=HB.out;omega);exact V8
theorem prefix_prim(p:Prs)(f:Nat)(hE:iL p f)(w:World)(i:Nat)(form:Nat)(hf:form<=9)(hP:PrimOk p f)(h:p.At w i)(uK:p.l.length<=f+i)(xL:0<form)(TD:form<=3)(qn:isP p.l i nR=false):Calls Tryz.prog 134 #[.pointer (some ⟨p.pb,0,none⟩),.int .i64 (form:Int)] w
  (Ran p.S w (cH p.l (bM p.l f) form i) (PreV p w i)):=by
 have HE:=zh hE;have HW:=zh h;have HP:=zh hP;have HR:Hid (cH p.l (bM p.l f) form i=(aQ p.l (bM p.l f) i).bnd fun e j=>.ok ((e,8),j)):=zh (by unfold cH;rw[if_neg YM,if_neg YM,if_neg YM,if_neg (by rw[qn];simp)]);have uM:=zh (h.later (aA w (.cells bW 35)));have hlen:=h.len;have rO:w.heap.size≠p.pb:=ZC;have wQ:=h.blt;have xD:(w.alloc (.cells bW 35)).heap.size=w.heap.size+1:=YR;clear h hE hP;have hfe:((form:Int)==0)=false:=YV;have RD:(form:Int)<=3:=YM;have hfn:¬(form:Int)=0:=YM;go_enter Tryz.func134,Tryz.ntmps134;go_wp2_with(first|(go_at_call 191;have HB:=zh (show w.heap.size<w1.heap.size from(Array.getElem?_eq_some_iff.1 (rX.heap rO (bY w _))).1);refine(HP.out i w1 sG YM).mono ?_;rintro e w2 (⟨y,hx,rfl,rS⟩|⟨xa,j,hx,⟨⟨opa,na,sa,ma,pa,qa,ra,ta,ua,va,rfl,zJ⟩,sS,GA⟩,rS⟩)<;>have JI:=zh (rS.heap rO (rX.heap rO (bY w _)))<;>obtain⟨⟨r0,r1,r2,r3,r4,r5⟩,g0,g1,g2,g3,g4,g5⟩:=bx6 JI.out)|(go_at_call 120;refine(bG p (w.alloc (.cells bW 35)) i nR uM.out qn).mono ?_;rintro e w1 ⟨rfl,sG,rX⟩))
 ·exact⟨rfl,Ran.bad' (HR.out.trans (PR.bnd_bad hx)) ((Ba (aA _ _)).trans (rX.trans rS))⟩
 have hE:=iO HW.out ((Ba (aA _ _)).trans (rX.trans rS)) sS zJ (fun b hb=>by have hb:w1.heap.size<=b:=hb;have:=HB.out;omega);exact V8
theorem prefix_prim4(p:Prs)(f:Nat)(hE:iL p f)(w:World)(i:Nat)(form:Nat)(hf:form<=9)(hP:PrimOk p f)(h:p.At w i)(uK:p.l.length<=f+i)(TD:3<form):Calls Tryz.prog 134 #[.pointer (some ⟨p.pb,0,none⟩),.int .i64 (form:Int)] w
  (Ran p.S w (cH p.l (bM p.l f) form i) (PreV p w i)):=by
 have HE:=zh hE;have HW:=zh h;have HP:=zh hP;have HR:Hid (cH p.l (bM p.l f) form i=(aQ p.l (bM p.l f) i).bnd fun e j=>.ok ((e,8),j)):=zh (by unfold cH;rw[if_neg YM,if_neg YM,if_neg YM,if_neg YM]);have uM:=zh (h.later (aA w (.cells bW 35)));have hlen:=h.len;have rO:w.heap.size≠p.pb:=ZC;have wQ:=h.blt;have xD:(w.alloc (.cells bW 35)).heap.size=w.heap.size+1:=YR;clear h hE hP;have hfe:((form:Int)==0)=false:=YV;have RD:¬(form:Int)<=3:=YM;have hfd:decide ((form:Int)<=3)=false:=decide_eq_false RD;have hfn:¬(form:Int)=0:=YM;go_enter Tryz.func134,Tryz.ntmps134;go_wp2_with(first|(go_at_call 191;have HB:=zh (show w.heap.size<(w.alloc (.cells bW 35)).heap.size from(Array.getElem?_eq_some_iff.1 (bY w _)).1);refine(HP.out i (w.alloc (.cells bW 35)) uM.out YM).mono ?_;rintro e w1 (⟨y,hx,rfl,rX⟩|⟨xa,j,hx,⟨⟨opa,na,sa,ma,pa,qa,ra,ta,ua,va,rfl,zJ⟩,sG,GA⟩,rX⟩)<;>have JI:=zh (rX.heap rO (bY w _))<;>obtain⟨⟨r0,r1,r2,r3,r4,r5⟩,g0,g1,g2,g3,g4,g5⟩:=bx6 JI.out))
 ·exact⟨rfl,Ran.bad' (HR.out.trans (PR.bnd_bad hx)) ((Ba (aA _ _)).trans rX)⟩
 have hE:=iO HW.out ((Ba (aA _ _)).trans rX) sG zJ (fun b hb=>by have hb:(w.alloc (.cells bW 35)).heap.size<=b:=hb;have:=HB.out;omega);exact V8
theorem prefix_any(p:Prs)(f:Nat)(hE:iL p f)(hP:PrimOk p f)(w:World)(form i:Nat)(h:p.At w i)(hf:form<=9)(uK:p.l.length<=f+i):Calls Tryz.prog 134 #[.pointer (some ⟨p.pb,0,none⟩),.int .i64 (form:Int)] w
  (Ran p.S w (cH p.l (bM p.l f) form i) (PreV p w i)):=by
 cases qn:isP p.l i nR with
 |true=>
  by_cases h0:form=0
  ·subst h0
   cases qi:isP p.l i kIf with
   |true=>exact prefix_if p f hE w i h uK qi
   |false=>
    cases ql:isP p.l i mT with
    |true=>exact prefix_let p f hE w i h uK qi ql
    |false=>
     cases qs:isP p.l i oE with
     |true=>exact prefix_set p f hE w i h uK qi ql qs
     |false=>exact prefix_not0 p f hE w i h uK qi ql qs qn
  by_cases h3:form<=3
  ·exact prefix_not p f hE w i form hf h uK YM h3 qn
  exact prefix_prim4 p f hE w i form hf hP h uK YM
 |false=>
  by_cases h0:form=0
  ·subst h0
   cases qi:isP p.l i kIf with
   |true=>exact prefix_if p f hE w i h uK qi
   |false=>
    cases ql:isP p.l i mT with
    |true=>exact prefix_let p f hE w i h uK qi ql
    |false=>
     cases qs:isP p.l i oE with
     |true=>exact prefix_set p f hE w i h uK qi ql qs
     |false=>exact prefix_prim0 p f hE w i hP h uK qi ql qs qn
  by_cases h3:form<=3
  ·exact prefix_prim p f hE w i form hf hP h uK YM h3 qn
  exact prefix_prim4 p f hE w i form hf hP h uK YM
end Go.Proofs.YtiionicikdnnpaaGreatDoor
