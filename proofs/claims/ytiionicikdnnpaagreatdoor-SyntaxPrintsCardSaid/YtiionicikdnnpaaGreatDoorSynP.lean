/- Texts of this seat, joined. -/
import Derived.Test.YtiionicikdnnpaaGreatDoorPV
set_option maxHeartbeats 2000000
set_option maxRecDepth 100000
set_option linter.unusedVariables false
set_option linter.unusedSimpArgs false
set_option linter.constructorNameAsVariable false
namespace Go.Proofs.YtiionicikdnnpaaGreatDoor
open Go.RowKit
theorem S0{p:Prop}(h:p:=by
 unfold fP at hE;refine bodyPost_ret (v:=.tuple #[bW opa na sa ma pa qa ra ta ua va,.int .i64 8]) X1 rfl ?_
 exact Ran.good (HR.out.trans (PR.bnd_ok hx)) ⟨⟨opa,na,sa,ma,pa,qa,ra,ta,ua,va,rfl,hE.1⟩,hE.2.1,DP⟩ hE.2.2):p:=h
theorem prefix_let(p:Prs)(f:Nat)(hE:gF p f)(w:World)(i:Nat)(h:p.At w i)(tD:p.l.length<=f+i)(qi:isP p.l i kIf=false)(ql:isP p.l i mE=true):Calls Tryz.prog 134 #[.pointer (some ⟨p.pb,0,none⟩),.int .i64 0] w
  (Ran p.S w (cK p.l (bS p.l f) 0 i) (PreV p w i)):=by
 have HE:=zh hE;have HW:=zh h;have HR:Hid (cK p.l (bS p.l f) 0 i=(fR p.l (i+1)).bnd fun s j=>(dN p.l j kEq).bnd fun _ j2=>(bS p.l f 0 j2).bnd fun a j3=>(dN p.l j3 kIn).bnd fun _ j4=>(bS p.l f 0 j4).bnd fun b j5=>.ok ((.mk 12 0 s noB [] [a,b],0),j5)):=zh (by unfold cK;rw[if_neg (by rw[qi];simp),if_pos ⟨rfl,ql⟩]);have qB:=zh (h.later (aC w (.cells bG 35)));have rD:=h.len;have pP:w.heap.size≠p.pb:=WG;have uS:=h.blt;have rX:(w.alloc (.cells bG 35)).heap.size=w.heap.size+1:=VY;clear h hE;go_enter Tryz.func134,Tryz.ntmps134;go_wp2_with(first|(go_at_call 110;refine(dD p (w5.alloc (aH opa na sa ma pa qa ra ta ua va)) j5 kIn (tG.later (aC _ _))).mono ?_;rintro e w6 (⟨y6,tP,rfl,qY⟩|⟨⟨⟩,j6,tP,⟨rfl,tW⟩,qY⟩))|(go_at_call 48;refine(HE.out 0 j4 w4 sQ VS (by have:=fQ qJ;have:=(cT rC).1;omega)).mono ?_;rintro e w5 (⟨y5,rP,rfl,qS⟩|⟨xa,j5,rP,⟨⟨opa,na,sa,ma,pa,qa,ra,ta,ua,va,rfl,xL⟩,tG,FK⟩,qS⟩))|(go_at_call 110;refine(dD p w3 j3 kEq sV).mono ?_;rintro e w4 (⟨y4,rC,rfl,qH⟩|⟨⟨⟩,j4,rC,⟨rfl,sQ⟩,qH⟩))|(go_at_call 111;refine(fH p w2 (i+1) rE).mono ?_;rintro e w3 (⟨y3,qJ,rfl,qP⟩|⟨ns,j3,qJ,⟨rfl,sV,tT⟩,qP⟩))|(go_at_call 120;refine(fK p w1 i mE qV ql).mono ?_;rintro e w2 ⟨rfl,rE,pY⟩)|(go_at_call 120;refine(bH p (w.alloc (.cells bG 35)) i kIf qB.out qi).mono ?_;rintro e w1 ⟨rfl,qV,qI⟩))
 ·exact⟨rfl,Ran.bad' (HR.out.trans (PR.bnd_bad qJ)) ((Ba (aC _ _)).trans (qI.trans (pY.trans qP)))⟩
 ·exact⟨rfl,Ran.bad' (HR.out.trans ((PR.bnd_ok qJ).trans (PR.bnd_bad rC))) ((Ba (aC _ _)).trans (qI.trans (pY.trans (qP.trans qH))))⟩
 ·exact⟨rfl,Ran.bad' (HR.out.trans ((PR.bnd_ok qJ).trans ((PR.bnd_ok rC).trans (PR.bnd_bad rP)))) ((Ba (aC _ _)).trans (qI.trans (pY.trans (qP.trans (qH.trans qS)))))⟩
 ·exact⟨rfl,Ran.bad' (HR.out.trans ((PR.bnd_ok qJ).trans ((PR.bnd_ok rC).trans ((PR.bnd_ok rP).trans (PR.bnd_bad tP))))) ((Ba (aC _ _)).trans (qI.trans (pY.trans (qP.trans (qH.trans (qS.trans ((Ba (aC _ _)).trans qY)))))))⟩
 have rZ:=qI.size;have rY:=pY.size;have zV:=qP.size;have EP:=qH.size;have yS:=qS.size;have GT:=qY.size;have hs5:(w5.alloc (aH opa na sa ma pa qa ra ta ua va)).heap.size=w5.heap.size+1:=VY;have OW:Off p.S w w6:=((Ba (aC _ _)).trans (qI.trans (pY.trans (qP.trans (qH.trans (qS.trans ((Ba (aC _ _)).trans qY)))))));have O5:Off p.S w5 w6:=(Ba (aC _ _)).trans qY;have n5:w5.heap.size≠p.pb:=VS;have FP:w6.heap[w.heap.size]? =some (.cells bG 35):=qY.heap pP (aD (aC _ _) (qS.heap pP (qH.heap pP (qP.heap pP (pY.heap pP (qI.heap pP (bY w _)))))));have hBA:w6.heap[w5.heap.size]? =some (aH opa na sa ma pa qa ra ta ua va):=qY.heap n5 (bY w5 _);have OB:=zh (aG.off xL O5 (fun b hb hn=>by have hb:b=p.pb:=hb;have hn:w4.heap.size<=b:=hn;omega));have qO:=zh (HR.out.trans ((PR.bnd_ok qJ).trans ((PR.bnd_ok rC).trans ((PR.bnd_ok rP).trans (PR.bnd_ok tP)))));have OJ:=zh OW;have GI:=zh FP;have DO:=fQ qJ;have hj4:=(cT rC).1;have hj6:=(cT tP).1;clear xL O5 OW FP qJ rC rP tP qI pY qP qH qS qY HR qV rE sV sQ tG;refine wp_region_held_drew (S:=(fun W=>W.heap[w5.heap.size]? =some (aH opa na sa ma pa qa ra ta ua va))) VT hBA fun hS=>?_;refine zq 0 (.string ns) rfl ?_;refine zt 1 (bW opa na sa ma pa qa ra ta ua va) rfl (fun W hW=>by obtain⟨⟨c0,c1,c2,c3,c4,c5⟩,-⟩:=bx6 hW;go_simp) ?_;refine zq 2 (.pointer (some ⟨p.pb,0,none⟩)) rfl ?_;try simp only[zn]
 refine zr 3 rfl (fun K hK=>?_);go_simp;refine(HE.out 0 j6 w6.drew (tW.later (aE _)) VS VS).mono ?_;rintro e w7 (⟨y7,sA,rfl,qU⟩|⟨xc,j7,sA,⟨⟨opc,nc,sc,mc,pc,qc,rc,tc,uc,vc,rfl,DR⟩,sU,PJ⟩,qU⟩)
 ·go_wp2_with fail;exact⟨rfl,Ran.bad' (qO.out.trans (PR.bnd_bad sA)) (OJ.out.trans ((Ba (aE w6)).trans qU))⟩
 have JS:=qU.heap n5 (aD (aE w6) hBA);refine hK.out _ _ JS (fun hS=>?_);clear hK K;try simp only[zn]
 have L4:=aD (aC w7 (fT opa na sa ma pa qa ra ta ua va opc nc sc mc pc qc rc tc uc vc)) (qU.heap pP (aD (aE w6) GI.out));have hB7:=bY w7 (fT opa na sa ma pa qa ra ta ua va opc nc sc mc pc qc rc tc uc vc);have hA7:p.At (w7.alloc (fT opa na sa ma pa qa ra ta ua va opc nc sc mc pc qc rc tc uc vc)) j7:=sU.later (aC _ _);have O7:Off p.S w6 (w7.alloc (fT opa na sa ma pa qa ra ta ua va opc nc sc mc pc qc rc tc uc vc)):=(Ba (aE w6)).trans (qU.trans (Ba (aC _ _)));have JR:=aD (aC w7 (fT opa na sa ma pa qa ra ta ua va opc nc sc mc pc qc rc tc uc vc)) JS;have GS:=qU.size;have hszd:w6.drew.heap.size=w6.heap.size:=rfl;have hXA:=aG.off OB.out O7 (fun b hb hn=>by have hb:b=p.pb:=hb;have hn:w4.heap.size<=b:=hn;omega);have hXC:=aG _ _ _ _ _ _ (aK.later (aC w7 (fT opa na sa ma pa qa ra ta ua va opc nc sc mc pc qc rc tc uc vc))) DR
 have tY:Hid (aO 6 aU (bP w4.heap.size) (w7.alloc (fT opa na sa ma pa qa ra ta ua va opc nc sc mc pc qc rc tc uc vc)) (.slice (some ⟨w7.heap.size,0,none⟩) 2 2) [xa,xc]):=zh (aO.of_block (css:=[[.int .i64 opa,.int .i64 na,.string sa,.string ma,.slice pa qa ra,.slice ta ua va],[.int .i64 opc,.int .i64 nc,.string sc,.string mc,.slice pc qc rc,.slice tc uc vc]]) hB7 (by show w4.heap.size<=w7.heap.size;omega) rfl VY (fun i y c hy hc=>by
  match i,hy,hc with
  |0,hy,hc=>cases hy;cases hc;exact hXA
  |1,hy,hc=>cases hy;cases hc;exact aG.wide hXC (fun b hb _=>by have hb:w6.drew.heap.size<=b:=hb;show w4.heap.size<=b;omega)) rfl VU)
 have HA7:=zh hA7;have HO7:=zh (OJ.out.trans O7);obtain⟨⟨r0,r1,r2,r3,r4,r5⟩,g0,g1,g2,g3,g4,g5⟩:=bx6 L4;clear hXA hXC DR OB hB7 hA7 O7 L4;refine zr 4 rfl (fun K hK=>?_);go_simp;refine hK.out _ _ JR (fun hS=>?_);clear hK K;refine zq 5 (bW 12 0 ns ⟨#[]⟩ none 0 0 (some ⟨w7.heap.size,0,none⟩) 2 2) rfl ?_;try simp only[zn]
 refine zr 6 rfl (fun K hK=>?_);go_simp;have hE:=gJ (x:=.mk 12 0 ns noB [] [xa,xc]) (op:=12) (n:=0) (s:=ns) (m:=⟨#[]⟩) (a1:=none) (n1:=0) (c1:=0) (a2:=some ⟨w7.heap.size,0,none⟩) (n2:=2) (c2:=2) HW.out HO7.out HA7.out (by rw[aN];exact⟨_,_,rfl,tT,VU,aO.nil _ _ _ _,tY.out⟩) (fun b hb=>XF);have GX:=jQ (w7.alloc (fT opa na sa ma pa qa ra ta ua va opc nc sc mc pc qc rc tc uc vc)) w.heap.size (.int .i64 12) (.int .i64 0) (.string ns) (.string ⟨#[]⟩) (.slice none 0 0) (.slice (some ⟨w7.heap.size,0,none⟩) 2 2);have hBA9:=GX.heap VS JR;unfold fP at hE hBA9;have AT:=zh hE;clear hE GX tY HA7 HO7;refine hK.out _ _ hBA9 (fun hS=>?_);clear hK K;refine zq 7 (.int .i64 0) rfl ?_;try simp only[zn]
 refine wpAnyH_done VT ?_ _;go_wp2_with fail;refine bodyPost_ret (v:=.tuple #[bW 12 0 ns ⟨#[]⟩ none 0 0 (some ⟨w7.heap.size,0,none⟩) 2 2,.int .i64 0]) X1 rfl ?_;exact Ran.good (qO.out.trans (PR.bnd_ok sA)) ⟨⟨12,0,ns,⟨#[]⟩,none,0,0,some ⟨w7.heap.size,0,none⟩,2,2,rfl,AT.out.1⟩,AT.out.2.1,VS⟩ AT.out.2.2
def PrimOk(p:Prs)(f:Nat):Prop:=∀(i:Nat)(w:World),p.At w i->p.l.length<=f+i->Calls Tryz.prog 191 #[.pointer (some ⟨p.pb,0,none⟩)] w
 (Ran p.S w (aX p.l (bS p.l f) i) fun x j e w'=>oF w.heap.size x e w'/\p.At w' j/\i<=j)
theorem prefix_prim0(p:Prs)(f:Nat)(hE:gF p f)(w:World)(i:Nat)(hP:PrimOk p f)(h:p.At w i)(tD:p.l.length<=f+i)(qi:isP p.l i kIf=false)(ql:isP p.l i mE=false)(qs:isP p.l i nN=false)(qn:isP p.l i nH=false):Calls Tryz.prog 134 #[.pointer (some ⟨p.pb,0,none⟩),.int .i64 0] w
  (Ran p.S w (cK p.l (bS p.l f) 0 i) (PreV p w i)):=by
 have HE:=zh hE;have HW:=zh h;have HP:=zh hP;have HR:Hid (cK p.l (bS p.l f) 0 i=(aX p.l (bS p.l f) i).bnd fun e j=>.ok ((e,8),j)):=zh (by unfold cK;rw[if_neg (by rw[qi];simp),if_neg (by rw[ql];simp),if_neg (by rw[qs];simp),if_neg (by rw[qn];simp)]);have qB:=zh (h.later (aC w (.cells bG 35)));have rD:=h.len;have pP:w.heap.size≠p.pb:=WG;have uS:=h.blt;have rX:(w.alloc (.cells bG 35)).heap.size=w.heap.size+1:=VY;clear h hE hP;go_enter Tryz.func134,Tryz.ntmps134;go_wp2_with(first|(go_at_call 191;have HB:=zh (show w.heap.size<w4.heap.size from(Array.getElem?_eq_some_iff.1 (qH.heap pP (qP.heap pP (pY.heap pP (qI.heap pP (bY w _)))))).1);refine(HP.out i w4 sQ VS).mono ?_;rintro e w5 (⟨y,hx,rfl,qS⟩|⟨xa,j,hx,⟨⟨opa,na,sa,ma,pa,qa,ra,ta,ua,va,rfl,xL⟩,tG,DP⟩,qS⟩)<;>have FP:=zh (qS.heap pP (qH.heap pP (qP.heap pP (pY.heap pP (qI.heap pP (bY w _))))))<;>obtain⟨⟨r0,r1,r2,r3,r4,r5⟩,g0,g1,g2,g3,g4,g5⟩:=bx6 FP.out)|(go_at_call 120;refine(bH p w3 i nH sV qn).mono ?_;rintro e w4 ⟨rfl,sQ,qH⟩)|(go_at_call 120;refine(bH p w2 i nN rE qs).mono ?_;rintro e w3 ⟨rfl,sV,qP⟩)|(go_at_call 120;refine(bH p w1 i mE qV ql).mono ?_;rintro e w2 ⟨rfl,rE,pY⟩)|(go_at_call 120;refine(bH p (w.alloc (.cells bG 35)) i kIf qB.out qi).mono ?_;rintro e w1 ⟨rfl,qV,qI⟩))
 ·exact⟨rfl,Ran.bad' (HR.out.trans (PR.bnd_bad hx)) ((Ba (aC _ _)).trans (qI.trans (pY.trans (qP.trans (qH.trans qS)))))⟩
 have hE:=gJ HW.out ((Ba (aC _ _)).trans (qI.trans (pY.trans (qP.trans (qH.trans qS))))) tG xL (fun b hb=>by have hb:w4.heap.size<=b:=hb;have:=HB.out;omega);exact S0
theorem prefix_prim(p:Prs)(f:Nat)(hE:gF p f)(w:World)(i:Nat)(form:Nat)(hf:form<=9)(hP:PrimOk p f)(h:p.At w i)(tD:p.l.length<=f+i)(vH:0<form)(hf3:form<=3)(qn:isP p.l i nH=false):Calls Tryz.prog 134 #[.pointer (some ⟨p.pb,0,none⟩),.int .i64 (form:Int)] w
  (Ran p.S w (cK p.l (bS p.l f) form i) (PreV p w i)):=by
 have HE:=zh hE;have HW:=zh h;have HP:=zh hP;have HR:Hid (cK p.l (bS p.l f) form i=(aX p.l (bS p.l f) i).bnd fun e j=>.ok ((e,8),j)):=zh (by unfold cK;rw[if_neg VS,if_neg VS,if_neg VS,if_neg (by rw[qn];simp)]);have qB:=zh (h.later (aC w (.cells bG 35)));have rD:=h.len;have pP:w.heap.size≠p.pb:=WG;have uS:=h.blt;have rX:(w.alloc (.cells bG 35)).heap.size=w.heap.size+1:=VY;clear h hE hP;have hfe:((form:Int)==0)=false:=V7;have hfl:(form:Int)<=3:=VS;have hfn:¬(form:Int)=0:=VS;go_enter Tryz.func134,Tryz.ntmps134;go_wp2_with(first|(go_at_call 191;have HB:=zh (show w.heap.size<w1.heap.size from(Array.getElem?_eq_some_iff.1 (qI.heap pP (bY w _))).1);refine(HP.out i w1 qV VS).mono ?_;rintro e w2 (⟨y,hx,rfl,pY⟩|⟨xa,j,hx,⟨⟨opa,na,sa,ma,pa,qa,ra,ta,ua,va,rfl,xL⟩,rE,DP⟩,pY⟩)<;>have FP:=zh (pY.heap pP (qI.heap pP (bY w _)))<;>obtain⟨⟨r0,r1,r2,r3,r4,r5⟩,g0,g1,g2,g3,g4,g5⟩:=bx6 FP.out)|(go_at_call 120;refine(bH p (w.alloc (.cells bG 35)) i nH qB.out qn).mono ?_;rintro e w1 ⟨rfl,qV,qI⟩))
 ·exact⟨rfl,Ran.bad' (HR.out.trans (PR.bnd_bad hx)) ((Ba (aC _ _)).trans (qI.trans pY))⟩
 have hE:=gJ HW.out ((Ba (aC _ _)).trans (qI.trans pY)) rE xL (fun b hb=>by have hb:w1.heap.size<=b:=hb;have:=HB.out;omega);exact S0
theorem prefix_prim4(p:Prs)(f:Nat)(hE:gF p f)(w:World)(i:Nat)(form:Nat)(hf:form<=9)(hP:PrimOk p f)(h:p.At w i)(tD:p.l.length<=f+i)(hf3:3<form):Calls Tryz.prog 134 #[.pointer (some ⟨p.pb,0,none⟩),.int .i64 (form:Int)] w
  (Ran p.S w (cK p.l (bS p.l f) form i) (PreV p w i)):=by
 have HE:=zh hE;have HW:=zh h;have HP:=zh hP;have HR:Hid (cK p.l (bS p.l f) form i=(aX p.l (bS p.l f) i).bnd fun e j=>.ok ((e,8),j)):=zh (by unfold cK;rw[if_neg VS,if_neg VS,if_neg VS,if_neg VS]);have qB:=zh (h.later (aC w (.cells bG 35)));have rD:=h.len;have pP:w.heap.size≠p.pb:=WG;have uS:=h.blt;have rX:(w.alloc (.cells bG 35)).heap.size=w.heap.size+1:=VY;clear h hE hP;have hfe:((form:Int)==0)=false:=V7;have hfl:¬(form:Int)<=3:=VS;have hfd:decide ((form:Int)<=3)=false:=decide_eq_false hfl;have hfn:¬(form:Int)=0:=VS;go_enter Tryz.func134,Tryz.ntmps134;go_wp2_with(first|(go_at_call 191;have HB:=zh (show w.heap.size<(w.alloc (.cells bG 35)).heap.size from(Array.getElem?_eq_some_iff.1 (bY w _)).1);refine(HP.out i (w.alloc (.cells bG 35)) qB.out VS).mono ?_;rintro e w1 (⟨y,hx,rfl,qI⟩|⟨xa,j,hx,⟨⟨opa,na,sa,ma,pa,qa,ra,ta,ua,va,rfl,xL⟩,qV,DP⟩,qI⟩)<;>have FP:=zh (qI.heap pP (bY w _))<;>obtain⟨⟨r0,r1,r2,r3,r4,r5⟩,g0,g1,g2,g3,g4,g5⟩:=bx6 FP.out))
 ·exact⟨rfl,Ran.bad' (HR.out.trans (PR.bnd_bad hx)) ((Ba (aC _ _)).trans qI)⟩
 have hE:=gJ HW.out ((Ba (aC _ _)).trans qI) qV xL (fun b hb=>by have hb:(w.alloc (.cells bG 35)).heap.size<=b:=hb;have:=HB.out;omega);exact S0
theorem prefix_any(p:Prs)(f:Nat)(hE:gF p f)(hP:PrimOk p f)(w:World)(form i:Nat)(h:p.At w i)(hf:form<=9)(tD:p.l.length<=f+i):Calls Tryz.prog 134 #[.pointer (some ⟨p.pb,0,none⟩),.int .i64 (form:Int)] w
  (Ran p.S w (cK p.l (bS p.l f) form i) (PreV p w i)):=by
 cases qn:isP p.l i nH with
 |true=>
  by_cases h0:form=0
  ·subst h0
   cases qi:isP p.l i kIf with
   |true=>exact prefix_if p f hE w i h tD qi
   |false=>
    cases ql:isP p.l i mE with
    |true=>exact prefix_let p f hE w i h tD qi ql
    |false=>
     cases qs:isP p.l i nN with
     |true=>exact prefix_set p f hE w i h tD qi ql qs
     |false=>exact prefix_not0 p f hE w i h tD qi ql qs qn
  by_cases h3:form<=3
  ·exact prefix_not p f hE w i form hf h tD VS h3 qn
  exact prefix_prim4 p f hE w i form hf hP h tD VS
 |false=>
  by_cases h0:form=0
  ·subst h0
   cases qi:isP p.l i kIf with
   |true=>exact prefix_if p f hE w i h tD qi
   |false=>
    cases ql:isP p.l i mE with
    |true=>exact prefix_let p f hE w i h tD qi ql
    |false=>
     cases qs:isP p.l i nN with
     |true=>exact prefix_set p f hE w i h tD qi ql qs
     |false=>exact prefix_prim0 p f hE w i hP h tD qi ql qs qn
  by_cases h3:form<=3
  ·exact prefix_prim p f hE w i form hf hP h tD VS h3 qn
  exact prefix_prim4 p f hE w i form hf hP h tD VS
end Go.Proofs.YtiionicikdnnpaaGreatDoor
