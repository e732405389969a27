/- Texts of this seat, joined. -/
import Derived.Test.YtiionicikdnnpaaGreatDoorNU
set_option maxHeartbeats 2000000
set_option maxRecDepth 100000
set_option linter.unusedVariables false
set_option linter.unusedSimpArgs false
namespace Go.Proofs.YtiionicikdnnpaaGreatDoor
open Go.RowKit
theorem PZ{p:Prop}(h:p:=by
 unfold gC at hE;refine bodyPost_ret (v:=.tuple #[dW opa na sa ma pa qa ra ta ua va,.int .i64 8]) TZ rfl ?_
 exact Ran.good (HR.out.trans (PR.bnd_ok hx)) ⟨⟨opa,na,sa,ma,pa,qa,ra,ta,ua,va,rfl,hE.1⟩,hE.2.1,AU⟩ hE.2.2):p:=h
theorem prefix_let(p:Prs)(f:Nat)(hE:gV p f)(w:World)(i:Nat)(h:p.At w i)(sH:p.l.length<=f+i)(qi:isP p.l i kIf=false)(ql:isP p.l i lJ=true):Calls Tryz.prog 134 #[.pointer (some ⟨p.pb,0,none⟩),.int .i64 0] w
  (Ran p.S w (bS p.l (bL p.l f) 0 i) (PreV p w i)):=by
 have HE:=zh hE;have HW:=zh h;have HR:Hid (bS p.l (bL p.l f) 0 i=(fC p.l (i+1)).bnd fun s j=>(dD p.l j kEq).bnd fun _ j2=>(bL p.l f 0 j2).bnd fun a j3=>(dD p.l j3 kIn).bnd fun _ j4=>(bL p.l f 0 j4).bnd fun b j5=>.ok ((.mk 12 0 s noB [] [a,b],0),j5)):=zh (by unfold bS;rw[if_neg (by rw[qi];simp),if_pos ⟨rfl,ql⟩]);have rI:=zh (h.later (aB w (.cells bC 35)));have qG:=h.len;have pQ:w.heap.size≠p.pb:=SF;have tY:=h.blt;have vS:(w.alloc (.cells bC 35)).heap.size=w.heap.size+1:=R2;clear h hE;go_enter Tryz.func134,Tryz.ntmps134;go_wp2_with(first|(go_at_call 110;refine(dK p (w5.alloc (aN opa na sa ma pa qa ra ta ua va)) j5 kIn (sN.later (aB _ _))).mono ?_;rintro e w6 (⟨y6,tD,rfl,qR⟩|⟨⟨⟩,j6,tD,⟨rfl,tG⟩,qR⟩))|(go_at_call 48;refine(HE.out 0 j4 w4 rR RY (by have:=gD qF;have:=(cX qX).1;omega)).mono ?_;rintro e w5 (⟨y5,rF,rfl,qM⟩|⟨xa,j5,rF,⟨⟨opa,na,sa,ma,pa,qa,ra,ta,ua,va,rfl,wQ⟩,sN,EC⟩,qM⟩))|(go_at_call 110;refine(dK p w3 j3 kEq rY).mono ?_;rintro e w4 (⟨y4,qX,rfl,qD⟩|⟨⟨⟩,j4,qX,⟨rfl,rR⟩,qD⟩))|(go_at_call 111;refine(fV p w2 (i+1) qY).mono ?_;rintro e w3 (⟨y3,qF,rfl,qK⟩|⟨ns,j3,qF,⟨rfl,rY,sV⟩,qK⟩))|(go_at_call 120;refine(fY p w1 i lJ qP ql).mono ?_;rintro e w2 ⟨rfl,qY,pU⟩)|(go_at_call 120;refine(bI p (w.alloc (.cells bC 35)) i kIf rI.out qi).mono ?_;rintro e w1 ⟨rfl,qP,qE⟩))
 ·exact⟨rfl,Ran.bad' (HR.out.trans (PR.bnd_bad qF)) ((Ba (aB _ _)).trans (qE.trans (pU.trans qK)))⟩
 ·exact⟨rfl,Ran.bad' (HR.out.trans ((PR.bnd_ok qF).trans (PR.bnd_bad qX))) ((Ba (aB _ _)).trans (qE.trans (pU.trans (qK.trans qD))))⟩
 ·exact⟨rfl,Ran.bad' (HR.out.trans ((PR.bnd_ok qF).trans ((PR.bnd_ok qX).trans (PR.bnd_bad rF)))) ((Ba (aB _ _)).trans (qE.trans (pU.trans (qK.trans (qD.trans qM)))))⟩
 ·exact⟨rfl,Ran.bad' (HR.out.trans ((PR.bnd_ok qF).trans ((PR.bnd_ok qX).trans ((PR.bnd_ok rF).trans (PR.bnd_bad tD))))) ((Ba (aB _ _)).trans (qE.trans (pU.trans (qK.trans (qD.trans (qM.trans ((Ba (aB _ _)).trans qR)))))))⟩
 have sG:=qE.size;have rU:=pU.size;have CD:=qK.size;have DP:=qD.size;have yC:=qM.size;have EU:=qR.size;have hs5:(w5.alloc (aN opa na sa ma pa qa ra ta ua va)).heap.size=w5.heap.size+1:=R2;have OW:Off p.S w w6:=((Ba (aB _ _)).trans (qE.trans (pU.trans (qK.trans (qD.trans (qM.trans ((Ba (aB _ _)).trans qR)))))));have O5:Off p.S w5 w6:=(Ba (aB _ _)).trans qR;have n5:w5.heap.size≠p.pb:=RY;have EI:w6.heap[w.heap.size]? =some (.cells bC 35):=qR.heap pQ (aC (aB _ _) (qM.heap pQ (qD.heap pQ (qK.heap pQ (pU.heap pQ (qE.heap pQ (bY w _)))))));have hBA:w6.heap[w5.heap.size]? =some (aN opa na sa ma pa qa ra ta ua va):=qR.heap n5 (bY w5 _);have LV:=zh (aH.off wQ O5 (fun b hb hn=>by have hb:b=p.pb:=hb;have hn:w4.heap.size<=b:=hn;omega));have qI:=zh (HR.out.trans ((PR.bnd_ok qF).trans ((PR.bnd_ok qX).trans ((PR.bnd_ok rF).trans (PR.bnd_ok tD)))));have L2:=zh OW;have I8:=zh EI;have MW:=gD qF;have hj4:=(cX qX).1;have hj6:=(cX tD).1;clear wQ O5 OW EI qF qX rF tD qE pU qK qD qM qR HR qP qY rY rR sN;refine wp_region_held_drew (S:=(fun W=>W.heap[w5.heap.size]? =some (aN opa na sa ma pa qa ra ta ua va))) RZ hBA fun hS=>?_;refine zq 0 (.string ns) rfl ?_;refine zt 1 (dW opa na sa ma pa qa ra ta ua va) rfl (fun W hW=>by obtain⟨⟨c0,c1,c2,c3,c4,c5⟩,-⟩:=bx6 hW;go_simp) ?_;refine zq 2 (.pointer (some ⟨p.pb,0,none⟩)) rfl ?_;try simp only[zn]
 refine zr 3 rfl (fun K hK=>?_);go_simp;refine(HE.out 0 j6 w6.drew (tG.later (aF _)) RY RY).mono ?_;rintro e w7 (⟨y7,rJ,rfl,qO⟩|⟨xc,j7,rJ,⟨⟨opc,nc,sc,mc,pc,qc,rc,tc,uc,vc,rfl,EE⟩,rX,MX⟩,qO⟩)
 ·go_wp2_with fail;exact⟨rfl,Ran.bad' (qI.out.trans (PR.bnd_bad rJ)) (L2.out.trans ((Ba (aF w6)).trans qO))⟩
 have GY:=qO.heap n5 (aC (aF w6) hBA);refine hK.out _ _ GY (fun hS=>?_);clear hK K;try simp only[zn]
 have J1:=aC (aB w7 (gI opa na sa ma pa qa ra ta ua va opc nc sc mc pc qc rc tc uc vc)) (qO.heap pQ (aC (aF w6) I8.out));have hB7:=bY w7 (gI opa na sa ma pa qa ra ta ua va opc nc sc mc pc qc rc tc uc vc);have hA7:p.At (w7.alloc (gI opa na sa ma pa qa ra ta ua va opc nc sc mc pc qc rc tc uc vc)) j7:=rX.later (aB _ _);have O7:Off p.S w6 (w7.alloc (gI opa na sa ma pa qa ra ta ua va opc nc sc mc pc qc rc tc uc vc)):=(Ba (aF w6)).trans (qO.trans (Ba (aB _ _)));have GW:=aC (aB w7 (gI opa na sa ma pa qa ra ta ua va opc nc sc mc pc qc rc tc uc vc)) GY;have ET:=qO.size;have hszd:w6.drew.heap.size=w6.heap.size:=rfl;have hXA:=aH.off LV.out O7 (fun b hb hn=>by have hb:b=p.pb:=hb;have hn:w4.heap.size<=b:=hn;omega);have hXC:=aH _ _ _ _ _ _ (aQ.later (aB w7 (gI opa na sa ma pa qa ra ta ua va opc nc sc mc pc qc rc tc uc vc))) EE
 have tI:Hid (aO 6 bJ (bO w4.heap.size) (w7.alloc (gI opa na sa ma pa qa ra ta ua va opc nc sc mc pc qc rc tc uc vc)) (.slice (some ⟨w7.heap.size,0,none⟩) 2 2) [xa,xc]):=zh (aO.of_block (css:=[[.int .i64 opa,.int .i64 na,.string sa,.string ma,.slice pa qa ra,.slice ta ua va],[.int .i64 opc,.int .i64 nc,.string sc,.string mc,.slice pc qc rc,.slice tc uc vc]]) hB7 (by show w4.heap.size<=w7.heap.size;omega) rfl R2 (fun i y c hy hc=>by
  match i,hy,hc with
  |0,hy,hc=>cases hy;cases hc;exact hXA
  |1,hy,hc=>cases hy;cases hc;exact aH.wide hXC (fun b hb _=>by have hb:w6.drew.heap.size<=b:=hb;show w4.heap.size<=b;omega)) rfl R0)
 have HA7:=zh hA7;have HO7:=zh (L2.out.trans O7);obtain⟨⟨r0,r1,r2,r3,r4,r5⟩,g0,g1,g2,g3,g4,g5⟩:=bx6 J1;clear hXA hXC EE LV hB7 hA7 O7 J1;refine zr 4 rfl (fun K hK=>?_);go_simp;refine hK.out _ _ GW (fun hS=>?_);clear hK K;refine zq 5 (dW 12 0 ns ⟨#[]⟩ none 0 0 (some ⟨w7.heap.size,0,none⟩) 2 2) rfl ?_;try simp only[zn]
 refine zr 6 rfl (fun K hK=>?_);go_simp;have hE:=gX (x:=.mk 12 0 ns noB [] [xa,xc]) (op:=12) (n:=0) (s:=ns) (m:=⟨#[]⟩) (a1:=none) (n1:=0) (c1:=0) (a2:=some ⟨w7.heap.size,0,none⟩) (n2:=2) (c2:=2) HW.out HO7.out HA7.out (by rw[aW];exact⟨_,_,rfl,sV,R0,aO.nil _ _ _ _,tI.out⟩) (fun b hb=>TJ);have EY:=kH (w7.alloc (gI opa na sa ma pa qa ra ta ua va opc nc sc mc pc qc rc tc uc vc)) w.heap.size (.int .i64 12) (.int .i64 0) (.string ns) (.string ⟨#[]⟩) (.slice none 0 0) (.slice (some ⟨w7.heap.size,0,none⟩) 2 2);have hBA9:=EY.heap RY GW;unfold gC at hE hBA9;have EP:=zh hE;clear hE EY tI HA7 HO7;refine hK.out _ _ hBA9 (fun hS=>?_);clear hK K;refine zq 7 (.int .i64 0) rfl ?_;try simp only[zn]
 refine wpAnyH_done RZ ?_ _;go_wp2_with fail;refine bodyPost_ret (v:=.tuple #[dW 12 0 ns ⟨#[]⟩ none 0 0 (some ⟨w7.heap.size,0,none⟩) 2 2,.int .i64 0]) TZ rfl ?_;exact Ran.good (qI.out.trans (PR.bnd_ok rJ)) ⟨⟨12,0,ns,⟨#[]⟩,none,0,0,some ⟨w7.heap.size,0,none⟩,2,2,rfl,EP.out.1⟩,EP.out.2.1,RY⟩ EP.out.2.2
def PrimOk(p:Prs)(f:Nat):Prop:=∀(i:Nat)(w:World),p.At w i->p.l.length<=f+i->Calls Tryz.prog 191 #[.pointer (some ⟨p.pb,0,none⟩)] w
 (Ran p.S w (aP p.l (bL p.l f) i) fun x j e w'=>oC w.heap.size x e w'/\p.At w' j/\i<=j)
theorem prefix_prim0(p:Prs)(f:Nat)(hE:gV p f)(w:World)(i:Nat)(hP:PrimOk p f)(h:p.At w i)(sH:p.l.length<=f+i)(qi:isP p.l i kIf=false)(ql:isP p.l i lJ=false)(qs:isP p.l i mL=false)(qn:isP p.l i mD=false):Calls Tryz.prog 134 #[.pointer (some ⟨p.pb,0,none⟩),.int .i64 0] w
  (Ran p.S w (bS p.l (bL p.l f) 0 i) (PreV p w i)):=by
 have HE:=zh hE;have HW:=zh h;have HP:=zh hP;have HR:Hid (bS p.l (bL p.l f) 0 i=(aP p.l (bL p.l f) i).bnd fun e j=>.ok ((e,8),j)):=zh (by unfold bS;rw[if_neg (by rw[qi];simp),if_neg (by rw[ql];simp),if_neg (by rw[qs];simp),if_neg (by rw[qn];simp)]);have rI:=zh (h.later (aB w (.cells bC 35)));have qG:=h.len;have pQ:w.heap.size≠p.pb:=SF;have tY:=h.blt;have vS:(w.alloc (.cells bC 35)).heap.size=w.heap.size+1:=R2;clear h hE hP;go_enter Tryz.func134,Tryz.ntmps134;go_wp2_with(first|(go_at_call 191;have HB:=zh (show w.heap.size<w4.heap.size from(Array.getElem?_eq_some_iff.1 (qD.heap pQ (qK.heap pQ (pU.heap pQ (qE.heap pQ (bY w _)))))).1);refine(HP.out i w4 rR RY).mono ?_;rintro e w5 (⟨y,hx,rfl,qM⟩|⟨xa,j,hx,⟨⟨opa,na,sa,ma,pa,qa,ra,ta,ua,va,rfl,wQ⟩,sN,AU⟩,qM⟩)<;>have EI:=zh (qM.heap pQ (qD.heap pQ (qK.heap pQ (pU.heap pQ (qE.heap pQ (bY w _))))))<;>obtain⟨⟨r0,r1,r2,r3,r4,r5⟩,g0,g1,g2,g3,g4,g5⟩:=bx6 EI.out)|(go_at_call 120;refine(bI p w3 i mD rY qn).mono ?_;rintro e w4 ⟨rfl,rR,qD⟩)|(go_at_call 120;refine(bI p w2 i mL qY qs).mono ?_;rintro e w3 ⟨rfl,rY,qK⟩)|(go_at_call 120;refine(bI p w1 i lJ qP ql).mono ?_;rintro e w2 ⟨rfl,qY,pU⟩)|(go_at_call 120;refine(bI p (w.alloc (.cells bC 35)) i kIf rI.out qi).mono ?_;rintro e w1 ⟨rfl,qP,qE⟩))
 ·exact⟨rfl,Ran.bad' (HR.out.trans (PR.bnd_bad hx)) ((Ba (aB _ _)).trans (qE.trans (pU.trans (qK.trans (qD.trans qM)))))⟩
 have hE:=gX HW.out ((Ba (aB _ _)).trans (qE.trans (pU.trans (qK.trans (qD.trans qM))))) sN wQ (fun b hb=>by have hb:w4.heap.size<=b:=hb;have:=HB.out;omega);exact PZ
theorem prefix_prim(p:Prs)(f:Nat)(hE:gV p f)(w:World)(i:Nat)(form:Nat)(hf:form<=9)(hP:PrimOk p f)(h:p.At w i)(sH:p.l.length<=f+i)(uU:0<form)(M1:form<=3)(qn:isP p.l i mD=false):Calls Tryz.prog 134 #[.pointer (some ⟨p.pb,0,none⟩),.int .i64 (form:Int)] w
  (Ran p.S w (bS p.l (bL p.l f) form i) (PreV p w i)):=by
 have HE:=zh hE;have HW:=zh h;have HP:=zh hP;have HR:Hid (bS p.l (bL p.l f) form i=(aP p.l (bL p.l f) i).bnd fun e j=>.ok ((e,8),j)):=zh (by unfold bS;rw[if_neg RY,if_neg RY,if_neg RY,if_neg (by rw[qn];simp)]);have rI:=zh (h.later (aB w (.cells bC 35)));have qG:=h.len;have pQ:w.heap.size≠p.pb:=SF;have tY:=h.blt;have vS:(w.alloc (.cells bC 35)).heap.size=w.heap.size+1:=R2;clear h hE hP;have hfe:((form:Int)==0)=false:=SA;have hfl:(form:Int)<=3:=RY;have hfn:¬(form:Int)=0:=RY;go_enter Tryz.func134,Tryz.ntmps134;go_wp2_with(first|(go_at_call 191;have HB:=zh (show w.heap.size<w1.heap.size from(Array.getElem?_eq_some_iff.1 (qE.heap pQ (bY w _))).1);refine(HP.out i w1 qP RY).mono ?_;rintro e w2 (⟨y,hx,rfl,pU⟩|⟨xa,j,hx,⟨⟨opa,na,sa,ma,pa,qa,ra,ta,ua,va,rfl,wQ⟩,qY,AU⟩,pU⟩)<;>have EI:=zh (pU.heap pQ (qE.heap pQ (bY w _)))<;>obtain⟨⟨r0,r1,r2,r3,r4,r5⟩,g0,g1,g2,g3,g4,g5⟩:=bx6 EI.out)|(go_at_call 120;refine(bI p (w.alloc (.cells bC 35)) i mD rI.out qn).mono ?_;rintro e w1 ⟨rfl,qP,qE⟩))
 ·exact⟨rfl,Ran.bad' (HR.out.trans (PR.bnd_bad hx)) ((Ba (aB _ _)).trans (qE.trans pU))⟩
 have hE:=gX HW.out ((Ba (aB _ _)).trans (qE.trans pU)) qY wQ (fun b hb=>by have hb:w1.heap.size<=b:=hb;have:=HB.out;omega);exact PZ
theorem prefix_prim4(p:Prs)(f:Nat)(hE:gV p f)(w:World)(i:Nat)(form:Nat)(hf:form<=9)(hP:PrimOk p f)(h:p.At w i)(sH:p.l.length<=f+i)(M1:3<form):Calls Tryz.prog 134 #[.pointer (some ⟨p.pb,0,none⟩),.int .i64 (form:Int)] w
  (Ran p.S w (bS p.l (bL p.l f) form i) (PreV p w i)):=by
 have HE:=zh hE;have HW:=zh h;have HP:=zh hP;have HR:Hid (bS p.l (bL p.l f) form i=(aP p.l (bL p.l f) i).bnd fun e j=>.ok ((e,8),j)):=zh (by unfold bS;rw[if_neg RY,if_neg RY,if_neg RY,if_neg RY]);have rI:=zh (h.later (aB w (.cells bC 35)));have qG:=h.len;have pQ:w.heap.size≠p.pb:=SF;have tY:=h.blt;have vS:(w.alloc (.cells bC 35)).heap.size=w.heap.size+1:=R2;clear h hE hP;have hfe:((form:Int)==0)=false:=SA;have hfl:¬(form:Int)<=3:=RY;have hfd:decide ((form:Int)<=3)=false:=decide_eq_false hfl;have hfn:¬(form:Int)=0:=RY;go_enter Tryz.func134,Tryz.ntmps134;go_wp2_with(first|(go_at_call 191;have HB:=zh (show w.heap.size<(w.alloc (.cells bC 35)).heap.size from(Array.getElem?_eq_some_iff.1 (bY w _)).1);refine(HP.out i (w.alloc (.cells bC 35)) rI.out RY).mono ?_;rintro e w1 (⟨y,hx,rfl,qE⟩|⟨xa,j,hx,⟨⟨opa,na,sa,ma,pa,qa,ra,ta,ua,va,rfl,wQ⟩,qP,AU⟩,qE⟩)<;>have EI:=zh (qE.heap pQ (bY w _))<;>obtain⟨⟨r0,r1,r2,r3,r4,r5⟩,g0,g1,g2,g3,g4,g5⟩:=bx6 EI.out))
 ·exact⟨rfl,Ran.bad' (HR.out.trans (PR.bnd_bad hx)) ((Ba (aB _ _)).trans qE)⟩
 have hE:=gX HW.out ((Ba (aB _ _)).trans qE) qP wQ (fun b hb=>by have hb:(w.alloc (.cells bC 35)).heap.size<=b:=hb;have:=HB.out;omega);exact PZ
theorem prefix_any(p:Prs)(f:Nat)(hE:gV p f)(hP:PrimOk p f)(w:World)(form i:Nat)(h:p.At w i)(hf:form<=9)(sH:p.l.length<=f+i):Calls Tryz.prog 134 #[.pointer (some ⟨p.pb,0,none⟩),.int .i64 (form:Int)] w
  (Ran p.S w (bS p.l (bL p.l f) form i) (PreV p w i)):=by
 cases qn:isP p.l i mD with
 |true=>
  by_cases h0:form=0
  ·subst h0
   cases qi:isP p.l i kIf with
   |true=>exact prefix_if p f hE w i h sH qi
   |false=>
    cases ql:isP p.l i lJ with
    |true=>exact prefix_let p f hE w i h sH qi ql
    |false=>
     cases qs:isP p.l i mL with
     |true=>exact prefix_set p f hE w i h sH qi ql qs
     |false=>exact prefix_not0 p f hE w i h sH qi ql qs qn
  by_cases h3:form<=3
  ·exact prefix_not p f hE w i form hf h sH RY h3 qn
  exact prefix_prim4 p f hE w i form hf hP h sH RY
 |false=>
  by_cases h0:form=0
  ·subst h0
   cases qi:isP p.l i kIf with
   |true=>exact prefix_if p f hE w i h sH qi
   |false=>
    cases ql:isP p.l i lJ with
    |true=>exact prefix_let p f hE w i h sH qi ql
    |false=>
     cases qs:isP p.l i mL with
     |true=>exact prefix_set p f hE w i h sH qi ql qs
     |false=>exact prefix_prim0 p f hE w i hP h sH qi ql qs qn
  by_cases h3:form<=3
  ·exact prefix_prim p f hE w i form hf hP h sH RY h3 qn
  exact prefix_prim4 p f hE w i form hf hP h sH RY
end Go.Proofs.YtiionicikdnnpaaGreatDoor
