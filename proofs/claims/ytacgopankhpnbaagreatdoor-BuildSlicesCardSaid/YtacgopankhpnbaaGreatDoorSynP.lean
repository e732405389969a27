/- Texts of this seat, joined. -/
import Derived.Test.YtacgopankhpnbaaGreatDoorSAA
set_option maxHeartbeats 2000000
set_option maxRecDepth 100000
set_option linter.unusedVariables false
set_option linter.unusedSimpArgs false
namespace Go.Proofs.YtacgopankhpnbaaGreatDoor
open Go.RowKit
theorem S6{p:Prop}(h:p:=by
 unfold gB at hE;refine bodyPost_ret (v:=.tuple #[.agg #[.int .i64 opa,.int .i64 na,.string sa,.string ma,.slice pa qa ra,.slice ta ua va],.int .i64 8]) XA rfl ?_
 exact Ran.good (HR.out.trans (PR.bnd_ok hx)) ⟨⟨opa,na,sa,ma,pa,qa,ra,ta,ua,va,rfl,hE.1⟩,hE.2.1,yN⟩ hE.2.2):p:=h
theorem prefix_let(p:Prs)(f:Nat)(hE:fX p f)(w:World)(i:Nat)(h:p.At w i)(sE:p.l.length<=f+i)(qi:isP p.l i kIf=false)(ql:isP p.l i kLet=true):Calls Tryz.prog 218 #[.pointer (some ⟨p.pb,0,none⟩),.int .i64 0] w
  (Ran p.S w (cL p.l (bQ p.l f) 0 i) (PreV p w i)):=by
 have HE:=zh hE;have HW:=zh h;have HR:Hid (cL p.l (bQ p.l f) 0 i=(fP p.l (i+1)).bnd fun s j=>(dB p.l j kEq).bnd fun _ j2=>(bQ p.l f 0 j2).bnd fun a j3=>(dB p.l j3 kIn).bnd fun _ j4=>(bQ p.l f 0 j4).bnd fun b j5=>.ok ((.mk 12 0 s noB [] [a,b],0),j5)):=zh (by unfold cL;rw[if_neg (by rw[qi];simp),if_pos ⟨rfl,ql⟩]);have sH:=zh (h.later (aA w (.cells bH 177)));have hlen:=h.len;have pQ:w.heap.size≠p.pb:=V5;have tZ:=h.blt;have uK:(w.alloc (.cells bH 177)).heap.size=w.heap.size+1:=VL;clear h hE;go_enter Tryz.func218,Tryz.ntmps218;go_wp2_with(first|(go_at_call 131;refine(cR p (w5.alloc (.cells #[.int .i64 opa,.int .i64 na,.string sa,.string ma,.slice pa qa ra,.slice ta ua va] 177)) j5 kIn (sN.later (aA _ _))).mono ?_;rintro e w6 (⟨y6,uH,rfl,qE⟩|⟨⟨⟩,j6,uH,⟨rfl,tK⟩,qE⟩))|(go_at_call 188;refine(HE.out 0 j4 w4 rR VG (by have:=fE sW;have:=(cH sI).1;omega)).mono ?_;rintro e w5 (⟨y5,rK,rfl,qB⟩|⟨xa,j5,rK,⟨⟨opa,na,sa,ma,pa,qa,ra,ta,ua,va,rfl,vM⟩,sN,FP⟩,qB⟩))|(go_at_call 131;refine(cR p w3 j3 kEq rY).mono ?_;rintro e w4 (⟨y4,sI,rfl,pW⟩|⟨⟨⟩,j4,sI,⟨rfl,rR⟩,pW⟩))|(go_at_call 132;refine(eU p w2 (i+1) qL).mono ?_;rintro e w3 (⟨y3,sW,rfl,pY⟩|⟨ns,j3,sW,⟨rfl,rY,qX⟩,pY⟩))|(go_at_call 141;refine(eX p w1 i kLet qD ql).mono ?_;rintro e w2 ⟨rfl,qL,pU⟩)|(go_at_call 141;refine(aX p (w.alloc (.cells bH 177)) i kIf sH.out qi).mono ?_;rintro e w1 ⟨rfl,qD,pV⟩))
 ·exact⟨rfl,Ran.bad' (HR.out.trans (PR.bnd_bad sW)) ((Off.of_below (aA _ _)).trans (pV.trans (pU.trans pY)))⟩
 ·exact⟨rfl,Ran.bad' (HR.out.trans ((PR.bnd_ok sW).trans (PR.bnd_bad sI))) ((Off.of_below (aA _ _)).trans (pV.trans (pU.trans (pY.trans pW))))⟩
 ·exact⟨rfl,Ran.bad' (HR.out.trans ((PR.bnd_ok sW).trans ((PR.bnd_ok sI).trans (PR.bnd_bad rK)))) ((Off.of_below (aA _ _)).trans (pV.trans (pU.trans (pY.trans (pW.trans qB)))))⟩
 ·exact⟨rfl,Ran.bad' (HR.out.trans ((PR.bnd_ok sW).trans ((PR.bnd_ok sI).trans ((PR.bnd_ok rK).trans (PR.bnd_bad uH))))) ((Off.of_below (aA _ _)).trans (pV.trans (pU.trans (pY.trans (pW.trans (qB.trans ((Off.of_below (aA _ _)).trans qE)))))))⟩
 ·have qI:=pV.size;have qH:=pU.size;have yU:=pY.size;have DE:=pW.size;have xT:=qB.size;have GL:=qE.size;have hs5:(w5.alloc (.cells #[.int .i64 opa,.int .i64 na,.string sa,.string ma,.slice pa qa ra,.slice ta ua va] 177)).heap.size=w5.heap.size+1:=VL;have OW:Off p.S w w6:=((Off.of_below (aA _ _)).trans (pV.trans (pU.trans (pY.trans (pW.trans (qB.trans ((Off.of_below (aA _ _)).trans qE)))))));have O5:Off p.S w5 w6:=(Off.of_below (aA _ _)).trans qE;have n5:w5.heap.size≠p.pb:=VG;have FY:w6.heap[w.heap.size]? =some (.cells bH 177):=qE.heap pQ (aF (aA _ _) (qB.heap pQ (pW.heap pQ (pY.heap pQ (pU.heap pQ (pV.heap pQ (heap_alloc_new w _)))))));have hBA:w6.heap[w5.heap.size]? =some (.cells #[.int .i64 opa,.int .i64 na,.string sa,.string ma,.slice pa qa ra,.slice ta ua va] 177):=qE.heap n5 (heap_alloc_new w5 _);have OJ:=zh (aG.off vM O5 (fun b hb hn=>by have hb:b=p.pb:=hb;have hn:w4.heap.size<=b:=hn;omega));have pZ:=zh (HR.out.trans ((PR.bnd_ok sW).trans ((PR.bnd_ok sI).trans ((PR.bnd_ok rK).trans (PR.bnd_ok uH)))));have OR:=zh OW;have DK:=zh FY;have PY:=fE sW;have hj4:=(cH sI).1;have hj6:=(cH uH).1;clear vM O5 OW FY sW sI rK uH pV pU pY pW qB qE HR qD qL rY rR sN;refine wp_region_held_drew (S:=(fun W=>W.heap[w5.heap.size]? =some (.cells #[.int .i64 opa,.int .i64 na,.string sa,.string ma,.slice pa qa ra,.slice ta ua va] 177))) VH hBA fun hS=>?_;refine zt 0 (.string ns) rfl (fun W hW=>VM) hS ?_;try simp only[zn]
  refine zt 1 (.agg #[.int .i64 opa,.int .i64 na,.string sa,.string ma,.slice pa qa ra,.slice ta ua va]) rfl (fun W hW=>by obtain⟨⟨c0,c1,c2,c3,c4,c5⟩,-⟩:=bx6 hW;go_simp) hS ?_;try simp only[zn]
  refine zt 2 (.pointer (some ⟨p.pb,0,none⟩)) rfl (fun W hW=>VM) hS ?_;try simp only[zn]
  refine zr 3 rfl (fun K hK=>?_);go_simp;refine(HE.out 0 j6 w6.drew (tK.later (aE _)) VG VG).mono ?_;rintro e w7 (⟨y7,rJ,rfl,qC⟩|⟨xc,j7,rJ,⟨⟨opc,nc,sc,mc,pc,qc,rc,tc,uc,vc,rfl,FR⟩,rX,PZ⟩,qC⟩)
  ·go_wp2_with fail;exact⟨rfl,Ran.bad' (pZ.out.trans (PR.bnd_bad rJ)) (OR.out.trans ((Off.of_below (aE w6)).trans qC))⟩
  ·have JB:=qC.heap n5 (aF (aE w6) hBA);refine hK.out _ _ JB (fun hS=>?_);clear hK K;(try simp only[zn]);have L7:=aF (aA w7 (.cells #[.int .i64 opa,.int .i64 na,.string sa,.string ma,.slice pa qa ra,.slice ta ua va,.int .i64 opc,.int .i64 nc,.string sc,.string mc,.slice pc qc rc,.slice tc uc vc] 177)) (qC.heap pQ (aF (aE w6) DK.out));have KQ:=heap_alloc_new w7 (.cells #[.int .i64 opa,.int .i64 na,.string sa,.string ma,.slice pa qa ra,.slice ta ua va,.int .i64 opc,.int .i64 nc,.string sc,.string mc,.slice pc qc rc,.slice tc uc vc] 177);have hA7:p.At (w7.alloc (.cells #[.int .i64 opa,.int .i64 na,.string sa,.string ma,.slice pa qa ra,.slice ta ua va,.int .i64 opc,.int .i64 nc,.string sc,.string mc,.slice pc qc rc,.slice tc uc vc] 177)) j7:=rX.later (aA _ _);have O7:Off p.S w6 (w7.alloc (.cells #[.int .i64 opa,.int .i64 na,.string sa,.string ma,.slice pa qa ra,.slice ta ua va,.int .i64 opc,.int .i64 nc,.string sc,.string mc,.slice pc qc rc,.slice tc uc vc] 177)):=(Off.of_below (aE w6)).trans (qC.trans (Off.of_below (aA _ _)));have JA:=aF (aA w7 (.cells #[.int .i64 opa,.int .i64 na,.string sa,.string ma,.slice pa qa ra,.slice ta ua va,.int .i64 opc,.int .i64 nc,.string sc,.string mc,.slice pc qc rc,.slice tc uc vc] 177)) JB;have GK:=qC.size;have hszd:w6.drew.heap.size=w6.heap.size:=rfl;have hXA:=aG.off OJ.out O7 (fun b hb hn=>by have hb:b=p.pb:=hb;have hn:w4.heap.size<=b:=hn;omega);have hXC:=aG _ _ _ _ _ _ (bM.later (aA w7 (.cells #[.int .i64 opa,.int .i64 na,.string sa,.string ma,.slice pa qa ra,.slice ta ua va,.int .i64 opc,.int .i64 nc,.string sc,.string mc,.slice pc qc rc,.slice tc uc vc] 177))) FR
   have yG:Hid (aK 6 bV (bD w4.heap.size) (w7.alloc (.cells #[.int .i64 opa,.int .i64 na,.string sa,.string ma,.slice pa qa ra,.slice ta ua va,.int .i64 opc,.int .i64 nc,.string sc,.string mc,.slice pc qc rc,.slice tc uc vc] 177)) (.slice (some ⟨w7.heap.size,0,none⟩) 2 2) [xa,xc]):=zh (aK.of_block (css:=[[.int .i64 opa,.int .i64 na,.string sa,.string ma,.slice pa qa ra,.slice ta ua va],[.int .i64 opc,.int .i64 nc,.string sc,.string mc,.slice pc qc rc,.slice tc uc vc]]) KQ (by show w4.heap.size<=w7.heap.size;omega) rfl VL (fun i y c hy hc=>by
    match i,hy,hc with
    |0,hy,hc=>cases hy;cases hc;exact hXA
    |1,hy,hc=>cases hy;cases hc;exact aG.wide hXC (fun b hb _=>by have hb:w6.drew.heap.size<=b:=hb;show w4.heap.size<=b;omega)) rfl VI)
   have HA7:=zh hA7;have HO7:=zh (OR.out.trans O7);obtain⟨⟨r0,r1,r2,r3,r4,r5⟩,g0,g1,g2,g3,g4,g5⟩:=bx6 L7;clear hXA hXC FR OJ KQ hA7 O7 L7;refine zr 4 rfl (fun K hK=>?_);go_simp;refine hK.out _ _ JA (fun hS=>?_);clear hK K;(try simp only[zn]);refine zt 5 (.agg #[.int .i64 12,.int .i64 0,.string ns,.string ⟨#[]⟩,.slice none 0 0,.slice (some ⟨w7.heap.size,0,none⟩) 2 2]) rfl (fun W hW=>VM) hS ?_;(try simp only[zn]);refine zr 6 rfl (fun K hK=>?_);go_simp;have hE:=gA (x:=.mk 12 0 ns noB [] [xa,xc]) (op:=12) (n:=0) (s:=ns) (m:=⟨#[]⟩) (a1:=none) (n1:=0) (c1:=0) (a2:=some ⟨w7.heap.size,0,none⟩) (n2:=2) (c2:=2) HW.out HO7.out HA7.out (by rw[aZ];exact⟨_,_,rfl,qX,VI,aK.nil _ _ _ _,yG.out⟩) (fun b hb=>WW);have GS:=oR (w7.alloc (.cells #[.int .i64 opa,.int .i64 na,.string sa,.string ma,.slice pa qa ra,.slice ta ua va,.int .i64 opc,.int .i64 nc,.string sc,.string mc,.slice pc qc rc,.slice tc uc vc] 177)) w.heap.size (.int .i64 12) (.int .i64 0) (.string ns) (.string ⟨#[]⟩) (.slice none 0 0) (.slice (some ⟨w7.heap.size,0,none⟩) 2 2);have hBA9:=GS.heap VG JA;unfold gB at hE hBA9;have yK:=zh hE;clear hE GS yG HA7 HO7;refine hK.out _ _ hBA9 (fun hS=>?_);clear hK K;(try simp only[zn]);refine zt 7 (.int .i64 0) rfl (fun W hW=>VM) hS ?_;(try simp only[zn]);refine wpAnyH_done VH ?_ _;go_wp2_with fail;refine bodyPost_ret (v:=.tuple #[.agg #[.int .i64 12,.int .i64 0,.string ns,.string ⟨#[]⟩,.slice none 0 0,.slice (some ⟨w7.heap.size,0,none⟩) 2 2],.int .i64 0]) XA rfl ?_;exact Ran.good (pZ.out.trans (PR.bnd_ok rJ)) ⟨⟨12,0,ns,⟨#[]⟩,none,0,0,some ⟨w7.heap.size,0,none⟩,2,2,rfl,yK.out.1⟩,yK.out.2.1,VG⟩ yK.out.2.2
def PrimOk(p:Prs)(f:Nat):Prop:=∀(i:Nat)(w:World),p.At w i->p.l.length<=f+i->Calls Tryz.prog 236 #[.pointer (some ⟨p.pb,0,none⟩)] w
 (Ran p.S w (aS p.l (bQ p.l f) i) fun x j e w'=>oK w.heap.size x e w'/\p.At w' j/\i<=j)
theorem prefix_prim0(p:Prs)(f:Nat)(hE:fX p f)(w:World)(i:Nat)(hP:PrimOk p f)(h:p.At w i)(sE:p.l.length<=f+i)(qi:isP p.l i kIf=false)(ql:isP p.l i kLet=false)(qs:isP p.l i kSet=false)(qn:isP p.l i kNot=false):Calls Tryz.prog 218 #[.pointer (some ⟨p.pb,0,none⟩),.int .i64 0] w
  (Ran p.S w (cL p.l (bQ p.l f) 0 i) (PreV p w i)):=by
 have HE:=zh hE;have HW:=zh h;have HP:=zh hP;have HR:Hid (cL p.l (bQ p.l f) 0 i=(aS p.l (bQ p.l f) i).bnd fun e j=>.ok ((e,8),j)):=zh (by unfold cL;rw[if_neg (by rw[qi];simp),if_neg (by rw[ql];simp),if_neg (by rw[qs];simp),if_neg (by rw[qn];simp)]);have sH:=zh (h.later (aA w (.cells bH 177)));have hlen:=h.len;have pQ:w.heap.size≠p.pb:=V5;have tZ:=h.blt;have uK:(w.alloc (.cells bH 177)).heap.size=w.heap.size+1:=VL;clear h hE hP;go_enter Tryz.func218,Tryz.ntmps218;go_wp2_with(first|(go_at_call 236;have HB:=zh (show w.heap.size<w4.heap.size from(Array.getElem?_eq_some_iff.1 (pW.heap pQ (pY.heap pQ (pU.heap pQ (pV.heap pQ (heap_alloc_new w _)))))).1);refine(HP.out i w4 rR VG).mono ?_;rintro e w5 (⟨y,hx,rfl,qB⟩|⟨xa,j,hx,⟨⟨opa,na,sa,ma,pa,qa,ra,ta,ua,va,rfl,vM⟩,sN,yN⟩,qB⟩)<;>have FY:=zh (qB.heap pQ (pW.heap pQ (pY.heap pQ (pU.heap pQ (pV.heap pQ (heap_alloc_new w _))))))<;>obtain⟨⟨r0,r1,r2,r3,r4,r5⟩,g0,g1,g2,g3,g4,g5⟩:=bx6 FY.out)|(go_at_call 141;refine(aX p w3 i kNot rY qn).mono ?_;rintro e w4 ⟨rfl,rR,pW⟩)|(go_at_call 141;refine(aX p w2 i kSet qL qs).mono ?_;rintro e w3 ⟨rfl,rY,pY⟩)|(go_at_call 141;refine(aX p w1 i kLet qD ql).mono ?_;rintro e w2 ⟨rfl,qL,pU⟩)|(go_at_call 141;refine(aX p (w.alloc (.cells bH 177)) i kIf sH.out qi).mono ?_;rintro e w1 ⟨rfl,qD,pV⟩))
 ·exact⟨rfl,Ran.bad' (HR.out.trans (PR.bnd_bad hx)) ((Off.of_below (aA _ _)).trans (pV.trans (pU.trans (pY.trans (pW.trans qB)))))⟩
 ·have hE:=gA HW.out ((Off.of_below (aA _ _)).trans (pV.trans (pU.trans (pY.trans (pW.trans qB))))) sN vM (fun b hb=>by have hb:w4.heap.size<=b:=hb;have:=HB.out;omega);exact S6
theorem prefix_prim(p:Prs)(f:Nat)(hE:fX p f)(w:World)(i:Nat)(form:Nat)(hf:form<=9)(hP:PrimOk p f)(h:p.At w i)(sE:p.l.length<=f+i)(hf0:0<form)(hf3:form<=3)(qn:isP p.l i kNot=false):Calls Tryz.prog 218 #[.pointer (some ⟨p.pb,0,none⟩),.int .i64 (form:Int)] w
  (Ran p.S w (cL p.l (bQ p.l f) form i) (PreV p w i)):=by
 have HE:=zh hE;have HW:=zh h;have HP:=zh hP;have HR:Hid (cL p.l (bQ p.l f) form i=(aS p.l (bQ p.l f) i).bnd fun e j=>.ok ((e,8),j)):=zh (by unfold cL;rw[if_neg VG,if_neg VG,if_neg VG,if_neg (by rw[qn];simp)]);have sH:=zh (h.later (aA w (.cells bH 177)));have hlen:=h.len;have pQ:w.heap.size≠p.pb:=V5;have tZ:=h.blt;have uK:(w.alloc (.cells bH 177)).heap.size=w.heap.size+1:=VL;clear h hE hP;have hfe:((form:Int)==0)=false:=VQ;have N2:(form:Int)<=3:=VG;have hfn:¬(form:Int)=0:=VG;go_enter Tryz.func218,Tryz.ntmps218;go_wp2_with(first|(go_at_call 236;have HB:=zh (show w.heap.size<w1.heap.size from(Array.getElem?_eq_some_iff.1 (pV.heap pQ (heap_alloc_new w _))).1);refine(HP.out i w1 qD VG).mono ?_;rintro e w2 (⟨y,hx,rfl,pU⟩|⟨xa,j,hx,⟨⟨opa,na,sa,ma,pa,qa,ra,ta,ua,va,rfl,vM⟩,qL,yN⟩,pU⟩)<;>have FY:=zh (pU.heap pQ (pV.heap pQ (heap_alloc_new w _)))<;>obtain⟨⟨r0,r1,r2,r3,r4,r5⟩,g0,g1,g2,g3,g4,g5⟩:=bx6 FY.out)|(go_at_call 141;refine(aX p (w.alloc (.cells bH 177)) i kNot sH.out qn).mono ?_;rintro e w1 ⟨rfl,qD,pV⟩))
 ·exact⟨rfl,Ran.bad' (HR.out.trans (PR.bnd_bad hx)) ((Off.of_below (aA _ _)).trans (pV.trans pU))⟩
 ·have hE:=gA HW.out ((Off.of_below (aA _ _)).trans (pV.trans pU)) qL vM (fun b hb=>by have hb:w1.heap.size<=b:=hb;have:=HB.out;omega);exact S6
theorem prefix_prim4(p:Prs)(f:Nat)(hE:fX p f)(w:World)(i:Nat)(form:Nat)(hf:form<=9)(hP:PrimOk p f)(h:p.At w i)(sE:p.l.length<=f+i)(hf3:3<form):Calls Tryz.prog 218 #[.pointer (some ⟨p.pb,0,none⟩),.int .i64 (form:Int)] w
  (Ran p.S w (cL p.l (bQ p.l f) form i) (PreV p w i)):=by
 have HE:=zh hE;have HW:=zh h;have HP:=zh hP;have HR:Hid (cL p.l (bQ p.l f) form i=(aS p.l (bQ p.l f) i).bnd fun e j=>.ok ((e,8),j)):=zh (by unfold cL;rw[if_neg VG,if_neg VG,if_neg VG,if_neg VG]);have sH:=zh (h.later (aA w (.cells bH 177)));have hlen:=h.len;have pQ:w.heap.size≠p.pb:=V5;have tZ:=h.blt;have uK:(w.alloc (.cells bH 177)).heap.size=w.heap.size+1:=VL;clear h hE hP;have hfe:((form:Int)==0)=false:=VQ;have N2:¬(form:Int)<=3:=VG;have hfd:decide ((form:Int)<=3)=false:=decide_eq_false N2;have hfn:¬(form:Int)=0:=VG;go_enter Tryz.func218,Tryz.ntmps218;go_wp2_with(first|(go_at_call 236;have HB:=zh (show w.heap.size<(w.alloc (.cells bH 177)).heap.size from(Array.getElem?_eq_some_iff.1 (heap_alloc_new w _)).1);refine(HP.out i (w.alloc (.cells bH 177)) sH.out VG).mono ?_;rintro e w1 (⟨y,hx,rfl,pV⟩|⟨xa,j,hx,⟨⟨opa,na,sa,ma,pa,qa,ra,ta,ua,va,rfl,vM⟩,qD,yN⟩,pV⟩)<;>have FY:=zh (pV.heap pQ (heap_alloc_new w _))<;>obtain⟨⟨r0,r1,r2,r3,r4,r5⟩,g0,g1,g2,g3,g4,g5⟩:=bx6 FY.out))
 ·exact⟨rfl,Ran.bad' (HR.out.trans (PR.bnd_bad hx)) ((Off.of_below (aA _ _)).trans pV)⟩
 ·have hE:=gA HW.out ((Off.of_below (aA _ _)).trans pV) qD vM (fun b hb=>by have hb:(w.alloc (.cells bH 177)).heap.size<=b:=hb;have:=HB.out;omega);exact S6
theorem prefix_any(p:Prs)(f:Nat)(hE:fX p f)(hP:PrimOk p f)(w:World)(form i:Nat)(h:p.At w i)(hf:form<=9)(sE:p.l.length<=f+i):Calls Tryz.prog 218 #[.pointer (some ⟨p.pb,0,none⟩),.int .i64 (form:Int)] w
  (Ran p.S w (cL p.l (bQ p.l f) form i) (PreV p w i)):=by
 cases qn:isP p.l i kNot with
 |true=>
  by_cases h0:form=0
  ·subst h0
   cases qi:isP p.l i kIf with
   |true=>exact prefix_if p f hE w i h sE qi
   |false=>
    cases ql:isP p.l i kLet with
    |true=>exact prefix_let p f hE w i h sE qi ql
    |false=>
     cases qs:isP p.l i kSet with
     |true=>exact prefix_set p f hE w i h sE qi ql qs
     |false=>exact prefix_not0 p f hE w i h sE qi ql qs qn
  ·by_cases h3:form<=3
   ·exact prefix_not p f hE w i form hf h sE VG h3 qn
   ·exact prefix_prim4 p f hE w i form hf hP h sE VG
 |false=>
  by_cases h0:form=0
  ·subst h0
   cases qi:isP p.l i kIf with
   |true=>exact prefix_if p f hE w i h sE qi
   |false=>
    cases ql:isP p.l i kLet with
    |true=>exact prefix_let p f hE w i h sE qi ql
    |false=>
     cases qs:isP p.l i kSet with
     |true=>exact prefix_set p f hE w i h sE qi ql qs
     |false=>exact prefix_prim0 p f hE w i hP h sE qi ql qs qn
  ·by_cases h3:form<=3
   ·exact prefix_prim p f hE w i form hf hP h sE VG h3 qn
   ·exact prefix_prim4 p f hE w i form hf hP h sE VG
end Go.Proofs.YtacgopankhpnbaaGreatDoor
