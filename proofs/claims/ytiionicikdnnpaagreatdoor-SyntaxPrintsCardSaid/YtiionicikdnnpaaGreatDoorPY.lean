/- Texts of this seat, joined. -/
import Derived.Test.YtiionicikdnnpaaGreatDoorSynQ
set_option maxHeartbeats 12000000
set_option maxRecDepth 100000
set_option linter.unusedVariables false
set_option linter.unusedSimpArgs false
set_option linter.constructorNameAsVariable false
namespace Go.Proofs.YtiionicikdnnpaaGreatDoor
open Go.RowKit
theorem prim_num(p:Prs)(f:Nat)(hE:gF p f)(tE:mB p f)(w:World)(i:Nat)(h:p.At w i)(tD:p.l.length<=f+i)(k1:(aM p.l i).kind=1):Calls Tryz.prog 191 #[.pointer (some ⟨p.pb,0,none⟩)] w
  (Ran p.S w (aX p.l (bS p.l f) i) fun x j e w'=>oF w.heap.size x e w'/\p.At w' j/\i<=j):=by
 have HE:=zh hE;have C7:=zh tE;have HW:=zh h;have HR:Hid (aX p.l (bS p.l f) i=.ok (.mk 0 (aM p.l i).n noB noB [] [],i+1)):=zh (by unfold aX;rw[if_pos k1];try rfl);have qB:=zh (h.later (aC w (.cells bG 35)));have HN:=zh (fun W(hW:p.At W i)=>cJ p W i hW);have rD:=h.len;have vB:=h.bound;have sC:=h.tok;have uC:=h.last i _ sC;have pP:w.heap.size≠p.pb:=WG;have uS:=h.blt;have zJ:(w.alloc (.cells bG 35)).heap.size=w.heap.size+1:=VY;have hl:i+1<p.l.length:=uC (by rw[k1];decide);generalize uB:aM p.l i=t at *;have zC:=zh uB;clear h hE tE uB;have AL:(t.kind==1)=true:=by rw[beq_iff_eq];exact k1
 go_enter Tryz.func191,Tryz.ntmps191;go_wp2_with(first|(go_at_call 50;refine(HN.out _ qB.out).mono ?_;rintro e w1 ⟨rfl,pN⟩;have rZ:=pN.size;have vQ:=qB.out.later pN;have qV:=vQ.later (aC w1 (dA 1 t.text t.n t.pos));have b1:=vQ.box1;have f1:=vQ.froz;have b1':=qV.box1;have f1':=qV.froz;have hpb1:=vQ.blt;have FP:=aD pN (bY w (.cells bG 35));obtain⟨⟨r0,r1,r2,r3,r4,r5⟩,g0,g1,g2,g3,g4,g5⟩:=bx6 FP;have DU:w.heap.size<w1.heap.size:=VS;have tU:¬w1.heap.size=p.pb:=VS;have hnt2:¬p.pb=w1.heap.size:=VS;have hnr:¬w.heap.size=p.pb:=pP;have hnr2:¬p.pb=w.heap.size:=(fun e=>pP e.symm);have hnw:¬w.heap.size=w1.heap.size:=VS));have hE:=nO (N:=fun _=>False) (x:=.mk 0 t.n noB noB [] []) (op:=0) (n:=t.n) (s:=⟨#[]⟩) (m:=⟨#[]⟩) (a1:=none) (n1:=0) (c1:=0) (a2:=none) (n2:=0) (c2:=0) (cs:=#[.int .i64 1,.string t.text,.int .i64 t.n,.int .i64 t.pos]) (T:=59) HW.out (w:=(w1.setCell ⟨p.pb,1,none⟩ (.int .i64 ((i:Int)+1)))) ((Ba (aA (aC _ _) pN)).trans (vQ.step hl).2) (vQ.step hl).1 (by rw[fE];exact DU) WZ (fun b hb=>hb.elim);unfold fP at hE;refine bodyPost_ret (v:=bW 0 t.n ⟨#[]⟩ ⟨#[]⟩ none 0 0 none 0 0) (by simp[results,Tryz.results191,go_sem,r0,r1,r2,r3,r4,r5,DU,hnr,hnr2]) rfl ?_;exact Ran.good HR.out ⟨⟨0,t.n,⟨#[]⟩,⟨#[]⟩,none,0,0,none,0,0,rfl,hE.1⟩,hE.2.1,VS⟩ hE.2.2
theorem prim_act_z(p:Prs)(f:Nat)(hE:gF p f)(tE:mB p f)(w:World)(i:Nat)(h:p.At w i)(tD:p.l.length<=f+i)(k1:¬(aM p.l i).kind=1)(qt:isP p.l i cQ=false)(qf:isP p.l i bU=false)(qg:isP p.l i fY=false)(k0:(aM p.l i).kind=0)(kb:cA (aM p.l i).text≠0):Calls Tryz.prog 191 #[.pointer (some ⟨p.pb,0,none⟩)] w
  (Ran p.S w (aX p.l (bS p.l f) i) fun x j e w'=>oF w.heap.size x e w'/\p.At w' j/\i<=j):=by
 have HE:=zh hE;have C7:=zh tE;have HW:=zh h;have HR:Hid (aX p.l (bS p.l f) i=(dN p.l (i+1) aY).bnd fun _ j=>(parenP p.l (bS p.l f) j).bnd fun e k=>.ok (.mk 16 (cA (aM p.l i).text) noB noB [] [e],k)):=zh (by unfold aX;rw[if_neg k1,if_neg (show ¬isP p.l i cQ=true by rw[qt];simp),if_neg (show ¬isP p.l i bU=true by rw[qf];simp),if_neg (show ¬isP p.l i fY=true by rw[qg];simp),if_pos ⟨k0,kb⟩];try rfl);have qB:=zh (h.later (aC w (.cells bG 35)));have HN:=zh (fun W(hW:p.At W i)=>cJ p W i hW);have rD:=h.len;have vB:=h.bound;have sC:=h.tok;have uC:=h.last i _ sC;have pP:w.heap.size≠p.pb:=WG;have uS:=h.blt;have zJ:(w.alloc (.cells bG 35)).heap.size=w.heap.size+1:=VY;have hl:i+1<p.l.length:=uC (by rw[k0];decide);generalize uB:aM p.l i=t at *;have zC:=zh uB;clear h hE tE uB;have AL:(t.kind==1)=false:=V9;have KQ:(t.kind==0)=true:=XS;have kb':(cA t.text != 0)=true:=by rw[bne_iff_ne];exact kb
 go_enter Tryz.func191,Tryz.ntmps191;go_wp2_with(first|(go_at_call 110;refine(dD p (w7.alloc (aH opa na sa ma pa qa ra ta ua va)) j7 cF (sU.later (aC _ _))).mono ?_;rintro e w8 (⟨y8,tO,rfl,BG⟩|⟨⟨⟩,j8,tO,⟨rfl,xH⟩,BG⟩)<;>have sY:=(Ba (aC _ _)).trans BG<;>have NN:=sY.size)|(go_at_call 48;refine(HE.out 0 j6 w6 tW VS (by have:=(cT tP).1;omega)).mono ?_;rintro e w7 (⟨y7,sA,rfl,qU⟩|⟨xa,j7,sA,⟨⟨opa,na,sa,ma,pa,qa,ra,ta,ua,va,rfl,xL⟩,sU,PJ⟩,qU⟩)<;>have GS:=qU.size)|(go_at_call 110;refine(dD p (w5.setCell ⟨p.pb,1,none⟩ (.int .i64 ((i:Int)+1))) (i+1) aY (tG.step hl).1).mono ?_;rintro e w6 (⟨y6,tP,rfl,hq6⟩|⟨⟨⟩,j6,tP,⟨rfl,tW⟩,hq6⟩)<;>have qY:=((tG.step hl).2).trans hq6<;>have GT:=qY.size)|(go_at_call 154;refine(iF t.text w4 sQ.spc).mono ?_;rintro e w5 ⟨rfl,hb5⟩;have yS:=hb5.size;have qS:=Ba (S:=p.S) hb5;have tG:=sQ.later hb5;have b1:=tG.box1;have f1:=tG.froz)|(go_at_call 120;refine(bH p w3 i fY sV qg).mono ?_;rintro e w4 ⟨rfl,sQ,qH⟩;have EP:=qH.size;have zN:=zh (qH.heap tU (qP.heap tU (pY.heap tU (bY w1 _))));obtain⟨t0,t1,t2,t3⟩:=bx4 zN.out)|(go_at_call 120;refine(bH p w2 i bU rE qf).mono ?_;rintro e w3 ⟨rfl,sV,qP⟩;have zV:=qP.size)|(go_at_call 120;refine(bH p (w1.alloc (dA 0 t.text t.n t.pos)) i cQ qV qt).mono ?_;rintro e w2 ⟨rfl,rE,pY⟩;have rY:=pY.size)|(go_at_call 50;refine(HN.out _ qB.out).mono ?_;rintro e w1 ⟨rfl,pN⟩;have rZ:=pN.size;have qI:=Ba (S:=p.S) (aA pN (aC w1 (dA 0 t.text t.n t.pos)));have vQ:=qB.out.later pN;have qV:=vQ.later (aC w1 (dA 0 t.text t.n t.pos));have tU:w1.heap.size≠p.pb:=VS;have rX:(w1.alloc (dA 0 t.text t.n t.pos)).heap.size=w1.heap.size+1:=VY))
 ·exact⟨rfl,Ran.bad' (HR.out.trans (PR.bnd_bad tP)) ((Ba (aC _ _)).trans (qI.trans (pY.trans (qP.trans (qH.trans (qS.trans qY))))))⟩
 ·exact⟨rfl,Ran.bad' (HR.out.trans ((PR.bnd_ok tP).trans (PR.bnd_bad (PR.bnd_bad sA)))) ((Ba (aC _ _)).trans (qI.trans (pY.trans (qP.trans (qH.trans (qS.trans (qY.trans qU)))))))⟩
 ·exact⟨rfl,Ran.bad' (HR.out.trans ((PR.bnd_ok tP).trans (PR.bnd_bad ((PR.bnd_ok sA).trans (PR.bnd_bad tO))))) ((Ba (aC _ _)).trans (qI.trans (pY.trans (qP.trans (qH.trans (qS.trans (qY.trans (qU.trans sY))))))))⟩
 have n7:w7.heap.size≠p.pb:=VS;have hs7:(w7.alloc (aH opa na sa ma pa qa ra ta ua va)).heap.size=w7.heap.size+1:=VY;have OU:=BG.size;have hT8:w8.heap[w1.heap.size]? =some (dA 0 t.text t.n t.pos):=sY.heap tU (qU.heap tU (qY.heap tU (qS.heap tU zN.out)));have hB8:w8.heap[w7.heap.size]? =some (aH opa na sa ma pa qa ra ta ua va):=BG.heap n7 (bY w7 _);have GI:=zh ((sY.heap pP (qU.heap pP (qY.heap pP (qS.heap pP (qH.heap pP (qP.heap pP (pY.heap pP (qI.heap pP (bY w _))))))))));have OB:=zh (aG.off xL sY (fun b hb hn=>by have hb:b=p.pb:=hb;have hn:w6.heap.size<=b:=hn;omega));have OJ:=zh ((Ba (aC _ _)).trans (qI.trans (pY.trans (qP.trans (qH.trans (qS.trans (qY.trans (qU.trans sY))))))));have qO:=zh (HR.out.trans ((PR.bnd_ok tP).trans (PR.bnd_ok ((PR.bnd_ok sA).trans (PR.bnd_ok tO)))));have hj6:=(cT tP).1;have LQ:=(cT tO).1;have HA8:=zh xH;clear xL qI pY qP qH qS qY qU sY hq6 BG tP sA tO HR b1 f1 t0 t1 t2 t3 vQ qV rE sV sQ tG tW sU xH;refine wp_region_held_drew (S:=(fun W=>W.heap[w1.heap.size]? =some (dA 0 t.text t.n t.pos)/\W.heap[w7.heap.size]? =some (aH opa na sa ma pa qa ra ta ua va))) VT ⟨hT8,hB8⟩ fun hS=>?_;refine zq 0 (.pointer (some ⟨w1.heap.size,1,none⟩)) rfl ?_;refine zt 1 (.string t.text) rfl (fun W hW=>by obtain⟨t0,t1,t2,t3⟩:=bx4 hW.1;go_simp) ?_;refine zt 3 (bW opa na sa ma pa qa ra ta ua va) rfl (fun W hW=>by obtain⟨⟨c0,c1,c2,c3,c4,c5⟩,-⟩:=bx6 hW.2;go_simp) ?_;try simp only[zn]
 refine wpAnyH_ready (rs:=[2,4]) VT VY ?_;refine AllReadyH.cons rfl (fun K hK=>?_) (AllReadyH.cons rfl (fun K hK=>?_) AllReadyH.nil)
 ·rw[if_pos VT];go_simp;refine(iF t.text w8.drew (HA8.out.later (aE _)).spc).mono ?_;rintro e w9 ⟨rfl,rT⟩;have AW:w8.heap.size<=w9.heap.size:=rT.size;have C3:=aA (aE w8) rT;refine hK.out _ _ ⟨aD C3 hT8,aD C3 hB8⟩ (fun hS=>?_);clear hK K;try simp only[zn]
  refine zr 4 rfl (fun K hK=>?_);go_simp;have hT9:=aD (aC w9 (aH opa na sa ma pa qa ra ta ua va)) (aD C3 hT8);have hB9:=aD (aC w9 (aH opa na sa ma pa qa ra ta ua va)) (aD C3 hB8);refine hK.out _ _ ⟨hT9,hB9⟩ (fun hS=>?_);clear hK K;try simp only[zn]
  have HO9:=OJ.out.trans ((Ba C3).trans (Ba (aC w9 (aH opa na sa ma pa qa ra ta ua va))))
  have D1:aO 6 aU (bP w6.heap.size) (w9.alloc (aH opa na sa ma pa qa ra ta ua va)) (.slice (some ⟨w9.heap.size,0,none⟩) 1 1) [xa]:=aO.of_block (css:=[[.int .i64 opa,.int .i64 na,.string sa,.string ma,.slice pa qa ra,.slice ta ua va]]) (bY w9 _) (by show w6.heap.size<=w9.heap.size;omega) rfl VY (fun i y c hy hc=>by
   match i,hy,hc with
   |0,hy,hc=>cases hy;cases hc;exact aG _ _ _ _ _ _ (aK.later (aA C3 (aC w9 _))) OB.out) rfl VU
  have A2:=aD (aC w9 (aH opa na sa ma pa qa ra ta ua va)) (aD C3 GI.out);obtain⟨⟨r0,r1,r2,r3,r4,r5⟩,g0,g1,g2,g3,g4,g5⟩:=bx6 A2;refine zq 5 (bW 16 (cA t.text) ⟨#[]⟩ ⟨#[]⟩ none 0 0 (some ⟨w9.heap.size,0,none⟩) 1 1) rfl ?_;try simp only[zn]
  refine zr 6 rfl (fun K hK=>?_);go_simp;have hE:=gJ (N:=bP w6.heap.size) (x:=.mk 16 (cA t.text) noB noB [] [xa]) (op:=16) (n:=cA t.text) (s:=⟨#[]⟩) (m:=⟨#[]⟩) (a1:=none) (n1:=0) (c1:=0) (a2:=some ⟨w9.heap.size,0,none⟩) (n2:=1) (c2:=1) HW.out HO9 (HA8.out.later (aA C3 (aC w9 _))) ZM (fun b hb=>X7);have GX:=jQ (w9.alloc (aH opa na sa ma pa qa ra ta ua va)) w.heap.size (.int .i64 16) (.int .i64 (cA t.text)) (.string ⟨#[]⟩) (.string ⟨#[]⟩) (.slice none 0 0) (.slice (some ⟨w9.heap.size,0,none⟩) 1 1);have hTz:=GX.heap VS hT9;have hBz:=GX.heap VS hB9;unfold fP at hE hTz hBz;refine hK.out _ _ ⟨hTz,hBz⟩ (fun hS=>?_);clear hK K;try simp only[zn]
  refine wpAnyH_done VT ?_ _;go_wp2_with fail;refine bodyPost_ret (v:=bW 16 (cA t.text) ⟨#[]⟩ ⟨#[]⟩ none 0 0 (some ⟨w9.heap.size,0,none⟩) 1 1) V3 rfl ?_;exact Ran.good (by rw[<-zC.out] at *;exact qO.out) ⟨⟨16,cA t.text,⟨#[]⟩,⟨#[]⟩,none,0,0,some ⟨w9.heap.size,0,none⟩,1,1,rfl,hE.1⟩,hE.2.1,VS⟩ hE.2.2
 rw[if_pos VT];go_simp;have L7:Below w8.heap.size w8 ((w8.alloc (aH opa na sa ma pa qa ra ta ua va)).drew):=(aC w8 (aH opa na sa ma pa qa ra ta ua va)).drew;refine hK.out _ _ ⟨aD L7 hT8,aD L7 hB8⟩ (fun hS=>?_);clear hK K;try simp only[zn]
 refine zr 2 rfl (fun K hK=>?_);go_simp;refine(iF t.text ((w8.alloc (aH opa na sa ma pa qa ra ta ua va)).drew) (HA8.out.later L7).spc).mono ?_;rintro e w9 ⟨rfl,rT⟩;have C3:=aA L7 rT;have AW:=C3.size;have hT9:=aD C3 hT8;have hB9:=aD C3 hB8;refine hK.out _ _ ⟨hT9,hB9⟩ (fun hS=>?_);clear hK K;try simp only[zn]
 have HO9:=OJ.out.trans (Ba C3);have qM:w9.heap[w8.heap.size]? =some (aH opa na sa ma pa qa ra ta ua va):=aD rT (aD (aE _) (bY w8 _))
 have D1:aO 6 aU (bP w6.heap.size) w9 (.slice (some ⟨w8.heap.size,0,none⟩) 1 1) [xa]:=aO.of_block (css:=[[.int .i64 opa,.int .i64 na,.string sa,.string ma,.slice pa qa ra,.slice ta ua va]]) qM (by show w6.heap.size<=w8.heap.size;omega) rfl VY (fun i y c hy hc=>by
  match i,hy,hc with
  |0,hy,hc=>cases hy;cases hc;exact aG _ _ _ _ _ _ (aK.later C3) OB.out) rfl VU
 have A2:=aD C3 GI.out;obtain⟨⟨r0,r1,r2,r3,r4,r5⟩,g0,g1,g2,g3,g4,g5⟩:=bx6 A2;refine zq 5 (bW 16 (cA t.text) ⟨#[]⟩ ⟨#[]⟩ none 0 0 (some ⟨w8.heap.size,0,none⟩) 1 1) rfl ?_;try simp only[zn]
 refine zr 6 rfl (fun K hK=>?_);go_simp;have hE:=gJ (N:=bP w6.heap.size) (x:=.mk 16 (cA t.text) noB noB [] [xa]) (op:=16) (n:=cA t.text) (s:=⟨#[]⟩) (m:=⟨#[]⟩) (a1:=none) (n1:=0) (c1:=0) (a2:=some ⟨w8.heap.size,0,none⟩) (n2:=1) (c2:=1) HW.out HO9 (HA8.out.later C3) ZM (fun b hb=>X7);have GX:=jQ w9 w.heap.size (.int .i64 16) (.int .i64 (cA t.text)) (.string ⟨#[]⟩) (.string ⟨#[]⟩) (.slice none 0 0) (.slice (some ⟨w8.heap.size,0,none⟩) 1 1);have hTz:=GX.heap VS hT9;have hBz:=GX.heap VS hB9;unfold fP at hE hTz hBz;refine hK.out _ _ ⟨hTz,hBz⟩ (fun hS=>?_);clear hK K;try simp only[zn]
 refine wpAnyH_done VT ?_ _;go_wp2_with fail;refine bodyPost_ret (v:=bW 16 (cA t.text) ⟨#[]⟩ ⟨#[]⟩ none 0 0 (some ⟨w8.heap.size,0,none⟩) 1 1) V3 rfl ?_;exact Ran.good (by rw[<-zC.out] at *;exact qO.out) ⟨⟨16,cA t.text,⟨#[]⟩,⟨#[]⟩,none,0,0,some ⟨w8.heap.size,0,none⟩,1,1,rfl,hE.1⟩,hE.2.1,VS⟩ hE.2.2
theorem primary_ok(p:Prs)(f:Nat)(hE:gF p f)(tE:mB p f):PrimOk p f:=fun i w h tD=>by
 by_cases k1:(aM p.l i).kind=1
 ·exact prim_num p f hE tE w i h tD k1
 cases qt:isP p.l i cQ with
 |true=>exact prim_true p f hE tE w i h tD k1 qt
 |false=>
  cases qf:isP p.l i bU with
  |true=>exact prim_false p f hE tE w i h tD k1 qt qf
  |false=>
   cases qg:isP p.l i fY with
   |true=>exact prim_get p f hE tE w i h tD k1 qt qf qg
   |false=>
    by_cases k0:(aM p.l i).kind=0
    ·by_cases kb:cA (aM p.l i).text=0
     ·cases qb:isP p.l i bJ with
      |true=>exact prim_record_z p f hE tE w i h tD k1 qt qf qg k0 kb qb
      |false=>
       cases qo:isP p.l i aY with
       |true=>exact prim_paren_z p f hE tE w i h tD k1 qt qf qg qb k0 kb qo
       |false=>
        cases qc:isP p.l (i+1) aY with
        |true=>exact prim_call_z p f hE tE w i h tD k1 qt qf qg qb qo k0 kb qc
        |false=>
         cases qd:fF p.l (i+1) with
         |true=>exact prim_method_z p f hE tE w i h tD k1 qt qf qg qb qo k0 kb qc qd
         |false=>exact prim_var_z p f hE tE w i h tD k1 qt qf qg qb qo k0 kb qc qd
     exact prim_act_z p f hE tE w i h tD k1 qt qf qg k0 kb
    cases qb:isP p.l i bJ with
    |true=>exact prim_record_n p f hE tE w i h tD k1 qt qf qg k0 qb
    |false=>
     cases qo:isP p.l i aY with
     |true=>exact prim_paren_n p f hE tE w i h tD k1 qt qf qg qb k0 qo
     |false=>
      cases qc:isP p.l (i+1) aY with
      |true=>exact prim_call_n p f hE tE w i h tD k1 qt qf qg qb qo k0 qc
      |false=>
       cases qd:fF p.l (i+1) with
       |true=>exact prim_method_n p f hE tE w i h tD k1 qt qf qg qb qo k0 qc qd
       |false=>exact prim_var_n p f hE tE w i h tD k1 qt qf qg qb qo k0 qc qd
def encXo(o:Option Nat)(N:Nat->Prop)(w:World)(x:Xp)(cs:List Value):Prop:=aU (fun b=>N b/\o≠some b) w x cs
theorem encXo_ok(o:Option Nat):eF (encXo o):=fun _ _ _ _ _ _ hm h=>aG _ _ _ _ _ _ (fun b hb hl=>⟨⟨(hm b hb.1 hl).1,hb.2⟩,(hm b hb.1 hl).2⟩) h
theorem Gro.change{α:Type}{k:Nat}{T:TypeId}{enc enc':(Nat->Prop)->World->α->List Value->Prop}{B:Nat}{l:List α}{css:List (List Value)}{v:Value}{w w':World}(h:Gro k T enc B l css v w)
  (hs:w.heap.size<=w'.heap.size) (ho:∀b,v.ownBlock=some b->w'.heap[b]? =w.heap[b]?) (he:∀x c,enc (nE B v) w x c->enc' (nE B v) w' x c):Gro k T enc' B l css v w':=by
 refine⟨?_,h.len,h.ks,fun i x c hx hc=>he x c (h.enc i x c hx hc),Nat.le_trans h.big hs⟩;obtain⟨h1,h2⟩:=h.own;refine⟨h1,?_⟩;rcases h2 with h2|⟨g,cap,cur,hv,hg,LS,r⟩
 ·exact .inl h2
 exact .inr ⟨g,cap,cur,hv,hg,(ho g (by rw[hv];rfl)).trans LS,r⟩
structure RecL (p:Prs) (W:World) (b3 B:Nat) (names:List bA) (cn:List (List Value)) (args:List Xp) (ca:List (List Value)) (vn va:Value) (wr:World):Prop where
 off:Off p.S W wr
 res:wr.heap[W.heap.size]? =some (.cells bG 35)
 loc:wr.heap[b3]? =some (oBx19 13 0 ⟨#[]⟩ ⟨#[]⟩ vn va)
 nam:Gro 1 9 eT B names cn vn wr
 arg:Gro 6 35 (encXo vn.ownBlock) B args ca va wr
 b3:W.heap.size<b3/\b3<B
 pb:p.pb<W.heap.size
 disj:∀b,vn.ownBlock=some b->va.ownBlock≠some b
section
variable {p:Prs} {W wr w':World} {b3 B:Nat} {names:List bA} {cn ca:List (List Value)} {args:List Xp} {vn va:Value}
theorem RecL.next(h:RecL p W b3 B names cn args ca vn va wr)(ho:Off p.S wr w'):RecL p W b3 B names cn args ca vn va w':=by
 have uS:=h.pb;have hb:=h.b3;have hs:cV B wr w':=cV.of_off ho fun b pM=>.inl (by have pM:b=p.pb:=pM;omega);exact⟨h.off.trans ho,ho.heap (fun e=>by have e:W.heap.size=p.pb:=e;omega) h.res,ho.heap (fun e=>by have e:b3=p.pb:=e;omega) h.loc,h.nam.stays aT hs,h.arg.stays (encXo_ok _) hs,hb,uS,h.disj⟩
theorem RecL.addName{w8 rH:World}{g cap n1:Nat}{s:bA}(h:RecL p W b3 B names cn args ca vn va w8)(hs:s.size<=8000)
  (pT:rH.ownsRow B 9 1 (.slice (some ⟨g,0,none⟩) n1 cap) n1 (cn.flatten++[.string s])) (hn:n1=names.length+1) (pL:(w8.alloc (kF s)).grownBy rH vn.ownBlock) (qW:vn.ownBlock=some g\/g=w8.heap.size+1):
  rH.heap[b3]? =some (oBx19 13 0 ⟨#[]⟩ ⟨#[]⟩ vn va)/\
  RecL p W b3 B (names++[s]) (cn++[[.string s]]) args ca (.slice (some ⟨g,0,none⟩) n1 cap) va (rH.setCell ⟨b3,4,none⟩ (.slice (some ⟨g,0,none⟩) n1 cap))/\
  Off (fun b=>W.heap.size<=b) w8 (rH.setCell ⟨b3,4,none⟩ (.slice (some ⟨g,0,none⟩) n1 cap)):=by
 subst hn;have hb:=h.b3;have uS:=h.pb;have h9:=h.next (Ba (aC w8 (kF s)));have pS:=h9.nam.lt;have PF:=h9.arg.lt;have AW:(w8.alloc (kF s)).heap.size=w8.heap.size+1:=VY;have tB:=h9.nam.big;have yP:Off (fun b=>vn.ownBlock=some b) (w8.alloc (kF s)) rH:=⟨pL.os,pL.tape,pL.output,pL.size,fun b hb hn=>pL.block b hb (fun e=>hn e.symm)⟩;have LC:Off (fun b=>b=b3) rH (rH.setCell ⟨b3,4,none⟩ (.slice (some ⟨g,0,none⟩) (names.length+1) cap)):=Off.setCell (S:=fun b=>b=b3) rH rfl;have nb3:¬vn.ownBlock=some b3:=fun e=>by have:=(pS b3 e).1;omega
 have I0:rH.heap[b3]? =_:=yP.heap nb3 h9.loc;have oa:Off (fun b=>vn.ownBlock=some b\/b=b3) (w8.alloc (kF s)) (rH.setCell ⟨b3,4,none⟩ (.slice (some ⟨g,0,none⟩) (names.length+1) cap)):=(yP.mono fun b h=>.inl h).trans (LC.mono fun b h=>.inr h)
 have obig:Off (fun b=>W.heap.size<=b) (w8.alloc (kF s)) (rH.setCell ⟨b3,4,none⟩ (.slice (some ⟨g,0,none⟩) (names.length+1) cap)):=oa.mono fun b h=>by
  rcases h with h|h
  ·have:=(pS b h).1;omega
  omega
 have hg:∀b,b<w8.heap.size+1->vn.ownBlock≠some b->b≠g:=fun b hb hn e=>by
  subst e;rcases qW with h1|h1
  ·exact hn h1
  omega
 have hA:=h9.nam.added aT (x:=s) ⟨rfl,VS⟩ rfl pT pL ZE;refine⟨I0,⟨?_,?_,?_,hA.stays aT (cV.of_off LC fun b pM=>.inl VS),?_,hb,uS,fun b pM e=>?_⟩,(Ba (aC _ _)).trans obig⟩
 ·exact Off.fresh ((h9.off.or _).trans (obig.mono fun b h=>.inr h)) (Nat.le_refl _)
 ·exact oa.heap (fun h=>h.elim (fun h=>by have:=(pS _ h).1;omega) (fun h=>VS)) h9.res
 ·rw[aW I0];rfl
 ·refine h9.arg.change (by have:=pL.size;rw[fE];exact this) (fun b pM=>oa.block b (PF b pM).2 (fun h=>?_)) (fun x c hx=>?_)
  ·rcases h with h|h
   ·exact h9.disj b h pM
   have:=(PF b pM).1;omega
  refine aG _ _ _ _ _ _ (fun b pM hl=>⟨⟨pM.1,fun e=>?_⟩,fun o u hu=>oa.cell (fun h=>?_) hu⟩) hx
  ·have e:g=b:=YG;exact hg b (by rw[<-AW];exact hl) pM.2 e.symm
  rcases h with h|h
  ·exact pM.2 h
  have:=pM.1.1;omega
 have pM:g=b:=by simpa[Value.ownBlock] using pM
 subst pM;rcases qW with h1|h1
 ·exact h9.disj g h1 e
 have:=(PF g e).2;have:=(h.arg.lt g e).2;omega
theorem RecL.addArg{vL rO tR:World}{g cap n1:Nat}{x:Xp}{cs:List Value}(h:RecL p W b3 B names cn args ca vn va vL)(ho:Off p.S vL rO)(hx:aU (bP vL.heap.size) rO x cs)(hl:cs.length=6)
  (pT:tR.ownsRow B 35 6 (.slice (some ⟨g,0,none⟩) n1 cap) n1 (ca.flatten++cs)) (hn:n1=args.length+1) (pL:(rO.alloc (.cells cs.toArray 35)).grownBy tR va.ownBlock) (qW:va.ownBlock=some g\/g=rO.heap.size+1):
  tR.heap[b3]? =some (oBx19 13 0 ⟨#[]⟩ ⟨#[]⟩ vn va)/\
  RecL p W b3 B names cn (args++[x]) (ca++[cs]) vn (.slice (some ⟨g,0,none⟩) n1 cap) (tR.setCell ⟨b3,5,none⟩ (.slice (some ⟨g,0,none⟩) n1 cap))/\
  Off (fun b=>W.heap.size<=b) rO (tR.setCell ⟨b3,5,none⟩ (.slice (some ⟨g,0,none⟩) n1 cap)):=by
 subst hn;have hb:=h.b3;have uS:=h.pb;have EX:=h.next ho;have h9:=EX.next (Ba (aC rO (.cells cs.toArray 35)));have pS:=h9.arg.lt;have hltn:=h9.nam.lt;have hlt11:=h.arg.lt;have IY:=h.nam.lt;have AW:(rO.alloc (.cells cs.toArray 35)).heap.size=rO.heap.size+1:=VY;have hz12:=ho.size;have hbig11:=h.nam.big;have yP:Off (fun b=>va.ownBlock=some b) (rO.alloc (.cells cs.toArray 35)) tR:=⟨pL.os,pL.tape,pL.output,pL.size,fun b hb hn=>pL.block b hb (fun e=>hn e.symm)⟩;have LC:Off (fun b=>b=b3) tR (tR.setCell ⟨b3,5,none⟩ (.slice (some ⟨g,0,none⟩) (args.length+1) cap)):=Off.setCell (S:=fun b=>b=b3) tR rfl;have nb3:¬va.ownBlock=some b3:=fun e=>by have:=(pS b3 e).1;omega
 have I0:tR.heap[b3]? =_:=yP.heap nb3 h9.loc;have oa:Off (fun b=>va.ownBlock=some b\/b=b3) (rO.alloc (.cells cs.toArray 35)) (tR.setCell ⟨b3,5,none⟩ (.slice (some ⟨g,0,none⟩) (args.length+1) cap)):=(yP.mono fun b h=>.inl h).trans (LC.mono fun b h=>.inr h)
 have obig:Off (fun b=>W.heap.size<=b) (rO.alloc (.cells cs.toArray 35)) (tR.setCell ⟨b3,5,none⟩ (.slice (some ⟨g,0,none⟩) (args.length+1) cap)):=oa.mono fun b h=>by
  rcases h with h|h
  ·have:=(pS b h).1;omega
  omega
 have hxo:encXo vn.ownBlock (nE B va) (rO.alloc (.cells cs.toArray 35)) x cs:=aG _ _ _ _ _ _ (fun b pM hl=>⟨⟨⟨by have pM:vL.heap.size<=b:=pM;omega,fun e=>by have pM:vL.heap.size<=b:=pM;have:=(hlt11 b e).2;omega⟩,fun e=>by have pM:vL.heap.size<=b:=pM;have:=(IY b e).2;omega⟩,fun o u hu=>aB (aC _ _) hu⟩) hx;have hA:=h9.arg.added (encXo_ok _) hxo hl pT pL ZE;refine⟨I0,⟨?_,?_,?_,?_,hA.stays (encXo_ok _) (cV.of_off LC fun b pM=>.inl VS),hb,uS,fun b pM e=>?_⟩,(Ba (aC _ _)).trans obig⟩
 ·exact Off.fresh ((h9.off.or _).trans (obig.mono fun b h=>.inr h)) (Nat.le_refl _)
 ·exact oa.heap (fun h=>h.elim (fun h=>by have:=(pS _ h).1;omega) (fun h=>VS)) h9.res
 ·rw[aW I0];rfl
 ·refine h9.nam.change (by have:=pL.size;rw[fE];exact this) (fun b pM=>oa.block b (hltn b pM).2 (fun h=>?_)) (fun x c hx=>hx);rcases h with h|h
  ·exact h9.disj b pM h
  have:=(hltn b pM).1;omega
 have e:g=b:=YG;subst e;rcases qW with h1|h1
 ·exact h9.disj g pM h1
 have:=(IY g pM).2;omega
theorem RecL.exp(h:RecL p W b3 B names cn args ca vn va wr):aU (bP B) wr (.mk 13 0 noB noB names args) [.int .i64 13,.int .i64 0,.string ⟨#[]⟩,.string ⟨#[]⟩,vn,va]:=by
 rw[aN];refine⟨vn,va,rfl,VU,VU,h.nam.row aT,?_⟩;obtain⟨a,c,h1,h2,h3,h4⟩:=h.arg.row (encXo_ok _);refine⟨a,c,h1,h2,h3,fun pP=>?_⟩;obtain⟨b,o,pN,pM,pR⟩:=h4 pP;refine⟨b,o,pN,pM,fun i x hx=>?_⟩;obtain⟨cs,e1,e2,e3⟩:=pR i x hx;exact⟨cs,aG.wide e1 (fun b hb _=>hb.1),e2,e3⟩
end
end Go.Proofs.YtiionicikdnnpaaGreatDoor
namespace Go.Proofs.YtiionicikdnnpaaGreatDoor
open Go.RowKit
theorem RX{p:Prop}(h:p:=by
 refine hK.out _ _ trivial (fun hS=>?_);clear hK K;try simp only[zn]
 have NZ:=wZ.out.next (Ba (aE vL));have yY:=wY.out.next (Ba (aC rO (aH opc nc sc mc pc qc rc tc uc vc)));have sJ:=yY.arg.big;refine wpAnyH_ready (rs:=[5]) VT VY ?_;refine AllReadyH.cons rfl (fun K hK=>?_) AllReadyH.nil;refine step_append_lies (rO.alloc (aH opc nc sc mc pc qc rc tc uc vc)) rfl _ _ 25 rfl B 35 i0 (bW 0 0 ByteArray.empty ByteArray.empty none 0 0 none 0 0) 6 96 Tryz.underlying25 wO tS rZ rY rfl VS (.slice a2 args.length c2) args.length ca.flatten W7 yY.arg.own ⟨rO.heap.size,0,none⟩ 1 1 [.int .i64 opc,.int .i64 nc,.string sc,.string mc,.slice pc qc rc,.slice tc uc vc] W7 rfl (World.news_of_block (cs:=#[.int .i64 opc,.int .i64 nc,.string sc,.string mc,.slice pc qc rc,.slice tc uc vc]) (t:=35) (fr:=(0,0)) (bY rO _)) WF VS WL VS sJ (rO.heap.size+1) VY ?_;intro g' cap' tR pT pL qW _;obtain⟨CH,CD,oB⟩:=NZ.addArg rA DR rfl pT rfl pL qW;have CU:=zh (HW.out.above sK oB);have CR:=zh CD;have sM:=zh (JV.out.trans (PR.bnd_ok rS));clear pT pL qW CD oB yY sJ NZ sK rA DR rS wY;refine hK.out _ _ trivial (fun hS=>?_);clear hK K;refine zq 6 (.pointer (some ⟨w.heap.size+1,5,none⟩)) rfl ?_;try simp only[zn]
 refine zr 7 rfl (fun K hK=>?_);try simp only[z1,z2,z3]
 obtain⟨⟨c0,c1,c2,c3,c4,c5⟩,h0,h1,h2,h3,h4,h5⟩:=bx6 CH;go_simp;clear c0 c1 c2 c3 c4 c5 h0 h1 h2 h3 h4 h5 CH;refine hK.out _ _ trivial (fun hS=>?_);clear hK K;try simp only[zn]
 refine wpAnyH_done VT ?_ _;clear hS wZ BE HE;generalize tR.setCell ⟨w.heap.size+1,5,none⟩ (.slice (some ⟨g',0,none⟩) (args.length+1) cap')=AK at *;have hjl:=CU.out.lt;go_wp2_with(first|(go_at_call 110;refine(dD p H4 uZ dO (by have h:=tN;rw[if_neg Y2] at h;exact h)).mono ?_;rintro e w16 (⟨x16,xD,rfl,BR⟩|⟨⟨⟩,k16,xD,⟨rfl,JN⟩,BR⟩)<;>have vR:=zh (CR.out.next (sT.trans BR))<;>obtain⟨⟨c0,c1,c2,c3,c4,c5⟩,h0,h1,h2,h3,h4,h5⟩:=bx6 vR.out.loc<;>obtain⟨⟨r0,r1,r2,r3,r4,r5⟩,g0,g1,g2,g3,g4,g5⟩:=bx6 vR.out.res)|(go_at_call 120;refine(mN p AK uZ bE CU.out).mono ?_;rintro e H4 ⟨rfl,tN,sT⟩))
 ·have tJ:¬isP p.l uZ bE=true:=Y2;exact⟨rfl,Ran.bad' (sM.out.trans ((if_neg tJ).trans (PR.bnd_bad xD))) vR.out.off⟩
 ·have tJ:¬isP p.l uZ bE=true:=Y2;have hk16:=(cT xD).1;have hE:=gJ HW.out vR.out.off JN vR.out.exp (fun b hb=>Y6);unfold fP at hE;refine bodyPost_ret (v:=bW 13 0 ⟨#[]⟩ ⟨#[]⟩ (some ⟨g,0,none⟩) (names.length+1) cap (some ⟨g',0,none⟩) (args.length+1) cap') (by simp[results,Tryz.results219,go_sem,r0,r1,r2,r3,r4,r5]) rfl ?_;exact Ran.good (sM.out.trans ((if_neg tJ).trans (PR.bnd_ok xD))) ⟨⟨13,0,⟨#[]⟩,⟨#[]⟩,_,_,_,_,_,_,rfl,hE.1⟩,hE.2.1,VS⟩ hE.2.2
 have tJ:isP p.l uZ bE=true:=by simpa using ‹(!isP p.l uZ bE)=false›
 rw[if_pos tJ] at tN;have pO:=tN.lt;have KE:=zh (CR.out.next sT);have CT:=zh tN;have A4:=zh (sM.out.trans (if_pos tJ));obtain⟨F',uJ⟩:∃F',F=F'+1:=⟨F-1,VS⟩;clear tN sT tJ;go_roundw
 case rel=>
  subst uJ;exact⟨uZ+1,F',s,names++[s],_,_,args++[xc],some ⟨g,0,none⟩,cap,some ⟨g',0,none⟩,cap',rfl,by simpa using KE,CT,A4,zh ⟨VS,VS,XJ,by have:=HB.out.2.2.2;simp;omega⟩⟩
 case measure=>
  rw[CT.out.pos,HA.out.pos];omega):p:=h
theorem VH{p:Prop}(h:p:=by
 go_wp2_with fail
 exact⟨rfl,Ran.bad' (JV.out.trans (PR.bnd_bad rS)) (wZ.out.off.trans ((Ba (aE vL)).trans rA))⟩):p:=h
theorem strInfo1:(Tryz.prog.info? 9).map (fun i=>(i.zero,i.size,i.bytes))=some (some (.string ByteArray.empty),1,16):=VT
theorem Gro.slice{α:Type}{k:Nat}{T:TypeId}{enc:(Nat->Prop)->World->α->List Value->Prop}{B:Nat}{l:List α}{css:List (List Value)}{v:Value}{w:World}(h:Gro k T enc B l css v w):∃a c,v=.slice a l.length c:=by
 rcases h.val with⟨rfl,rfl⟩|⟨g,cap,rfl,-,-⟩
 ·exact⟨_,_,rfl⟩
 exact⟨_,_,rfl⟩
section
variable {l:List Tok} {rec:RecP} {F q:Nat} {names:List bA} {args:List Xp} {last:bA}
theorem recFrom_step(hq:dC l q=true)(hr:gX l q names.length 8=.ok ((),q)):eC l rec (F+1) names args last q=
  (fM l q last (decide (0<names.length))).bnd fun s j=>(dN l j kEq).bnd fun _ j2=>(rec 0 j2).bnd fun e j3=>
   if isP l j3 bE then eC l rec F (names++[s]) (args++[e]) s (j3+1) else(dN l j3 dO).bnd fun _ k=>.ok (.mk 13 0 noB noB (names++[s]) (args++[e]),k):=by
 rw[eC,if_pos hq,hr];rfl
theorem recFrom_full(hq:dC l q=true){x:Int×Int}(hr:gX l q names.length 8=.error x):eC l rec (F+1) names args last q=.error x:=by
 rw[eC,if_pos hq,hr];rfl
theorem recFrom_noname(hq:dC l q=false):eC l rec (F+1) names args last q=.error ((aM l q).pos,11):=by
 rw[eC,if_neg YM];unfold fM;rw[hq];rfl
end
theorem record_any(p:Prs)(f:Nat)(hE:gF p f):mB p f:=fun i w h tD=>by
 obtain⟨i0,wO,tS,rZ,rY⟩:=info_parts xpInfo;obtain⟨i1,LR,hy0,hy1,hy2⟩:=info_parts strInfo1;have HE:=zh hE;have HW:=zh h;have rD:=h.len;have uS:=h.blt;have pP:w.heap.size≠p.pb:=VS;have hne1:w.heap.size+1≠p.pb:=VS;have zJ:(w.alloc (.cells bG 35)).heap.size=w.heap.size+1:=VY;have rX:((w.alloc (.cells bG 35)).alloc (aH 13 0 ⟨#[]⟩ ⟨#[]⟩ none 0 0 none 0 0)).heap.size=w.heap.size+2:=VY;have BA:Below w.heap.size w ((w.alloc (.cells bG 35)).alloc (aH 13 0 ⟨#[]⟩ ⟨#[]⟩ none 0 0 none 0 0)):=aA (aC _ _) (aC _ _);have HBA:=zh BA;have HAa:=zh (h.later BA);have HRa:=zh (aD (aC (w.alloc (.cells bG 35)) (aH 13 0 ⟨#[]⟩ ⟨#[]⟩ none 0 0 none 0 0)) (bY w (.cells bG 35)));have hLa:=bY (w.alloc (.cells bG 35)) (aH 13 0 ⟨#[]⟩ ⟨#[]⟩ none 0 0 none 0 0);rw[zJ] at hLa;have HLa:=zh hLa;clear h hE BA hLa
 cases sL:isP p.l i dO with
 |true=>
  have HH:=zh (fK p ((w.alloc (.cells bG 35)).alloc (aH 13 0 ⟨#[]⟩ ⟨#[]⟩ none 0 0 none 0 0)) i dO HAa.out sL);have HR:Hid (kK p.l (bS p.l f) i=.ok (.mk 13 0 noB noB [] [],i+1)):=zh (by unfold kK;rw[if_pos sL]);clear sL;go_enter Tryz.func219,Tryz.ntmps219;go_wp2_with(go_at_call 120;refine HH.out.mono ?_;rintro e w2 ⟨rfl,rE,pY⟩;have hR2:=pY.heap pP HRa.out;have hL2:=pY.heap hne1 HLa.out;obtain⟨⟨r0,r1,r2,r3,r4,r5⟩,g0,g1,g2,g3,g4,g5⟩:=bx6 hR2;obtain⟨⟨c0,c1,c2,c3,c4,c5⟩,h0,h1,h2,h3,h4,h5⟩:=bx6 hL2);have hE:=gJ (N:=fun _=>False) (x:=.mk 13 0 noB noB [] []) (op:=13) (n:=0) (s:=⟨#[]⟩) (m:=⟨#[]⟩) (a1:=none) (n1:=0) (c1:=0) (a2:=none) (n2:=0) (c2:=0) HW.out ((Ba HBA.out).trans pY) rE WZ (fun b hb=>hb.elim);unfold fP at hE;refine bodyPost_ret (v:=bW 13 0 ⟨#[]⟩ ⟨#[]⟩ none 0 0 none 0 0) (by simp[results,Tryz.results219,go_sem,r0,r1,r2,r3,r4,r5]) rfl ?_;exact Ran.good HR.out ⟨⟨13,0,⟨#[]⟩,⟨#[]⟩,none,0,0,none,0,0,rfl,hE.1⟩,hE.2.1,VS⟩ hE.2.2
 |false=>
  have HH:=zh (bH p ((w.alloc (.cells bG 35)).alloc (aH 13 0 ⟨#[]⟩ ⟨#[]⟩ none 0 0 none 0 0)) i dO HAa.out sL);have HR:Hid (kK p.l (bS p.l f) i=eC p.l (bS p.l f) (p.l.length+1) [] [] noB i):=zh (by unfold kK;rw[if_neg (by rw[sL];simp)]);clear sL;go_enter Tryz.func219,Tryz.ntmps219;go_wp2_with(go_at_call 120;refine HH.out.mono ?_;rintro e w2 ⟨rfl,rE,pY⟩);have OV:=pY.size;have Q8:Hid (RecL p w (w.heap.size+1) w2.heap.size [] [] [] [] (.slice none 0 0) (.slice none 0 0) w2):=zh ⟨(Ba HBA.out).trans pY,pY.heap pP HRa.out,pY.heap hne1 HLa.out,Gro.first _ _ _ _,Gro.first _ _ _ _,⟨VS,VS⟩,uS,fun b hb=>by cases hb⟩;have yM:=zh rE;have hb3B:w.heap.size+1<w2.heap.size:=VS;clear rE pY HH HRa HLa HAa HBA rX OV;generalize w2.heap.size=B at *;go_loopw [4] (fun sl wr=>∃(q F:Nat)(last:bA)(names:List bA)(cn ca:List (List Value))(args:List Xp)(a1:Option Addr)(c1:Nat)(a2:Option Addr)(c2:Nat),sl=.string last/\Hid (RecL p w (w.heap.size+1) B names cn args ca (.slice a1 names.length c1) (.slice a2 args.length c2) wr)/\Hid (p.At wr q)/\Hid (kK p.l (bS p.l f) i=eC p.l (bS p.l f) (F+1) names args last q)/\Hid (p.l.length<=F+q/\i<=q/\names.length<=8/\args.length=names.length)) (fun _ wr=>p.l.length-posOf wr p.pb)
  case atStart=>exact⟨i,p.l.length,_,[],[],[],[],none,0,none,0,rfl,Q8,yM,HR,zh ⟨VS,Nat.le_refl _,VU,rfl⟩⟩
  case round=>
   obtain⟨q,F,last,names,cn,ca,args,a1,c1,a2,c2,rfl,HL,HA,qO,HB⟩:=hrel;(rename World=>wr);have yT:=HB.out.1;have zX:=HB.out.2.1;have PA:=HB.out.2.2.1;(have hq5:args.length<=8:=by have:=HB.out.2.2.2;omega);have BQ:=HA.out.lt
   cases vA:dC p.l q with
   |false=>
    ·skip;go_wp2_with(first|(go_at_call 183;refine(mS p w5 q last _ GQ.out).mono ?_;rintro e w6 (⟨x,hx,rfl,qY⟩|⟨s,j6,hx,⟨rfl,tW,GU⟩,qY⟩))|(go_at_call 182;refine(hM p wr q HA.out).mono ?_;rintro e w5 ⟨rfl,hb5⟩;rw[vA];have GQ:=zh (HA.out.later hb5);have uO:=zh (HL.out.next (Ba hb5));obtain⟨⟨c0,xC,BJ,c3,c4,c5⟩,h0,h1,h2,h3,h4,h5⟩:=bx6 uO.out.loc))
     ·exact⟨rfl,Ran.bad' (by have e:=(iN vA).symm.trans hx;cases e;exact qO.out.trans (recFrom_noname vA)) (uO.out.off.trans qY)⟩
     rw[iN vA] at hx;cases hx
   |true=>
    ·skip;go_wp2_with(first|(go_at_call 110;have hj7:=laterP_ok sA;refine(dD p w7 j7 kEq sU).mono ?_;rintro e w8 (⟨x8,tO,rfl,sY⟩|⟨⟨⟩,j8,tO,⟨rfl,xH⟩,sY⟩)<;>have HL8:=zh (ON.out.next sY)<;>obtain⟨⟨k0,k1,k2,k3,k4,k5⟩,-⟩:=bx6 HL8.out.loc)|(go_at_call 183;have hj6:=oS tP;subst hj6;refine(mS p w6 j6 last _ tW).mono ?_;rintro e w7 (⟨x7,sA,rfl,qU⟩|⟨s,j7,sA,⟨rfl,sU,hs7⟩,qU⟩)<;>have ON:=zh (AF.out.next qU))|(go_at_call 113;refine(oR p w5 q names.length 8 GQ.out).mono ?_;rintro e w6 (⟨x6,tP,rfl,qY⟩|⟨⟨⟩,j6,tP,⟨rfl,tW⟩,qY⟩)<;>have AF:=zh (uO.out.next qY)<;>obtain⟨⟨e0,e1,e2,e3,e4,e5⟩,-⟩:=bx6 AF.out.loc)|(go_at_call 182;refine(hM p wr q HA.out).mono ?_;rintro e w5 ⟨rfl,hb5⟩;rw[vA];have GQ:=zh (HA.out.later hb5);have uO:=zh (HL.out.next (Ba hb5));obtain⟨⟨d0,d1,d2,d3,d4,d5⟩,-⟩:=bx6 uO.out.loc)|(at_builtin;have hL9:=HL8.out.next (Ba (aC w8 (kF s)));have tB:=hL9.nam.big;refine wpList_append_lies _ rfl _ _ 23 rfl B 9 i1 (.string ByteArray.empty) 1 16 Tryz.underlying23 LR hy0 hy1 hy2 rfl VS (.slice a1 names.length c1) names.length cn.flatten W7 hL9.nam.own ⟨w8.heap.size,0,none⟩ 1 1 [.string s] W7 rfl (World.news_of_block (cs:=#[.string s]) (t:=9) (fr:=(0,0)) (bY w8 _)) WF VS WL VS tB (w8.heap.size+1) VY ?_))
     ·exact⟨rfl,Ran.bad' (qO.out.trans (recFrom_full vA tP)) AF.out.off⟩
     ·exact⟨rfl,Ran.bad' (qO.out.trans ((recFrom_step vA tP).trans (PR.bnd_bad sA))) ON.out.off⟩
     ·exact⟨rfl,Ran.bad' (qO.out.trans ((recFrom_step vA tP).trans ((PR.bnd_ok sA).trans (PR.bnd_bad tO)))) HL8.out.off⟩
     intro g cap rH pT pL qW _;obtain⟨xM,CE,oB⟩:=HL8.out.addName hs7 pT rfl pL qW;have LQ:=(cT tO).1
     have hlr:names.length<8:=by
      have h:=tP;unfold gX at h;split at h
      ·assumption
      cases h
     have BE:=zh (HW.out.above xH oB);have wZ:=zh CE;have JV:=zh (qO.out.trans ((recFrom_step vA tP).trans ((PR.bnd_ok sA).trans (PR.bnd_ok tO))));obtain⟨⟨c0,xC,BJ,c3,c4,c5⟩,h0,h1,h2,h3,h4,h5⟩:=bx6 xM;clear pT pL qW xM CE oB hL9 tB tW sU xH qY qU sY tP sA tO d0 d1 d2 d3 d4 d5 e0 e1 e2 e3 e4 e5 k0 k1 k2 k3 k4 k5 uO AF ON HL8;go_wp2_with fail;clear c0 xC BJ c3 c4 c5 h0 h1 h2 h3 h4 h5;generalize rH.setCell ⟨w.heap.size+1,4,none⟩ (.slice (some ⟨g,0,none⟩) (names.length+1) cap)=vL at *;refine wp_region_held_drew (S:=(fun _=>True)) VT trivial fun hS=>?_;refine zq 0 (.pointer (some ⟨w.heap.size+1,5,none⟩)) rfl ?_;refine zq 2 (.pointer (some ⟨p.pb,0,none⟩)) rfl ?_;(try simp only[zn]);refine wpAnyH_ready (rs:=[1,3]) VT VY ?_;refine AllReadyH.cons rfl (fun K hK=>?_) (AllReadyH.cons rfl (fun K hK=>?_) AllReadyH.nil)
     ·have hl11:=aD (aE vL) wZ.out.loc;rw[if_pos VT];(try simp only[z1,z2,z3]);obtain⟨⟨c0,c1,c2,c3,c4,c5⟩,h0,h1,h2,h3,h4,h5⟩:=bx6 hl11;go_simp;clear c0 c1 c2 c3 c4 c5 h0 h1 h2 h3 h4 h5;refine hK.out _ _ trivial (fun hS=>?_);clear hK K;(try simp only[zn]);refine zr 3 rfl (fun K hK=>?_);(try simp only[z1,z2,z3]);go_simp;refine(HE.out 0 j8 vL.drew (BE.out.later (aE _)) VS VS).mono ?_;rintro e rO (⟨x12,rS,rfl,rA⟩|⟨xc,uZ,rS,⟨⟨opc,nc,sc,mc,pc,qc,rc,tc,uc,vc,rfl,DR⟩,sK,NU⟩,rA⟩)
      ·exact VH
      have wY:=zh (wZ.out.next ((Ba (aE vL)).trans rA));refine hK.out _ _ trivial (fun hS=>?_);clear hK K;(try simp only[zn]);refine zr 4 rfl (fun K hK=>?_);(try simp only[z1,z2,z3]);go_simp;exact RX
     rw[if_pos VT];(try simp only[z1,z2,z3]);go_simp;refine(HE.out 0 j8 vL.drew (BE.out.later (aE _)) VS VS).mono ?_;rintro e rO (⟨x12,rS,rfl,rA⟩|⟨xc,uZ,rS,⟨⟨opc,nc,sc,mc,pc,qc,rc,tc,uc,vc,rfl,DR⟩,sK,NU⟩,rA⟩)
     ·exact VH
     have wY:=zh (wZ.out.next ((Ba (aE vL)).trans rA));refine hK.out _ _ trivial (fun hS=>?_);clear hK K;(try simp only[zn]);refine wpAnyH_ready (rs:=[1,4]) VT VY ?_;refine AllReadyH.cons rfl (fun K hK=>?_) (AllReadyH.cons rfl (fun K hK=>?_) AllReadyH.nil)
     ·have hl12:=wY.out.loc;rw[if_pos VT];(try simp only[z1,z2,z3]);obtain⟨⟨c0,c1,c2,c3,c4,c5⟩,h0,h1,h2,h3,h4,h5⟩:=bx6 hl12;go_simp;clear c0 c1 c2 c3 c4 c5 h0 h1 h2 h3 h4 h5;refine hK.out _ _ trivial (fun hS=>?_);clear hK K;(try simp only[zn]);refine zr 4 rfl (fun K hK=>?_);(try simp only[z1,z2,z3]);go_simp;exact RX
     rw[if_pos VT];(try simp only[z1,z2,z3]);go_simp;refine hK.out _ _ trivial (fun hS=>?_);clear hK K;(try simp only[zn]);refine wpAnyH_ready (rs:=[1]) VT VY ?_;refine AllReadyH.cons rfl (fun K hK=>?_) AllReadyH.nil;have hl13:=aD (aC rO (aH opc nc sc mc pc qc rc tc uc vc)) wY.out.loc;rw[if_pos VT];(try simp only[z1,z2,z3]);obtain⟨⟨c0,c1,c2,c3,c4,c5⟩,h0,h1,h2,h3,h4,h5⟩:=bx6 hl13;go_simp;clear c0 c1 c2 c3 c4 c5 h0 h1 h2 h3 h4 h5;exact RX
end Go.Proofs.YtiionicikdnnpaaGreatDoor
namespace Go.Proofs.YtiionicikdnnpaaGreatDoor
open Go.RowKit
theorem aO.at{α:Type}{k:Nat}{enc:(Nat->Prop)->World->α->List Value->Prop}{N:Nat->Prop}{w:World}{v:Value}{l:List α}(h:aO k enc N w v l):
  ∃a c,v=.slice a l.length c/\l.length<=c/\c<=9223372036854775807/\∀i x,l[i]? =some x->∃b o,a=some ⟨b,o,none⟩/\N b/\∃cs,enc N w x cs/\cs.length=k/\∀j u,cs[j]? =some u->w.cell? ⟨b,o+i*k+j,none⟩=some u:=by
 obtain⟨a,c,hv,h1,h2,h3⟩:=h;refine⟨a,c,hv,h1,h2,fun i x hx=>?_⟩;obtain⟨b,o,ha,hb,hc⟩:=h3 (fun e=>by rw[e] at hx;simp at hx);exact⟨b,o,ha,hb,hc i x hx⟩
theorem U4{p:Prop}(h:p:=by
 obtain⟨v1,v2,e,-,-,h1,h2⟩:=h;obtain⟨a1,c1,rfl,-⟩:=h1.at;obtain⟨a2,c2,rfl,-⟩:=h2.at
 exact⟨op,n,s,m,a1,_,c1,a2,_,c2,e⟩):p:=h
theorem bx2{w:World}{b:Nat}{x0 x1:Value}{t:TypeId}(h:w.heap[b]? =some (.cells #[x0,x1] t)):
  (w.cell? ⟨b,0,none⟩=some x0/\w.cell? ⟨b,1,none⟩=some x1)/\w.frozen? ⟨b,0,none⟩=false/\w.frozen? ⟨b,1,none⟩=false:=⟨⟨(bx h 0 rfl).1,(bx h 1 rfl).1⟩,(bx h 0 (u:=x0) rfl).2,(bx h 1 (u:=x1) rfl).2⟩
theorem bx3{w:World}{b:Nat}{x0 x1 x2:Value}{t:TypeId}(h:w.heap[b]? =some (.cells #[x0,x1,x2] t)):
  (w.cell? ⟨b,0,none⟩=some x0/\w.cell? ⟨b,1,none⟩=some x1/\w.cell? ⟨b,2,none⟩=some x2)/\(w.frozen? ⟨b,0,none⟩=false/\w.frozen? ⟨b,1,none⟩=false/\w.frozen? ⟨b,2,none⟩=false):=
 ⟨⟨(bx h 0 rfl).1,(bx h 1 rfl).1,(bx h 2 rfl).1⟩,(bx h 0 (u:=x0) rfl).2,(bx h 1 (u:=x1) rfl).2,(bx h 2 (u:=x2) rfl).2⟩
abbrev dM(cb:Nat)(v:Value):Nat->Prop:=fun b=>b≠cb/\v.ownBlock≠some b
abbrev inC(cb:Nat)(v:Value):Nat->Prop:=fun b=>b=cb\/v.ownBlock=some b
structure Ext (cb:Nat) (v:Value) (w:World) (v':Value) (w':World):Prop where
 off:Off (inC cb v) w w'
 own:∀b,v'.ownBlock=some b->v.ownBlock=some b\/w.heap.size<=b
section
variable {cb:Nat} {v v' v'':Value} {w w' w'':World}
theorem Ext.refl(cb:Nat)(v:Value)(w:World):Ext cb v w v w:=⟨Off.refl _ _,fun _ h=>.inl h⟩
theorem Ext.below(cb:Nat)(v:Value)(hb:Below w.heap.size w w'):Ext cb v w v w':=⟨Ba hb,fun _ h=>.inl h⟩
theorem Ext.trans(h:Ext cb v w v' w')(k:Ext cb v' w' v'' w''):Ext cb v w v'' w'':=by
 refine⟨Off.fresh (B:=w.heap.size) ((h.off.or _).trans (k.off.mono fun b hb=>?_)) (Nat.le_refl _),fun b hb=>?_⟩
 ·rcases hb with hb|hb
  ·exact .inl (.inl hb)
  rcases h.own b hb with h1|h1
  ·exact .inl (.inr h1)
  exact .inr h1
 rcases k.own b hb with h1|h1
 ·exact h.own b h1
 exact .inr (Nat.le_trans h.off.size h1)
theorem Ext.moves(h:Ext cb v w v' w'):aK (dM cb v) w (dM cb v') w':=fun b hb pS=>
 ⟨⟨hb.1,fun e=>(h.own b e).elim hb.2 (fun h1=>VS)⟩,fun _ _ hu=>h.off.cell (fun hs=>hs.elim hb.1 hb.2) hu⟩
theorem Ext.size(h:Ext cb v w v' w'):w.heap.size<=w'.heap.size:=h.off.size
end
theorem fZ{α:Type}{k:Nat}{enc:(Nat->Prop)->World->α->List Value->Prop}(he:eF enc)(hk:0<k){cb:Nat}{v v' x:Value}{w w':World}{l:List α}(h:aO k enc (dM cb v) w x l)(hx:Ext cb v w v' w'):aO k enc (dM cb v') w' x l:=h.moves he hx.moves hk
theorem lW{cb:Nat}{v v':Value}{w w':World}{x:Xp}{cs:List Value}(h:aU (dM cb v) w x cs)(hx:Ext cb v w v' w'):aU (dM cb v') w' x cs:=aG _ _ _ _ _ _ hx.moves h
theorem Ext.blk{cb b:Nat}{v v':Value}{w w':World}{o:Obj}(h:Ext cb v w v' w')(hb:dM cb v b)(ho:w.heap[b]? =some o):w'.heap[b]? =some o/\dM cb v' b:=by
 have pS:=(Array.getElem?_eq_some_iff.1 ho).1;exact⟨h.off.heap (fun e=>e.elim hb.1 hb.2) ho,hb.1,fun e=>(h.own b e).elim hb.2 (fun h1=>VS)⟩
theorem aZ{N:Nat->Prop}{w:World}{x:Xp}{cs:List Value}(h:aU N w x cs):∃(op n:Int)(s m:bA)(a1:Option Addr)(n1 c1:Nat)(a2:Option Addr)(n2 c2:Nat),cs=[.int .i64 op,.int .i64 n,.string s,.string m,.slice a1 n1 c1,.slice a2 n2 c2]:=by
 cases x with
 |mk op n s m names args=>
  rw[aN] at h;exact U4
theorem jE{N:Nat->Prop}{w:World}{x:Xp}{op n:Int}{s m:bA}{vn va:Value}(h:aU N w x [.int .i64 op,.int .i64 n,.string s,.string m,vn,va]):(∃a n c,vn=.slice a n c)/\∃a n c,va=.slice a n c:=by
 cases x with
 |mk op' n' s' m' names args=>
  rw[aN] at h;obtain⟨v1,v2,e,-,-,⟨a1,c1,h1,-⟩,⟨a2,c2,h2,-⟩⟩:=h;cases e;exact⟨⟨_,_,_,h1⟩,_,_,_,h2⟩
end Go.Proofs.YtiionicikdnnpaaGreatDoor
namespace Go.Proofs.YtiionicikdnnpaaGreatDoor
theorem VI{p:Prop}(h:p:=by
 obtain⟨a,_,ha,h⟩:=PR.of_bnd h;cases h
 exact iJ fun y hy=>by rw[List.mem_singleton.1 hy];exact hr _ _ _ _ ha):p:=h
theorem VR{p:Prop}(h:p:=by
 rcases List.mem_append.1 hx with hx|hx
 ·exact ho x hx
 rw[List.mem_singleton.1 hx];exact hr _ _ _ _ he):p:=h
section
variable {l:List Tok} {rec:RecP} {D:Nat}
theorem depthXs_le_of{l:List Xp}{D:Nat}(h:∀x,x∈l->bI x<=D):eN l<=D:=by
 induction l with
 |nil=>simp[eN]
 |cons x r ih=>
  rw[eN];exact Nat.max_le.2 ⟨h x VY,ih fun y hy=>h y (by simp[hy])⟩
theorem iJ{op n:Int}{s m:bA}{names:List bA}{args:List Xp}(h:∀x,x∈args->bI x<=D):bI (.mk op n s m names args)<=D+1:=by
 rw[bI];have:=depthXs_le_of h;omega
theorem nC(hr:∀f i x j,rec f i=.ok (x,j)->bI x<=D):∀(F:Nat)(out:List Xp)(i:Nat)(xs:List Xp)(j:Nat),(∀x,x∈out->bI x<=D)->cL l rec F out i=.ok (xs,j)->∀x,x∈xs->bI x<=D
 |0,out,i,xs,j,ho,h=>by unfold cL at h;cases h;exact ho
 |F+1,out,i,xs,j,ho,h=>by
  unfold cL at h;obtain⟨_,_,-,h⟩:=PR.of_bnd h;obtain⟨e,j1,he,h⟩:=PR.of_bnd h
  have hn:∀x,x∈out++[e]->bI x<=D:=fun x hx=>by
   exact VR
  split at h
  ·exact nC hr F _ _ xs j hn h
  obtain⟨_,_,-,h⟩:=PR.of_bnd h;cases h;exact hn
theorem operandsP_depth(hr:∀f i x j,rec f i=.ok (x,j)->bI x<=D){i j:Nat}{xs:List Xp}(h:jI l rec i=.ok (xs,j)):∀x,x∈xs->bI x<=D:=by
 unfold jI at h;obtain⟨_,_,-,h⟩:=PR.of_bnd h;split at h
 ·cases h;intro x hx;cases hx
 exact nC hr _ _ _ _ _ (fun x hx=>by cases hx) h
theorem oT(hr:∀f i x j,rec f i=.ok (x,j)->bI x<=D):∀(F:Nat)(names:List bA)(args:List Xp)(last:bA)(i:Nat)(x:Xp)(j:Nat),(∀x,x∈args->bI x<=D)->eC l rec F names args last i=.ok (x,j)->bI x<=D+1
 |0,names,args,last,i,x,j,ho,h=>by unfold eC at h;cases h;exact iJ ho
 |F+1,names,args,last,i,x,j,ho,h=>by
  unfold eC at h;obtain⟨_,_,-,h⟩:=PR.of_bnd h;obtain⟨_,_,-,h⟩:=PR.of_bnd h;obtain⟨_,_,-,h⟩:=PR.of_bnd h;obtain⟨e,j1,he,h⟩:=PR.of_bnd h
  have hn:∀x,x∈args++[e]->bI x<=D:=fun x hx=>by
   exact VR
  split at h
  ·exact oT hr F _ _ _ _ x j hn h
  obtain⟨_,_,-,h⟩:=PR.of_bnd h;cases h;exact iJ hn
theorem lE{op n:Int}{s m:bA}:bI (.mk op n s m [] [])<=D+1:=iJ fun x hx=>by cases hx
theorem primaryP_depth(hr:∀f i x j,rec f i=.ok (x,j)->bI x<=D){i j:Nat}{x:Xp}(h:aX l rec i=.ok (x,j)):bI x<=D+1:=by
 have hp:∀{i x j},parenP l rec i=.ok (x,j)->bI x<=D:=fun h=>by
  unfold parenP at h;obtain⟨e,j1,he,h⟩:=PR.of_bnd h;obtain⟨_,_,-,h⟩:=PR.of_bnd h;cases h;exact hr _ _ _ _ he
 unfold aX at h;split at h
 ·cases h;exact lE
 split at h
 ·cases h;exact lE
 split at h
 ·cases h;exact lE
 split at h
 ·obtain⟨_,_,-,h⟩:=PR.of_bnd h;cases h;exact lE
 split at h
 ·obtain⟨_,_,-,h⟩:=PR.of_bnd h;obtain⟨e,_,he,h⟩:=PR.of_bnd h;cases h;exact iJ fun y hy=>by rw[List.mem_singleton.1 hy];exact hp he
 split at h
 ·unfold kK at h;split at h
  ·cases h;exact lE
  exact oT hr _ _ _ _ _ _ _ (fun x hx=>by cases hx) h
 split at h
 ·exact Nat.le_succ_of_le (hp h)
 obtain⟨s,j1,-,h⟩:=PR.of_bnd h;unfold callP at h;split at h
 ·obtain⟨xs,_,ha,h⟩:=PR.of_bnd h;cases h;exact iJ (operandsP_depth hr ha)
 split at h
 ·obtain⟨_,_,-,h⟩:=PR.of_bnd h;obtain⟨xs,_,ha,h⟩:=PR.of_bnd h;cases h;exact iJ (operandsP_depth hr ha)
 cases h;exact lE
theorem prefixP_depth(hr:∀f i x j,rec f i=.ok (x,j)->bI x<=D){form i j:Nat}{r:Xp×Nat}(h:cK l rec form i=.ok (r,j)):bI r.1<=D+1:=by
 unfold cK at h;split at h
 ·obtain⟨a,_,ha,h⟩:=PR.of_bnd h;obtain⟨_,_,-,h⟩:=PR.of_bnd h;obtain⟨b,_,hb,h⟩:=PR.of_bnd h;obtain⟨_,_,-,h⟩:=PR.of_bnd h;obtain⟨c,_,hc,h⟩:=PR.of_bnd h;cases h
  exact iJ fun y hy=>by
   simp only[List.mem_cons,List.not_mem_nil,or_false] at hy;rcases hy with rfl|rfl|rfl
   ·exact hr _ _ _ _ ha
   ·exact hr _ _ _ _ hb
   exact hr _ _ _ _ hc
 split at h
 ·obtain⟨_,_,-,h⟩:=PR.of_bnd h;obtain⟨_,_,-,h⟩:=PR.of_bnd h;obtain⟨a,_,ha,h⟩:=PR.of_bnd h;obtain⟨_,_,-,h⟩:=PR.of_bnd h;obtain⟨b,_,hb,h⟩:=PR.of_bnd h;cases h
  exact iJ fun y hy=>by
   simp only[List.mem_cons,List.not_mem_nil,or_false] at hy;rcases hy with rfl|rfl
   ·exact hr _ _ _ _ ha
   exact hr _ _ _ _ hb
 split at h
 ·obtain⟨_,_,-,h⟩:=PR.of_bnd h;exact VI
 split at h
 ·exact VI
 obtain⟨e,_,he,h⟩:=PR.of_bnd h;cases h;exact primaryP_depth hr he
theorem dotsP_depth:∀(F:Nat)(e:Xp)(i:Nat)(x:Xp)(j:Nat),lX l F e i=.ok (x,j)->bI x<=bI e+F
 |0,e,i,x,j,h=>by unfold lX at h;cases h;exact Nat.le_refl _
 |F+1,e,i,x,j,h=>by
  unfold lX at h;split at h
  ·obtain⟨s,j1,-,h⟩:=PR.of_bnd h;have h1:=dotsP_depth F _ _ x j h;(have h2:bI (.mk 14 0 s noB [] [e])<=bI e+1:=iJ fun y hy=>by rw[List.mem_singleton.1 hy];exact Nat.le_refl _);omega
  cases h;omega
theorem opsP_depth(hr:∀f i x j,rec f i=.ok (x,j)->bI x<=D)(form:Nat):∀(F own:Nat)(e:Xp)(i:Nat)(x:Xp)(j:Nat)(E:Nat),bI e<=E->D<=E->nM l rec form F own e i=.ok (x,j)->bI x<=E+F
 |0,own,e,i,x,j,E,he,hD,h=>by unfold nM at h;cases h;exact he
 |F+1,own,e,i,x,j,E,he,hD,h=>by
  unfold nM at h;split at h
  ·cases h;omega
  split at h
  ·cases h;omega
  obtain⟨b,j1,hb,h⟩:=PR.of_bnd h
  have h1:=opsP_depth hr form F _ _ _ x j (E+1) (iJ fun y hy=>by
   simp only[List.mem_cons,List.not_mem_nil,or_false] at hy;rcases hy with rfl|rfl
   ·exact he
   exact Nat.le_trans (hr _ _ _ _ hb) hD) VS h
  omega
theorem expP_depth:∀(f form i:Nat)(x:Xp)(j:Nat),bS l f form i=.ok (x,j)->bI x<=f*(2*l.length+3)
 |0,form,i,x,j,h=>by unfold bS at h;cases h
 |f+1,form,i,x,j,h=>by
  unfold bS at h;obtain⟨r,j1,FC,h⟩:=PR.of_bnd h;obtain⟨e,k,he,h⟩:=PR.of_bnd h;have IJ:∀f' i x j,bS l f f' i=.ok (x,j)->bI x<=f*(2*l.length+3):=fun f' i x j h=>expP_depth f f' i x j h;have h1:=prefixP_depth IJ FC
  have h2:bI e<=f*(2*l.length+3)+1+(l.length+1):=by
   split at he
   ·have:=dotsP_depth _ _ _ _ _ he;omega
   cases he;omega
  have h3:=opsP_depth IJ form _ _ _ _ _ _ _ h2 VS h;have e1:(f+1)*(2*l.length+3)=f*(2*l.length+3)+(2*l.length+3):=Nat.succ_mul _ _;omega
theorem expAllP_depth{form i j:Nat}{x:Xp}(h:nW l form i=.ok (x,j))(hl:l.length<=8001):bI x<=200000000:=by
 have h1:=expP_depth _ _ _ _ _ h;have h2:(l.length+1)*(2*l.length+3)<=8002*16005:=Nat.mul_le_mul VS VS;omega
end
end Go.Proofs.YtiionicikdnnpaaGreatDoor
namespace Go.Proofs.YtiionicikdnnpaaGreatDoor
open Go.RowKit
def ExpAll(p:Prs):Prop:=∀(form i:Nat)(w:World),p.At w i->form<=9->Calls Tryz.prog 48 #[.pointer (some ⟨p.pb,0,none⟩),.int .i64 (form:Int)] w
 (Ran p.S w (nW p.l form i) fun x j e w'=>oF w.heap.size x e w'/\p.At w' j/\i<=j)
theorem ExpAll.of{p:Prs}(h:∀f,gF p f):ExpAll p:=fun form i w hA hf=>h (p.l.length+1) form i w hA hf (by have:=hA.lt;omega)
def RowV{α:Type}(p:Prs)(k:Nat)(enc:(Nat->Prop)->World->α->List Value->Prop)(w:World)(i:Nat)(xs:List α)(j:Nat)(e:Ending)(w':World):Prop:=
 ∃a n c,e=.returned (.slice a n c)/\aO k enc (bP w.heap.size) w' (.slice a n c) xs/\p.At w' j/\i<=j
theorem mQ(p:Prs)(hX:ExpAll p)(w:World)(i:Nat)(s:bA)(h:p.At w i):Calls Tryz.prog 118 #[.pointer (some ⟨p.pb,0,none⟩),.string s] w
  (Ran p.S w (mC p.l i s) fun x j e w'=>oF w.heap.size x e w'/\p.At w' j/\i<j):=by
 have HW:=zh h;have HX:=zh (hX 0 i (w.alloc (.cells bG 35)) (h.later (aC _ _)) VU);have rD:=h.len;have uS:=h.blt;have pP:w.heap.size≠p.pb:=VS;have zJ:(w.alloc (.cells bG 35)).heap.size=w.heap.size+1:=VY;have HR:Hid (mC p.l i s=(nW p.l 0 i).bnd fun x j=>(mF p.l j (decide (bI x<=12)) s).bnd fun _ k=>.ok (x,k)):=zh rfl;clear h hX;go_enter Tryz.func118,Tryz.ntmps118;go_wp2_with(first|(go_at_call 116;refine(end_any p w3 j2 _ s NF.out).mono ?_;rintro e w4 (⟨x4,rC,rfl,qH⟩|⟨⟨⟩,j4,rC,⟨rfl,sQ⟩,qH⟩)<;>have wG:=zh (qH.heap hneL yL.out)<;>have HR4:=zh (qH.heap pP K5.out)<;>obtain⟨⟨d0,d1,d2,d3,d4,d5⟩,h0,h1,h2,h3,h4,h5⟩:=bx6 wG.out<;>obtain⟨⟨r0,r1,r2,r3,r4,r5⟩,g0,g1,g2,g3,g4,g5⟩:=bx6 HR4.out)|(go_at_call 51;refine(depth_any _ x _ op n s1 m _ _ _ (Nat.le_refl _) (by have:=expAllP_depth qD rD;omega) (aG _ _ _ _ _ _ (aK.later (aC w2 _)) hex)).mono ?_;rintro e w3 ⟨rfl,pR⟩;have NF:=zh ((rE.later (aC w2 _)).later pR);have yL:=zh (aD pR (bY w2 (aH op n s1 m a1 n1 c1 a2 n2 c2)));have K5:=zh (aD (aA (aC w2 (aH op n s1 m a1 n1 c1 a2 n2 c2)) pR) (pY.heap pP (bY w (.cells bG 35))));have rY:=pY.size;have hneL:w2.heap.size≠p.pb:=VS;have HD:Hid (decide ((bI x:Int)<=12)=decide (bI x<=12)):=zh WX)|(go_at_call 48;refine HX.out.mono ?_;rintro e w2 (⟨x2,qD,rfl,pY⟩|⟨x,j2,qD,⟨⟨op,n,s1,m,a1,n1,c1,a2,n2,c2,rfl,hex⟩,rE,DP⟩,pY⟩)))
 ·exact⟨rfl,Ran.bad' (HR.out.trans (PR.bnd_bad qD)) ((Ba (aC _ _)).trans pY)⟩
 ·rw[HD.out] at rC;exact⟨rfl,Ran.bad' (HR.out.trans ((PR.bnd_ok qD).trans (PR.bnd_bad rC))) ((Ba (aC _ _)).trans (pY.trans ((Ba (aA (aC w2 _) pR)).trans qH)))⟩
 rw[HD.out] at rC;have hj4:=endP_ok rC;have hE:=gJ HW.out ((Ba (aC _ _)).trans (pY.trans ((Ba (aA (aC w2 _) pR)).trans qH))) sQ (aG.off (aG _ _ _ _ _ _ (aK.later (aA (aC w2 _) pR)) hex) qH (fun b hb hn=>by have hb:b=p.pb:=hb;have hn:(w.alloc (.cells bG 35)).heap.size<=b:=hn;omega)) (fun b hb=>by have hb:(w.alloc (.cells bG 35)).heap.size<=b:=hb;omega);unfold fP at hE;refine bodyPost_ret (v:=bW op n s1 m a1 n1 c1 a2 n2 c2) (by simp[results,Tryz.results118,go_sem,r0,r1,r2,r3,r4,r5]) rfl ?_;exact Ran.good (HR.out.trans ((PR.bnd_ok qD).trans (PR.bnd_ok rC))) ⟨⟨op,n,s1,m,a1,n1,c1,a2,n2,c2,rfl,hE.1⟩,hE.2.1,VS⟩ hE.2.2
structure GrL {α:Type} (k:Nat) (T:TypeId) (enc:(Nat->Prop)->World->α->List Value->Prop) (p:Prs) (W:World) (out:List α) (css:List (List Value)) (v:Value) (q:Nat) (wr:World):Prop where
 off:Off p.S W wr
 acc:Gro k T enc W.heap.size out css v wr
 at_:p.At wr q
section
variable {α:Type} {k:Nat} {T:TypeId} {enc:(Nat->Prop)->World->α->List Value->Prop} {p:Prs} {W w5 w9 rH:World} {out:List α} {css:List (List Value)} {v:Value} {q j i0:Nat} {x:α} {cs:List Value}
theorem GrL.next(he:eF enc)(hW:p.At W i0)(h:GrL k T enc p W out css v q w5)(ho:Off p.S w5 w9)(ha:p.At w9 j):GrL k T enc p W out css v j w9:=
 ⟨h.off.trans ho,h.acc.stays he (cV.of_off ho fun b hb=>.inl YU),ha⟩
theorem GrL.fresh_enc(he:eF enc)(h:GrL k T enc p W out css v q w5)(hex:enc (bP w5.heap.size) w9 x cs):enc (nE W.heap.size v) w9 x cs:=
 he.wide hex fun b hb _=>⟨by have hb:w5.heap.size<=b:=hb;have:=h.acc.big;omega,fun e=>by have hb:w5.heap.size<=b:=hb;have:=h.acc.lt b e;omega⟩
theorem GrL.step{g cap n1:Nat}(he:eF enc)(hW:p.At W i0)(h5:GrL k T enc p W out css v q w5)(o9:Off p.S w5 w9)(yQ:p.At w9 j)(hx:enc (nE W.heap.size v) w9 x cs)(hl:cs.length=k)
  (pT:rH.ownsRow W.heap.size T k (.slice (some ⟨g,0,none⟩) n1 cap) n1 (css.flatten++cs)) (hn:n1=out.length+1) (pL:w9.grownBy rH v.ownBlock) (qW:v.ownBlock=some g\/g=w9.heap.size):
  GrL k T enc p W (out++[x]) (css++[cs]) (.slice (some ⟨g,0,none⟩) n1 cap) j rH/\Off (fun b=>W.heap.size<=b) w9 rH:=by
 subst hn;have pS:=h5.acc.lt;have rK:=h5.acc.big;have hA9:=h5.acc.stays he (cV.of_off o9 fun b hb=>.inl YU);have yP:Off (fun b=>W.heap.size<=b) w9 rH:=⟨pL.os,pL.tape,pL.output,pL.size,fun b hb hn=>pL.block b hb (fun e=>hn (pS b e.symm).1)⟩;exact⟨⟨Off.fresh (((h5.off.trans o9).or _).trans (yP.mono fun b hb=>.inr hb)) (Nat.le_refl _),hA9.added he hx hl pT pL qW,hW.above yQ yP⟩,yP⟩
end
end Go.Proofs.YtiionicikdnnpaaGreatDoor
