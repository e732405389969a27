/- Texts of this seat, joined. -/
import Derived.Test.YtiionicikdnnpaaGreatDoorSynQ
set_option maxHeartbeats 12000000
set_option maxRecDepth 100000
set_option linter.unusedVariables false
set_option linter.unusedSimpArgs false
namespace Go.Proofs.YtiionicikdnnpaaGreatDoor
open Go.RowKit
theorem prim_num(p:Prs)(f:Nat)(hE:iL p f)(uL:nO p f)(w:World)(i:Nat)(h:p.At w i)(uK:p.l.length<=f+i)(k1:(aL p.l i).kind=1):Calls Tryz.prog 191 #[.pointer (some ⟨p.pb,0,none⟩)] w
  (Ran p.S w (aQ p.l (bM p.l f) i) fun x j e w'=>qH w.heap.size x e w'/\p.At w' j/\i<=j):=by
 have HE:=zh hE;have wS:=zh uL;have HW:=zh h;have HR:Hid (aQ p.l (bM p.l f) i=.ok (.mk 0 (aL p.l i).n noB noB [] [],i+1)):=zh (by unfold aQ;rw[if_pos k1];try rfl);have uM:=zh (h.later (aA w (.cells bW 35)));have HN:=zh (fun W(hW:p.At W i)=>dO p W i hW);have hlen:=h.len;have xX:=h.bound;have tY:=h.tok;have uO:=h.last i _ tY;have rO:w.heap.size≠p.pb:=ZC;have wQ:=h.blt;have tS:(w.alloc (.cells bW 35)).heap.size=w.heap.size+1:=YR;have hl:i+1<p.l.length:=uO (by rw[k1];decide);generalize wM:aL p.l i=t at *;have wG:=zh wM;clear h hE uL wM;have CD:(t.kind==1)=true:=by rw[beq_iff_eq];exact k1
 go_enter Tryz.func191,Tryz.ntmps191;go_wp2_with(first|(go_at_call 50;refine(HN.out _ uM.out).mono ?_;rintro e w1 ⟨rfl,rR⟩;have tF:=rR.size;have vW:=uM.out.later rR;have sG:=vW.later (aA w1 (dT 1 t.text t.n t.pos));have b1:=vW.box1;have f1:=vW.froz;have b1':=sG.box1;have f1':=sG.froz;have hpb1:=vW.blt;have JI:=aH rR (bY w (.cells bW 35));obtain⟨⟨r0,r1,r2,r3,r4,r5⟩,g0,g1,g2,g3,g4,g5⟩:=bx6 JI;have vK:w.heap.size<w1.heap.size:=YM;have vM:¬w1.heap.size=p.pb:=YM;have hnt2:¬p.pb=w1.heap.size:=YM;have hnr:¬w.heap.size=p.pb:=rO;have hnr2:¬p.pb=w.heap.size:=(fun e=>rO e.symm);have hnw:¬w.heap.size=w1.heap.size:=YM));have hE:=pL (N:=fun _=>False) (x:=.mk 0 t.n noB noB [] []) (op:=0) (n:=t.n) (s:=⟨#[]⟩) (m:=⟨#[]⟩) (a1:=none) (n1:=0) (c1:=0) (a2:=none) (n2:=0) (c2:=0) (cs:=#[.int .i64 1,.string t.text,.int .i64 t.n,.int .i64 t.pos]) (T:=59) HW.out (w:=(w1.setCell ⟨p.pb,1,none⟩ (.int .i64 ((i:Int)+1)))) ((Ba (aC (aA _ _) rR)).trans (vW.step hl).2) (vW.step hl).1 (by rw[gC];exact vK) ZN (fun b hb=>hb.elim);unfold iP at hE;refine bodyPost_ret (v:=eK 0 t.n ⟨#[]⟩ ⟨#[]⟩ none 0 0 none 0 0) (by simp[results,Tryz.results191,go_sem,r0,r1,r2,r3,r4,r5,vK,hnr,hnr2]) rfl ?_;exact Ran.good HR.out ⟨⟨0,t.n,⟨#[]⟩,⟨#[]⟩,none,0,0,none,0,0,rfl,hE.1⟩,hE.2.1,YM⟩ hE.2.2
theorem prim_act_z(p:Prs)(f:Nat)(hE:iL p f)(uL:nO p f)(w:World)(i:Nat)(h:p.At w i)(uK:p.l.length<=f+i)(k1:¬(aL p.l i).kind=1)(qt:isP p.l i dC=false)(qf:isP p.l i cB=false)(qg:isP p.l i iC=false)(k0:(aL p.l i).kind=0)(kb:bR (aL p.l i).text≠0):Calls Tryz.prog 191 #[.pointer (some ⟨p.pb,0,none⟩)] w
  (Ran p.S w (aQ p.l (bM p.l f) i) fun x j e w'=>qH w.heap.size x e w'/\p.At w' j/\i<=j):=by
 have HE:=zh hE;have wS:=zh uL;have HW:=zh h;have HR:Hid (aQ p.l (bM p.l f) i=(eB p.l (i+1) aX).bnd fun _ j=>(oY p.l (bM p.l f) j).bnd fun e k=>.ok (.mk 16 (bR (aL p.l i).text) noB noB [] [e],k)):=zh (by unfold aQ;rw[if_neg k1,if_neg (show ¬isP p.l i dC=true by rw[qt];simp),if_neg (show ¬isP p.l i cB=true by rw[qf];simp),if_neg (show ¬isP p.l i iC=true by rw[qg];simp),if_pos ⟨k0,kb⟩];try rfl);have uM:=zh (h.later (aA w (.cells bW 35)));have HN:=zh (fun W(hW:p.At W i)=>dO p W i hW);have hlen:=h.len;have xX:=h.bound;have tY:=h.tok;have uO:=h.last i _ tY;have rO:w.heap.size≠p.pb:=ZC;have wQ:=h.blt;have tS:(w.alloc (.cells bW 35)).heap.size=w.heap.size+1:=YR;have hl:i+1<p.l.length:=uO (by rw[k0];decide);generalize wM:aL p.l i=t at *;have wG:=zh wM;clear h hE uL wM;have CD:(t.kind==1)=false:=Y4;have M9:(t.kind==0)=true:=aAe;have kb':(bR t.text != 0)=true:=by rw[bne_iff_ne];exact kb
 go_enter Tryz.func191,Tryz.ntmps191;go_wp2_with(first|(go_at_call 110;refine(eA p (w7.alloc (aN opa na sa ma pa qa ra ta ua va)) j7 cF (uE.later (aA _ _))).mono ?_;rintro e w8 (⟨y8,uD,rfl,DL⟩|⟨⟨⟩,j8,uD,⟨rfl,yN⟩,DL⟩)<;>have tO:=(Ba (aA _ _)).trans DL<;>have QO:=tO.size)|(go_at_call 48;refine(HE.out 0 j6 w6 vN YM (by have:=(dJ uX).1;omega)).mono ?_;rintro e w7 (⟨y7,tJ,rfl,sF⟩|⟨xa,j7,tJ,⟨⟨opa,na,sa,ma,pa,qa,ra,ta,ua,va,rfl,zJ⟩,uE,S0⟩,sF⟩)<;>have JX:=sF.size)|(go_at_call 110;refine(eA p (w5.setCell ⟨p.pb,1,none⟩ (.int .i64 ((i:Int)+1))) (i+1) aX (uS.step hl).1).mono ?_;rintro e w6 (⟨y6,uX,rfl,hq6⟩|⟨⟨⟩,j6,uX,⟨rfl,vN⟩,hq6⟩)<;>have sH:=((uS.step hl).2).trans hq6<;>have JY:=sH.size)|(go_at_call 154;refine(jN t.text w4 uA.spc).mono ?_;rintro e w5 ⟨rfl,hb5⟩;have AY:=hb5.size;have sC:=Ba (S:=p.S) hb5;have uS:=uA.later hb5;have b1:=uS.box1;have f1:=uS.froz)|(go_at_call 120;refine(bG p w3 i iC uF qg).mono ?_;rintro e w4 ⟨rfl,uA,rY⟩;have FC:=rY.size;have zK:=zh (rY.heap vM (sB.heap vM (rS.heap vM (bY w1 _))));obtain⟨t0,t1,t2,t3⟩:=bx4 zK.out)|(go_at_call 120;refine(bG p w2 i cB sS qf).mono ?_;rintro e w3 ⟨rfl,uF,sB⟩;have DJ:=sB.size)|(go_at_call 120;refine(bG p (w1.alloc (dT 0 t.text t.n t.pos)) i dC sG qt).mono ?_;rintro e w2 ⟨rfl,sS,rS⟩;have sY:=rS.size)|(go_at_call 50;refine(HN.out _ uM.out).mono ?_;rintro e w1 ⟨rfl,rR⟩;have tF:=rR.size;have rX:=Ba (S:=p.S) (aC rR (aA w1 (dT 0 t.text t.n t.pos)));have vW:=uM.out.later rR;have sG:=vW.later (aA w1 (dT 0 t.text t.n t.pos));have vM:w1.heap.size≠p.pb:=YM;have xD:(w1.alloc (dT 0 t.text t.n t.pos)).heap.size=w1.heap.size+1:=YR))
 ·exact⟨rfl,Ran.bad' (HR.out.trans (PR.bnd_bad uX)) ((Ba (aA _ _)).trans (rX.trans (rS.trans (sB.trans (rY.trans (sC.trans sH))))))⟩
 ·exact⟨rfl,Ran.bad' (HR.out.trans ((PR.bnd_ok uX).trans (PR.bnd_bad (PR.bnd_bad tJ)))) ((Ba (aA _ _)).trans (rX.trans (rS.trans (sB.trans (rY.trans (sC.trans (sH.trans sF)))))))⟩
 ·exact⟨rfl,Ran.bad' (HR.out.trans ((PR.bnd_ok uX).trans (PR.bnd_bad ((PR.bnd_ok tJ).trans (PR.bnd_bad uD))))) ((Ba (aA _ _)).trans (rX.trans (rS.trans (sB.trans (rY.trans (sC.trans (sH.trans (sF.trans tO))))))))⟩
 have n7:w7.heap.size≠p.pb:=YM;have hs7:(w7.alloc (aN opa na sa ma pa qa ra ta ua va)).heap.size=w7.heap.size+1:=YR;have hzq:=DL.size;have hT8:w8.heap[w1.heap.size]? =some (dT 0 t.text t.n t.pos):=tO.heap vM (sF.heap vM (sH.heap vM (sC.heap vM zK.out)));have RL:w8.heap[w7.heap.size]? =some (aN opa na sa ma pa qa ra ta ua va):=DL.heap n7 (bY w7 _);have J7:=zh ((tO.heap rO (sF.heap rO (sH.heap rO (sC.heap rO (rY.heap rO (sB.heap rO (rS.heap rO (rX.heap rO (bY w _))))))))));have RZ:=zh (aI.off zJ tO (fun b hb hn=>by have hb:b=p.pb:=hb;have hn:w6.heap.size<=b:=hn;omega));have R5:=zh ((Ba (aA _ _)).trans (rX.trans (rS.trans (sB.trans (rY.trans (sC.trans (sH.trans (sF.trans tO))))))));have sA:=zh (HR.out.trans ((PR.bnd_ok uX).trans (PR.bnd_ok ((PR.bnd_ok tJ).trans (PR.bnd_ok uD)))));have hj6:=(dJ uX).1;have OT:=(dJ uD).1;have SC:=zh yN;clear zJ rX rS sB rY sC sH sF tO hq6 DL uX tJ uD HR b1 f1 t0 t1 t2 t3 vW sG sS uF uA uS vN uE yN;refine wp_region_held_drew (S:=(fun W=>W.heap[w1.heap.size]? =some (dT 0 t.text t.n t.pos)/\W.heap[w7.heap.size]? =some (aN opa na sa ma pa qa ra ta ua va))) YN ⟨hT8,RL⟩ fun hS=>?_;refine zq 0 (.pointer (some ⟨w1.heap.size,1,none⟩)) rfl ?_;refine zt 1 (.string t.text) rfl (fun W hW=>by obtain⟨t0,t1,t2,t3⟩:=bx4 hW.1;go_simp) ?_;refine zt 3 (eK opa na sa ma pa qa ra ta ua va) rfl (fun W hW=>by obtain⟨⟨c0,c1,c2,c3,c4,c5⟩,-⟩:=bx6 hW.2;go_simp) ?_;try simp only[zn]
 refine wpAnyH_ready (rs:=[2,4]) YN YR ?_;refine AllReadyH.cons rfl (fun K hK=>?_) (AllReadyH.cons rfl (fun K hK=>?_) AllReadyH.nil)
 ·rw[if_pos YN];go_simp;refine(jN t.text w8.drew (SC.out.later (aE _)).spc).mono ?_;rintro e w9 ⟨rfl,vG⟩;have CT:w8.heap.size<=w9.heap.size:=vG.size;have xM:=aC (aE w8) vG;refine hK.out _ _ ⟨aH xM hT8,aH xM RL⟩ (fun hS=>?_);clear hK K;try simp only[zn]
  refine zr 4 rfl (fun K hK=>?_);go_simp;have hT9:=aH (aA w9 (aN opa na sa ma pa qa ra ta ua va)) (aH xM hT8);have hB9:=aH (aA w9 (aN opa na sa ma pa qa ra ta ua va)) (aH xM RL);refine hK.out _ _ ⟨hT9,hB9⟩ (fun hS=>?_);clear hK K;try simp only[zn]
  have UV:=R5.out.trans ((Ba xM).trans (Ba (aA w9 (aN opa na sa ma pa qa ra ta ua va))))
  have GF:aO 6 bN (bQ w6.heap.size) (w9.alloc (aN opa na sa ma pa qa ra ta ua va)) (.slice (some ⟨w9.heap.size,0,none⟩) 1 1) [xa]:=aO.of_block (css:=[[.int .i64 opa,.int .i64 na,.string sa,.string ma,.slice pa qa ra,.slice ta ua va]]) (bY w9 _) (by show w6.heap.size<=w9.heap.size;omega) rfl YR (fun i y c hy hc=>by
   match i,hy,hc with
   |0,hy,hc=>cases hy;cases hc;exact aI _ _ _ _ _ _ (bU.later (aC xM (aA w9 _))) RZ.out) rfl YO
  have C4:=aH (aA w9 (aN opa na sa ma pa qa ra ta ua va)) (aH xM J7.out);obtain⟨⟨r0,r1,r2,r3,r4,r5⟩,g0,g1,g2,g3,g4,g5⟩:=bx6 C4;refine zq 5 (eK 16 (bR t.text) ⟨#[]⟩ ⟨#[]⟩ none 0 0 (some ⟨w9.heap.size,0,none⟩) 1 1) rfl ?_;try simp only[zn]
  refine zr 6 rfl (fun K hK=>?_);go_simp;have hE:=iO (N:=bQ w6.heap.size) (x:=.mk 16 (bR t.text) noB noB [] [xa]) (op:=16) (n:=bR t.text) (s:=⟨#[]⟩) (m:=⟨#[]⟩) (a1:=none) (n1:=0) (c1:=0) (a2:=some ⟨w9.heap.size,0,none⟩) (n2:=1) (c2:=1) HW.out UV (SC.out.later (aC xM (aA w9 _))) aBv (fun b hb=>aAq);have J4:=qQ (w9.alloc (aN opa na sa ma pa qa ra ta ua va)) w.heap.size (.int .i64 16) (.int .i64 (bR t.text)) (.string ⟨#[]⟩) (.string ⟨#[]⟩) (.slice none 0 0) (.slice (some ⟨w9.heap.size,0,none⟩) 1 1);have hTz:=J4.heap YM hT9;have hBz:=J4.heap YM hB9;unfold iP at hE hTz hBz;refine hK.out _ _ ⟨hTz,hBz⟩ (fun hS=>?_);clear hK K;try simp only[zn]
  refine wpAnyH_done YN ?_ _;go_wp2_with fail;refine bodyPost_ret (v:=eK 16 (bR t.text) ⟨#[]⟩ ⟨#[]⟩ none 0 0 (some ⟨w9.heap.size,0,none⟩) 1 1) YX rfl ?_;exact Ran.good (by rw[<-wG.out] at *;exact sA.out) ⟨⟨16,bR t.text,⟨#[]⟩,⟨#[]⟩,none,0,0,some ⟨w9.heap.size,0,none⟩,1,1,rfl,hE.1⟩,hE.2.1,YM⟩ hE.2.2
 rw[if_pos YN];go_simp;have PD:Below w8.heap.size w8 ((w8.alloc (aN opa na sa ma pa qa ra ta ua va)).drew):=(aA w8 (aN opa na sa ma pa qa ra ta ua va)).drew;refine hK.out _ _ ⟨aH PD hT8,aH PD RL⟩ (fun hS=>?_);clear hK K;try simp only[zn]
 refine zr 2 rfl (fun K hK=>?_);go_simp;refine(jN t.text ((w8.alloc (aN opa na sa ma pa qa ra ta ua va)).drew) (SC.out.later PD).spc).mono ?_;rintro e w9 ⟨rfl,vG⟩;have xM:=aC PD vG;have CT:=xM.size;have hT9:=aH xM hT8;have hB9:=aH xM RL;refine hK.out _ _ ⟨hT9,hB9⟩ (fun hS=>?_);clear hK K;try simp only[zn]
 have UV:=R5.out.trans (Ba xM);have uI:w9.heap[w8.heap.size]? =some (aN opa na sa ma pa qa ra ta ua va):=aH vG (aH (aE _) (bY w8 _))
 have GF:aO 6 bN (bQ w6.heap.size) w9 (.slice (some ⟨w8.heap.size,0,none⟩) 1 1) [xa]:=aO.of_block (css:=[[.int .i64 opa,.int .i64 na,.string sa,.string ma,.slice pa qa ra,.slice ta ua va]]) uI (by show w6.heap.size<=w8.heap.size;omega) rfl YR (fun i y c hy hc=>by
  match i,hy,hc with
  |0,hy,hc=>cases hy;cases hc;exact aI _ _ _ _ _ _ (bU.later xM) RZ.out) rfl YO
 have C4:=aH xM J7.out;obtain⟨⟨r0,r1,r2,r3,r4,r5⟩,g0,g1,g2,g3,g4,g5⟩:=bx6 C4;refine zq 5 (eK 16 (bR t.text) ⟨#[]⟩ ⟨#[]⟩ none 0 0 (some ⟨w8.heap.size,0,none⟩) 1 1) rfl ?_;try simp only[zn]
 refine zr 6 rfl (fun K hK=>?_);go_simp;have hE:=iO (N:=bQ w6.heap.size) (x:=.mk 16 (bR t.text) noB noB [] [xa]) (op:=16) (n:=bR t.text) (s:=⟨#[]⟩) (m:=⟨#[]⟩) (a1:=none) (n1:=0) (c1:=0) (a2:=some ⟨w8.heap.size,0,none⟩) (n2:=1) (c2:=1) HW.out UV (SC.out.later xM) aBv (fun b hb=>aAq);have J4:=qQ w9 w.heap.size (.int .i64 16) (.int .i64 (bR t.text)) (.string ⟨#[]⟩) (.string ⟨#[]⟩) (.slice none 0 0) (.slice (some ⟨w8.heap.size,0,none⟩) 1 1);have hTz:=J4.heap YM hT9;have hBz:=J4.heap YM hB9;unfold iP at hE hTz hBz;refine hK.out _ _ ⟨hTz,hBz⟩ (fun hS=>?_);clear hK K;try simp only[zn]
 refine wpAnyH_done YN ?_ _;go_wp2_with fail;refine bodyPost_ret (v:=eK 16 (bR t.text) ⟨#[]⟩ ⟨#[]⟩ none 0 0 (some ⟨w8.heap.size,0,none⟩) 1 1) YX rfl ?_;exact Ran.good (by rw[<-wG.out] at *;exact sA.out) ⟨⟨16,bR t.text,⟨#[]⟩,⟨#[]⟩,none,0,0,some ⟨w8.heap.size,0,none⟩,1,1,rfl,hE.1⟩,hE.2.1,YM⟩ hE.2.2
theorem primary_ok(p:Prs)(f:Nat)(hE:iL p f)(uL:nO p f):PrimOk p f:=fun i w h uK=>by
 by_cases k1:(aL p.l i).kind=1
 ·exact prim_num p f hE uL w i h uK k1
 cases qt:isP p.l i dC with
 |true=>exact prim_true p f hE uL w i h uK k1 qt
 |false=>
  cases qf:isP p.l i cB with
  |true=>exact prim_false p f hE uL w i h uK k1 qt qf
  |false=>
   cases qg:isP p.l i iC with
   |true=>exact prim_get p f hE uL w i h uK k1 qt qf qg
   |false=>
    by_cases k0:(aL p.l i).kind=0
    ·by_cases kb:bR (aL p.l i).text=0
     ·cases qb:isP p.l i bH with
      |true=>exact prim_record_z p f hE uL w i h uK k1 qt qf qg k0 kb qb
      |false=>
       cases qo:isP p.l i aX with
       |true=>exact prim_paren_z p f hE uL w i h uK k1 qt qf qg qb k0 kb qo
       |false=>
        cases qc:isP p.l (i+1) aX with
        |true=>exact prim_call_z p f hE uL w i h uK k1 qt qf qg qb qo k0 kb qc
        |false=>
         cases qd:fJ p.l (i+1) with
         |true=>exact prim_method_z p f hE uL w i h uK k1 qt qf qg qb qo k0 kb qc qd
         |false=>exact prim_var_z p f hE uL w i h uK k1 qt qf qg qb qo k0 kb qc qd
     exact prim_act_z p f hE uL w i h uK k1 qt qf qg k0 kb
    cases qb:isP p.l i bH with
    |true=>exact prim_record_n p f hE uL w i h uK k1 qt qf qg k0 qb
    |false=>
     cases qo:isP p.l i aX with
     |true=>exact prim_paren_n p f hE uL w i h uK k1 qt qf qg qb k0 qo
     |false=>
      cases qc:isP p.l (i+1) aX with
      |true=>exact prim_call_n p f hE uL w i h uK k1 qt qf qg qb qo k0 qc
      |false=>
       cases qd:fJ p.l (i+1) with
       |true=>exact prim_method_n p f hE uL w i h uK k1 qt qf qg qb qo k0 qc qd
       |false=>exact prim_var_n p f hE uL w i h uK k1 qt qf qg qb qo k0 qc qd
def encXo(o:Option Nat)(N:Nat->Prop)(w:World)(x:Xp)(cs:List Value):Prop:=bN (fun b=>N b/\o≠some b) w x cs
theorem encXo_ok(o:Option Nat):fL (encXo o):=fun _ _ _ _ _ _ hm h=>aI _ _ _ _ _ _ (fun b hb hl=>⟨⟨(hm b hb.1 hl).1,hb.2⟩,(hm b hb.1 hl).2⟩) h
theorem Gro.change{α:Type}{k:Nat}{T:TypeId}{enc enc':(Nat->Prop)->World->α->List Value->Prop}{B:Nat}{l:List α}{css:List (List Value)}{v:Value}{w w':World}(h:Gro k T enc B l css v w)
  (hs:w.heap.size<=w'.heap.size) (ho:∀b,v.ownBlock=some b->w'.heap[b]? =w.heap[b]?) (he:∀x c,enc (mO B v) w x c->enc' (mO B v) w' x c):Gro k T enc' B l css v w':=by
 refine⟨?_,h.len,h.ks,fun i x c hx hc=>he x c (h.enc i x c hx hc),Nat.le_trans h.big hs⟩;obtain⟨h1,h2⟩:=h.own;refine⟨h1,?_⟩;rcases h2 with h2|⟨g,cap,cur,hv,hg,D9,r⟩
 ·exact .inl h2
 exact .inr ⟨g,cap,cur,hv,hg,(ho g (by rw[hv];rfl)).trans D9,r⟩
structure RecL (p:Prs) (W:World) (b3 B:Nat) (names:List bA) (cn:List (List Value)) (args:List Xp) (ca:List (List Value)) (vn va:Value) (wr:World):Prop where
 off:Off p.S W wr
 res:wr.heap[W.heap.size]? =some (.cells bW 35)
 loc:wr.heap[b3]? =some (oBx25 13 0 ⟨#[]⟩ ⟨#[]⟩ vn va)
 nam:Gro 1 9 dD B names cn vn wr
 arg:Gro 6 35 (encXo vn.ownBlock) B args ca va wr
 b3:W.heap.size<b3/\b3<B
 pb:p.pb<W.heap.size
 disj:∀b,vn.ownBlock=some b->va.ownBlock≠some b
section
variable {p:Prs} {W wr w':World} {b3 B:Nat} {names:List bA} {cn ca:List (List Value)} {args:List Xp} {vn va:Value}
theorem RecL.next(h:RecL p W b3 B names cn args ca vn va wr)(ho:Off p.S wr w'):RecL p W b3 B names cn args ca vn va w':=by
 have wQ:=h.pb;have hb:=h.b3;have hs:dF B wr w':=dF.of_off ho fun b rQ=>.inl (by have rQ:b=p.pb:=rQ;omega);exact⟨h.off.trans ho,ho.heap (fun e=>by have e:W.heap.size=p.pb:=e;omega) h.res,ho.heap (fun e=>by have e:b3=p.pb:=e;omega) h.loc,h.nam.stays aV hs,h.arg.stays (encXo_ok _) hs,hb,wQ,h.disj⟩
theorem RecL.addName{w8 sV:World}{g cap n1:Nat}{s:bA}(h:RecL p W b3 B names cn args ca vn va w8)(hs:s.size<=8000)
  (rP:sV.ownsRow B 9 1 (.slice (some ⟨g,0,none⟩) n1 cap) n1 (cn.flatten++[.string s])) (hn:n1=names.length+1) (rN:(w8.alloc (iH s)).grownBy sV vn.ownBlock) (sD:vn.ownBlock=some g\/g=w8.heap.size+1):
  sV.heap[b3]? =some (oBx25 13 0 ⟨#[]⟩ ⟨#[]⟩ vn va)/\
  RecL p W b3 B (names++[s]) (cn++[[.string s]]) args ca (.slice (some ⟨g,0,none⟩) n1 cap) va (sV.setCell ⟨b3,4,none⟩ (.slice (some ⟨g,0,none⟩) n1 cap))/\
  Off (fun b=>W.heap.size<=b) w8 (sV.setCell ⟨b3,4,none⟩ (.slice (some ⟨g,0,none⟩) n1 cap)):=by
 subst hn;have hb:=h.b3;have wQ:=h.pb;have h9:=h.next (Ba (aA w8 (iH s)));have rU:=h9.nam.lt;have ST:=h9.arg.lt;have CT:(w8.alloc (iH s)).heap.size=w8.heap.size+1:=YR;have tV:=h9.nam.big;have AT:Off (fun b=>vn.ownBlock=some b) (w8.alloc (iH s)) sV:=⟨rN.os,rN.tape,rN.output,rN.size,fun b hb hn=>rN.block b hb (fun e=>hn e.symm)⟩;have N1:Off (fun b=>b=b3) sV (sV.setCell ⟨b3,4,none⟩ (.slice (some ⟨g,0,none⟩) (names.length+1) cap)):=Off.setCell (S:=fun b=>b=b3) sV rfl;have nb3:¬vn.ownBlock=some b3:=fun e=>by have:=(rU b3 e).1;omega
 have LA:sV.heap[b3]? =_:=AT.heap nb3 h9.loc;have oa:Off (fun b=>vn.ownBlock=some b\/b=b3) (w8.alloc (iH s)) (sV.setCell ⟨b3,4,none⟩ (.slice (some ⟨g,0,none⟩) (names.length+1) cap)):=(AT.mono fun b h=>.inl h).trans (N1.mono fun b h=>.inr h)
 have obig:Off (fun b=>W.heap.size<=b) (w8.alloc (iH s)) (sV.setCell ⟨b3,4,none⟩ (.slice (some ⟨g,0,none⟩) (names.length+1) cap)):=oa.mono fun b h=>by
  rcases h with h|h
  ·have:=(rU b h).1;omega
  omega
 have hg:∀b,b<w8.heap.size+1->vn.ownBlock≠some b->b≠g:=fun b hb hn e=>by
  subst e;rcases sD with h1|h1
  ·exact hn h1
  omega
 have hA:=h9.nam.added aV (x:=s) ⟨rfl,YM⟩ rfl rP rN aBm;refine⟨LA,⟨?_,?_,?_,hA.stays aV (dF.of_off N1 fun b rQ=>.inl YM),?_,hb,wQ,fun b rQ e=>?_⟩,(Ba (aA _ _)).trans obig⟩
 ·exact Off.fresh ((h9.off.or _).trans (obig.mono fun b h=>.inr h)) (Nat.le_refl _)
 ·exact oa.heap (fun h=>h.elim (fun h=>by have:=(rU _ h).1;omega) (fun h=>YM)) h9.res
 ·rw[aT LA];rfl
 ·refine h9.arg.change (by have:=rN.size;rw[gC];exact this) (fun b rQ=>oa.block b (ST b rQ).2 (fun h=>?_)) (fun x c hx=>?_)
  ·rcases h with h|h
   ·exact h9.disj b h rQ
   have:=(ST b rQ).1;omega
  refine aI _ _ _ _ _ _ (fun b rQ hl=>⟨⟨rQ.1,fun e=>?_⟩,fun o u hu=>oa.cell (fun h=>?_) hu⟩) hx
  ·have e:g=b:=aAD;exact hg b (by rw[<-CT];exact hl) rQ.2 e.symm
  rcases h with h|h
  ·exact rQ.2 h
  have:=rQ.1.1;omega
 have rQ:g=b:=by simpa[Value.ownBlock] using rQ
 subst rQ;rcases sD with h1|h1
 ·exact h9.disj g h1 e
 have:=(ST g e).2;have:=(h.arg.lt g e).2;omega
theorem RecL.addArg{yB tH vS:World}{g cap n1:Nat}{x:Xp}{cs:List Value}(h:RecL p W b3 B names cn args ca vn va yB)(ho:Off p.S yB tH)(hx:bN (bQ yB.heap.size) tH x cs)(hl:cs.length=6)
  (rP:vS.ownsRow B 35 6 (.slice (some ⟨g,0,none⟩) n1 cap) n1 (ca.flatten++cs)) (hn:n1=args.length+1) (rN:(tH.alloc (.cells cs.toArray 35)).grownBy vS va.ownBlock) (sD:va.ownBlock=some g\/g=tH.heap.size+1):
  vS.heap[b3]? =some (oBx25 13 0 ⟨#[]⟩ ⟨#[]⟩ vn va)/\
  RecL p W b3 B names cn (args++[x]) (ca++[cs]) vn (.slice (some ⟨g,0,none⟩) n1 cap) (vS.setCell ⟨b3,5,none⟩ (.slice (some ⟨g,0,none⟩) n1 cap))/\
  Off (fun b=>W.heap.size<=b) tH (vS.setCell ⟨b3,5,none⟩ (.slice (some ⟨g,0,none⟩) n1 cap)):=by
 subst hn;have hb:=h.b3;have wQ:=h.pb;have AG:=h.next ho;have h9:=AG.next (Ba (aA tH (.cells cs.toArray 35)));have rU:=h9.arg.lt;have hltn:=h9.nam.lt;have hlt11:=h.arg.lt;have K8:=h.nam.lt;have CT:(tH.alloc (.cells cs.toArray 35)).heap.size=tH.heap.size+1:=YR;have hz12:=ho.size;have hbig11:=h.nam.big;have AT:Off (fun b=>va.ownBlock=some b) (tH.alloc (.cells cs.toArray 35)) vS:=⟨rN.os,rN.tape,rN.output,rN.size,fun b hb hn=>rN.block b hb (fun e=>hn e.symm)⟩;have N1:Off (fun b=>b=b3) vS (vS.setCell ⟨b3,5,none⟩ (.slice (some ⟨g,0,none⟩) (args.length+1) cap)):=Off.setCell (S:=fun b=>b=b3) vS rfl;have nb3:¬va.ownBlock=some b3:=fun e=>by have:=(rU b3 e).1;omega
 have LA:vS.heap[b3]? =_:=AT.heap nb3 h9.loc;have oa:Off (fun b=>va.ownBlock=some b\/b=b3) (tH.alloc (.cells cs.toArray 35)) (vS.setCell ⟨b3,5,none⟩ (.slice (some ⟨g,0,none⟩) (args.length+1) cap)):=(AT.mono fun b h=>.inl h).trans (N1.mono fun b h=>.inr h)
 have obig:Off (fun b=>W.heap.size<=b) (tH.alloc (.cells cs.toArray 35)) (vS.setCell ⟨b3,5,none⟩ (.slice (some ⟨g,0,none⟩) (args.length+1) cap)):=oa.mono fun b h=>by
  rcases h with h|h
  ·have:=(rU b h).1;omega
  omega
 have hxo:encXo vn.ownBlock (mO B va) (tH.alloc (.cells cs.toArray 35)) x cs:=aI _ _ _ _ _ _ (fun b rQ hl=>⟨⟨⟨by have rQ:yB.heap.size<=b:=rQ;omega,fun e=>by have rQ:yB.heap.size<=b:=rQ;have:=(hlt11 b e).2;omega⟩,fun e=>by have rQ:yB.heap.size<=b:=rQ;have:=(K8 b e).2;omega⟩,fun o u hu=>aD (aA _ _) hu⟩) hx;have hA:=h9.arg.added (encXo_ok _) hxo hl rP rN aBm;refine⟨LA,⟨?_,?_,?_,?_,hA.stays (encXo_ok _) (dF.of_off N1 fun b rQ=>.inl YM),hb,wQ,fun b rQ e=>?_⟩,(Ba (aA _ _)).trans obig⟩
 ·exact Off.fresh ((h9.off.or _).trans (obig.mono fun b h=>.inr h)) (Nat.le_refl _)
 ·exact oa.heap (fun h=>h.elim (fun h=>by have:=(rU _ h).1;omega) (fun h=>YM)) h9.res
 ·rw[aT LA];rfl
 ·refine h9.nam.change (by have:=rN.size;rw[gC];exact this) (fun b rQ=>oa.block b (hltn b rQ).2 (fun h=>?_)) (fun x c hx=>hx);rcases h with h|h
  ·exact h9.disj b rQ h
  have:=(hltn b rQ).1;omega
 have e:g=b:=aAD;subst e;rcases sD with h1|h1
 ·exact h9.disj g rQ h1
 have:=(K8 g rQ).2;omega
theorem RecL.exp(h:RecL p W b3 B names cn args ca vn va wr):bN (bQ B) wr (.mk 13 0 noB noB names args) [.int .i64 13,.int .i64 0,.string ⟨#[]⟩,.string ⟨#[]⟩,vn,va]:=by
 rw[aU];refine⟨vn,va,rfl,YO,YO,h.nam.row aV,?_⟩;obtain⟨a,c,h1,h2,h3,h4⟩:=h.arg.row (encXo_ok _);refine⟨a,c,h1,h2,h3,fun rO=>?_⟩;obtain⟨b,o,rR,rQ,tI⟩:=h4 rO;refine⟨b,o,rR,rQ,fun i x hx=>?_⟩;obtain⟨cs,e1,e2,e3⟩:=tI i x hx;exact⟨cs,aI.wide e1 (fun b hb _=>hb.1),e2,e3⟩
end
end Go.Proofs.YtiionicikdnnpaaGreatDoor
namespace Go.Proofs.YtiionicikdnnpaaGreatDoor
open Go.RowKit
theorem VG{p:Prop}(h:p:=by
 refine hK.out _ _ trivial (fun hS=>?_);clear hK K;try simp only[zn]
 have RK:=yU.out.next (Ba (aE yB));have A6:=yT.out.next (Ba (aA tH (aN opc nc sc mc pc qc rc tc uc vc)));have tP:=A6.arg.big;refine wpAnyH_ready (rs:=[5]) YN YR ?_;refine AllReadyH.cons rfl (fun K hK=>?_) AllReadyH.nil;refine step_append_lies (tH.alloc (aN opc nc sc mc pc qc rc tc uc vc)) rfl _ _ 25 rfl B 35 i0 (eK 0 0 ByteArray.empty ByteArray.empty none 0 0 none 0 0) 6 96 Tryz.underlying25 xK vA tF sY rfl YM (.slice a2 args.length c2) args.length ca.flatten ZV A6.arg.own ⟨tH.heap.size,0,none⟩ 1 1 [.int .i64 opc,.int .i64 nc,.string sc,.string mc,.slice pc qc rc,.slice tc uc vc] ZV rfl (World.news_of_block (cs:=#[.int .i64 opc,.int .i64 nc,.string sc,.string mc,.slice pc qc rc,.slice tc uc vc]) (t:=35) (fr:=(0,0)) (bY tH _)) Y3 YM Y7 YM tP (tH.heap.size+1) YR ?_;intro g' cap' vS rP rN sD _;obtain⟨C6,EO,oB⟩:=RK.addArg sK JC rfl rP rfl rN sD;have E9:=zh (HW.out.above tR oB);have E5:=zh EO;have tW:=zh (L9.out.trans (PR.bnd_ok tC));clear rP rN sD EO oB A6 tP RK tR sK JC tC yT;refine hK.out _ _ trivial (fun hS=>?_);clear hK K;refine zq 6 (.pointer (some ⟨w.heap.size+1,5,none⟩)) rfl ?_;try simp only[zn]
 refine zr 7 rfl (fun K hK=>?_);try simp only[z1,z2,z3]
 obtain⟨⟨c0,c1,c2,c3,c4,c5⟩,h0,h1,h2,h3,h4,h5⟩:=bx6 C6;go_simp;clear c0 c1 c2 c3 c4 c5 h0 h1 h2 h3 h4 h5 C6;refine hK.out _ _ trivial (fun hS=>?_);clear hK K;try simp only[zn]
 refine wpAnyH_done YN ?_ _;clear hS yU DI HE;generalize vS.setCell ⟨w.heap.size+1,5,none⟩ (.slice (some ⟨g',0,none⟩) (args.length+1) cap')=CS at *;have hjl:=E9.out.lt;go_wp2_with(first|(go_at_call 110;refine(eA p M8 xE dH (by have h:=vI;rw[if_neg aAY] at h;exact h)).mono ?_;rintro e w16 (⟨x16,yY,rfl,D4⟩|⟨⟨⟩,k16,yY,⟨rfl,LZ⟩,D4⟩)<;>have yA:=zh (E5.out.next (uC.trans D4))<;>obtain⟨⟨c0,c1,c2,c3,c4,c5⟩,h0,h1,h2,h3,h4,h5⟩:=bx6 yA.out.loc<;>obtain⟨⟨r0,r1,r2,r3,r4,r5⟩,g0,g1,g2,g3,g4,g5⟩:=bx6 yA.out.res)|(go_at_call 120;refine(oF p CS xE aY E9.out).mono ?_;rintro e M8 ⟨rfl,vI,uC⟩))
 ·have tE:¬isP p.l xE aY=true:=aAY;exact⟨rfl,Ran.bad' (tW.out.trans ((if_neg tE).trans (PR.bnd_bad yY))) yA.out.off⟩
 ·have tE:¬isP p.l xE aY=true:=aAY;have hk16:=(dJ yY).1;have hE:=iO HW.out yA.out.off LZ yA.out.exp (fun b hb=>aA1);unfold iP at hE;refine bodyPost_ret (v:=eK 13 0 ⟨#[]⟩ ⟨#[]⟩ (some ⟨g,0,none⟩) (names.length+1) cap (some ⟨g',0,none⟩) (args.length+1) cap') (by simp[results,Tryz.results219,go_sem,r0,r1,r2,r3,r4,r5]) rfl ?_;exact Ran.good (tW.out.trans ((if_neg tE).trans (PR.bnd_ok yY))) ⟨⟨13,0,⟨#[]⟩,⟨#[]⟩,_,_,_,_,_,_,rfl,hE.1⟩,hE.2.1,YM⟩ hE.2.2
 have tE:isP p.l xE aY=true:=by simpa using ‹(!isP p.l xE aY)=false›
 rw[if_pos tE] at vI;have NK:=vI.lt;have MV:=zh (E5.out.next uC);have E8:=zh vI;have C7:=zh (tW.out.trans (if_pos tE));obtain⟨F',wE⟩:∃F',F=F'+1:=⟨F-1,YM⟩;clear vI uC tE;go_roundw
 case rel=>
  subst wE;exact⟨xE+1,F',s,names++[s],_,_,args++[xc],some ⟨g,0,none⟩,cap,some ⟨g',0,none⟩,cap',rfl,by simpa using MV,E8,C7,zh ⟨YM,YM,Y9,by have:=HB.out.2.2.2;simp;omega⟩⟩
 case measure=>
  rw[E8.out.pos,HA.out.pos];omega):p:=h
theorem X8{p:Prop}(h:p:=by
 go_wp2_with fail
 exact⟨rfl,Ran.bad' (L9.out.trans (PR.bnd_bad tC)) (yU.out.off.trans ((Ba (aE yB)).trans sK))⟩):p:=h
theorem strInfo1:(Tryz.prog.info? 9).map (fun i=>(i.zero,i.size,i.bytes))=some (some (.string ByteArray.empty),1,16):=YN
theorem Gro.slice{α:Type}{k:Nat}{T:TypeId}{enc:(Nat->Prop)->World->α->List Value->Prop}{B:Nat}{l:List α}{css:List (List Value)}{v:Value}{w:World}(h:Gro k T enc B l css v w):∃a c,v=.slice a l.length c:=by
 rcases h.val with⟨rfl,rfl⟩|⟨g,cap,rfl,-,-⟩
 ·exact⟨_,_,rfl⟩
 exact⟨_,_,rfl⟩
section
variable {l:List Tok} {rec:RecP} {F q:Nat} {names:List bA} {args:List Xp} {last:bA}
theorem recFrom_step(hq:cP l q=true)(hr:fD l q names.length 8=.ok ((),q)):dA l rec (F+1) names args last q=
  (fP l q last (decide (0<names.length))).bnd fun s j=>(eB l j kEq).bnd fun _ j2=>(rec 0 j2).bnd fun e j3=>
   if isP l j3 aY then dA l rec F (names++[s]) (args++[e]) s (j3+1) else(eB l j3 dH).bnd fun _ k=>.ok (.mk 13 0 noB noB (names++[s]) (args++[e]),k):=by
 rw[dA,if_pos hq,hr];rfl
theorem recFrom_full(hq:cP l q=true){x:Int×Int}(hr:fD l q names.length 8=.error x):dA l rec (F+1) names args last q=.error x:=by
 rw[dA,if_pos hq,hr];rfl
theorem recFrom_noname(hq:cP l q=false):dA l rec (F+1) names args last q=.error ((aL l q).pos,11):=by
 rw[dA,if_neg aAI];unfold fP;rw[hq];rfl
end
theorem record_any(p:Prs)(f:Nat)(hE:iL p f):nO p f:=fun i w h uK=>by
 obtain⟨i0,xK,vA,tF,sY⟩:=info_parts xpInfo;obtain⟨i1,I8,H5,H4,FD⟩:=info_parts strInfo1;have HE:=zh hE;have HW:=zh h;have hlen:=h.len;have wQ:=h.blt;have rO:w.heap.size≠p.pb:=YM;have hne1:w.heap.size+1≠p.pb:=YM;have tS:(w.alloc (.cells bW 35)).heap.size=w.heap.size+1:=YR;have xD:((w.alloc (.cells bW 35)).alloc (aN 13 0 ⟨#[]⟩ ⟨#[]⟩ none 0 0 none 0 0)).heap.size=w.heap.size+2:=YR;have BA:Below w.heap.size w ((w.alloc (.cells bW 35)).alloc (aN 13 0 ⟨#[]⟩ ⟨#[]⟩ none 0 0 none 0 0)):=aC (aA _ _) (aA _ _);have HBA:=zh BA;have HAa:=zh (h.later BA);have HRa:=zh (aH (aA (w.alloc (.cells bW 35)) (aN 13 0 ⟨#[]⟩ ⟨#[]⟩ none 0 0 none 0 0)) (bY w (.cells bW 35)));have hLa:=bY (w.alloc (.cells bW 35)) (aN 13 0 ⟨#[]⟩ ⟨#[]⟩ none 0 0 none 0 0);rw[tS] at hLa;have HLa:=zh hLa;clear h hE BA hLa
 cases wI:isP p.l i dH with
 |true=>
  have HH:=zh (gM p ((w.alloc (.cells bW 35)).alloc (aN 13 0 ⟨#[]⟩ ⟨#[]⟩ none 0 0 none 0 0)) i dH HAa.out wI);have HR:Hid (kV p.l (bM p.l f) i=.ok (.mk 13 0 noB noB [] [],i+1)):=zh (by unfold kV;rw[if_pos wI]);clear wI;go_enter Tryz.func219,Tryz.ntmps219;go_wp2_with(go_at_call 120;refine HH.out.mono ?_;rintro e w2 ⟨rfl,sS,rS⟩;have hR2:=rS.heap rO HRa.out;have hL2:=rS.heap hne1 HLa.out;obtain⟨⟨r0,r1,r2,r3,r4,r5⟩,g0,g1,g2,g3,g4,g5⟩:=bx6 hR2;obtain⟨⟨c0,c1,c2,c3,c4,c5⟩,h0,h1,h2,h3,h4,h5⟩:=bx6 hL2);have hE:=iO (N:=fun _=>False) (x:=.mk 13 0 noB noB [] []) (op:=13) (n:=0) (s:=⟨#[]⟩) (m:=⟨#[]⟩) (a1:=none) (n1:=0) (c1:=0) (a2:=none) (n2:=0) (c2:=0) HW.out ((Ba HBA.out).trans rS) sS ZN (fun b hb=>hb.elim);unfold iP at hE;refine bodyPost_ret (v:=eK 13 0 ⟨#[]⟩ ⟨#[]⟩ none 0 0 none 0 0) (by simp[results,Tryz.results219,go_sem,r0,r1,r2,r3,r4,r5]) rfl ?_;exact Ran.good HR.out ⟨⟨13,0,⟨#[]⟩,⟨#[]⟩,none,0,0,none,0,0,rfl,hE.1⟩,hE.2.1,YM⟩ hE.2.2
 |false=>
  have HH:=zh (bG p ((w.alloc (.cells bW 35)).alloc (aN 13 0 ⟨#[]⟩ ⟨#[]⟩ none 0 0 none 0 0)) i dH HAa.out wI);have HR:Hid (kV p.l (bM p.l f) i=dA p.l (bM p.l f) (p.l.length+1) [] [] noB i):=zh (by unfold kV;rw[if_neg (by rw[wI];simp)]);clear wI;go_enter Tryz.func219,Tryz.ntmps219;go_wp2_with(go_at_call 120;refine HH.out.mono ?_;rintro e w2 ⟨rfl,sS,rS⟩);have SH:=rS.size;have U2:Hid (RecL p w (w.heap.size+1) w2.heap.size [] [] [] [] (.slice none 0 0) (.slice none 0 0) w2):=zh ⟨(Ba HBA.out).trans rS,rS.heap rO HRa.out,rS.heap hne1 HLa.out,Gro.first _ _ _ _,Gro.first _ _ _ _,⟨YM,YM⟩,wQ,fun b hb=>by cases hb⟩;have CQ:=zh sS;have hb3B:w.heap.size+1<w2.heap.size:=YM;clear sS rS HH HRa HLa HAa HBA xD SH;generalize w2.heap.size=B at *;go_loopw [4] (fun sl wr=>∃(q F:Nat)(last:bA)(names:List bA)(cn ca:List (List Value))(args:List Xp)(a1:Option Addr)(c1:Nat)(a2:Option Addr)(c2:Nat),sl=.string last/\Hid (RecL p w (w.heap.size+1) B names cn args ca (.slice a1 names.length c1) (.slice a2 args.length c2) wr)/\Hid (p.At wr q)/\Hid (kV p.l (bM p.l f) i=dA p.l (bM p.l f) (F+1) names args last q)/\Hid (p.l.length<=F+q/\i<=q/\names.length<=8/\args.length=names.length)) (fun _ wr=>p.l.length-posOf wr p.pb)
  case atStart=>exact⟨i,p.l.length,_,[],[],[],[],none,0,none,0,rfl,U2,CQ,HR,zh ⟨YM,Nat.le_refl _,YO,rfl⟩⟩
  case round=>
   obtain⟨q,F,last,names,cn,ca,args,a1,c1,a2,c2,rfl,HL,HA,sA,HB⟩:=hrel;(rename World=>wr);have AJ:=HB.out.1;have BR:=HB.out.2.1;have SP:=HB.out.2.2.1;(have hq5:args.length<=8:=by have:=HB.out.2.2.2;omega);have D1:=HA.out.lt
   cases xH:cP p.l q with
   |false=>
    ·skip;go_wp2_with(first|(go_at_call 183;refine(oN p w5 q last _ wL.out).mono ?_;rintro e w6 (⟨x,hx,rfl,sH⟩|⟨s,j6,hx,⟨rfl,vN,J0⟩,sH⟩))|(go_at_call 182;refine(jF p wr q HA.out).mono ?_;rintro e w5 ⟨rfl,hb5⟩;rw[xH];have wL:=zh (HA.out.later hb5);have wA:=zh (HL.out.next (Ba hb5));obtain⟨⟨c0,c1',c2',c3,c4,c5⟩,h0,h1,h2,h3,h4,h5⟩:=bx6 wA.out.loc))
     ·exact⟨rfl,Ran.bad' (by have e:=(jX xH).symm.trans hx;cases e;exact sA.out.trans (recFrom_noname xH)) (wA.out.off.trans sH)⟩
     rw[jX xH] at hx;cases hx
   |true=>
    ·skip;go_wp2_with(first|(go_at_call 110;have hj7:=laterP_ok tJ;refine(eA p w7 j7 kEq uE).mono ?_;rintro e w8 (⟨x8,uD,rfl,tO⟩|⟨⟨⟩,j8,uD,⟨rfl,yN⟩,tO⟩)<;>have HL8:=zh (R7.out.next tO)<;>obtain⟨⟨k0,k1,k2,k3,k4,k5⟩,-⟩:=bx6 HL8.out.loc)|(go_at_call 183;have hj6:=qS uX;subst hj6;refine(oN p w6 j6 last _ vN).mono ?_;rintro e w7 (⟨x7,tJ,rfl,sF⟩|⟨s,j7,tJ,⟨rfl,uE,hs7⟩,sF⟩)<;>have R7:=zh (B6.out.next sF))|(go_at_call 113;refine(qR p w5 q names.length 8 wL.out).mono ?_;rintro e w6 (⟨x6,uX,rfl,sH⟩|⟨⟨⟩,j6,uX,⟨rfl,vN⟩,sH⟩)<;>have B6:=zh (wA.out.next sH)<;>obtain⟨⟨e0,e1,e2,e3,e4,e5⟩,-⟩:=bx6 B6.out.loc)|(go_at_call 182;refine(jF p wr q HA.out).mono ?_;rintro e w5 ⟨rfl,hb5⟩;rw[xH];have wL:=zh (HA.out.later hb5);have wA:=zh (HL.out.next (Ba hb5));obtain⟨⟨d0,d1,d2,d3,d4,d5⟩,-⟩:=bx6 wA.out.loc)|(at_builtin;have hL9:=HL8.out.next (Ba (aA w8 (iH s)));have tV:=hL9.nam.big;refine wpList_append_lies _ rfl _ _ 23 rfl B 9 i1 (.string ByteArray.empty) 1 16 Tryz.underlying23 I8 H5 H4 FD rfl YM (.slice a1 names.length c1) names.length cn.flatten ZV hL9.nam.own ⟨w8.heap.size,0,none⟩ 1 1 [.string s] ZV rfl (World.news_of_block (cs:=#[.string s]) (t:=9) (fr:=(0,0)) (bY w8 _)) Y3 YM Y7 YM tV (w8.heap.size+1) YR ?_))
     ·exact⟨rfl,Ran.bad' (sA.out.trans (recFrom_full xH uX)) B6.out.off⟩
     ·exact⟨rfl,Ran.bad' (sA.out.trans ((recFrom_step xH uX).trans (PR.bnd_bad tJ))) R7.out.off⟩
     ·exact⟨rfl,Ran.bad' (sA.out.trans ((recFrom_step xH uX).trans ((PR.bnd_ok tJ).trans (PR.bnd_bad uD)))) HL8.out.off⟩
     intro g cap sV rP rN sD _;obtain⟨CK,EP,oB⟩:=HL8.out.addName hs7 rP rfl rN sD;have OT:=(dJ uD).1
     have hlr:names.length<8:=by
      have h:=uX;unfold fD at h;split at h
      ·assumption
      cases h
     have DI:=zh (HW.out.above yN oB);have yU:=zh EP;have L9:=zh (sA.out.trans ((recFrom_step xH uX).trans ((PR.bnd_ok tJ).trans (PR.bnd_ok uD))));obtain⟨⟨c0,c1',c2',c3,c4,c5⟩,h0,h1,h2,h3,h4,h5⟩:=bx6 CK;clear rP rN sD CK EP oB hL9 tV vN uE yN sH sF tO uX tJ uD d0 d1 d2 d3 d4 d5 e0 e1 e2 e3 e4 e5 k0 k1 k2 k3 k4 k5 wA B6 R7 HL8;go_wp2_with fail;clear c0 c1' c2' c3 c4 c5 h0 h1 h2 h3 h4 h5;generalize sV.setCell ⟨w.heap.size+1,4,none⟩ (.slice (some ⟨g,0,none⟩) (names.length+1) cap)=yB at *;refine wp_region_held_drew (S:=(fun _=>True)) YN trivial fun hS=>?_;refine zq 0 (.pointer (some ⟨w.heap.size+1,5,none⟩)) rfl ?_;refine zq 2 (.pointer (some ⟨p.pb,0,none⟩)) rfl ?_;(try simp only[zn]);refine wpAnyH_ready (rs:=[1,3]) YN YR ?_;refine AllReadyH.cons rfl (fun K hK=>?_) (AllReadyH.cons rfl (fun K hK=>?_) AllReadyH.nil)
     ·have hl11:=aH (aE yB) yU.out.loc;rw[if_pos YN];(try simp only[z1,z2,z3]);obtain⟨⟨c0,c1,c2,c3,c4,c5⟩,h0,h1,h2,h3,h4,h5⟩:=bx6 hl11;go_simp;clear c0 c1 c2 c3 c4 c5 h0 h1 h2 h3 h4 h5;refine hK.out _ _ trivial (fun hS=>?_);clear hK K;(try simp only[zn]);refine zr 3 rfl (fun K hK=>?_);(try simp only[z1,z2,z3]);go_simp;refine(HE.out 0 j8 yB.drew (DI.out.later (aE _)) YM YM).mono ?_;rintro e tH (⟨x12,tC,rfl,sK⟩|⟨xc,xE,tC,⟨⟨opc,nc,sc,mc,pc,qc,rc,tc,uc,vc,rfl,JC⟩,tR,Q9⟩,sK⟩)
      ·exact X8
      have yT:=zh (yU.out.next ((Ba (aE yB)).trans sK));refine hK.out _ _ trivial (fun hS=>?_);clear hK K;(try simp only[zn]);refine zr 4 rfl (fun K hK=>?_);(try simp only[z1,z2,z3]);go_simp;exact VG
     rw[if_pos YN];(try simp only[z1,z2,z3]);go_simp;refine(HE.out 0 j8 yB.drew (DI.out.later (aE _)) YM YM).mono ?_;rintro e tH (⟨x12,tC,rfl,sK⟩|⟨xc,xE,tC,⟨⟨opc,nc,sc,mc,pc,qc,rc,tc,uc,vc,rfl,JC⟩,tR,Q9⟩,sK⟩)
     ·exact X8
     have yT:=zh (yU.out.next ((Ba (aE yB)).trans sK));refine hK.out _ _ trivial (fun hS=>?_);clear hK K;(try simp only[zn]);refine wpAnyH_ready (rs:=[1,4]) YN YR ?_;refine AllReadyH.cons rfl (fun K hK=>?_) (AllReadyH.cons rfl (fun K hK=>?_) AllReadyH.nil)
     ·have hl12:=yT.out.loc;rw[if_pos YN];(try simp only[z1,z2,z3]);obtain⟨⟨c0,c1,c2,c3,c4,c5⟩,h0,h1,h2,h3,h4,h5⟩:=bx6 hl12;go_simp;clear c0 c1 c2 c3 c4 c5 h0 h1 h2 h3 h4 h5;refine hK.out _ _ trivial (fun hS=>?_);clear hK K;(try simp only[zn]);refine zr 4 rfl (fun K hK=>?_);(try simp only[z1,z2,z3]);go_simp;exact VG
     rw[if_pos YN];(try simp only[z1,z2,z3]);go_simp;refine hK.out _ _ trivial (fun hS=>?_);clear hK K;(try simp only[zn]);refine wpAnyH_ready (rs:=[1]) YN YR ?_;refine AllReadyH.cons rfl (fun K hK=>?_) AllReadyH.nil;have hl13:=aH (aA tH (aN opc nc sc mc pc qc rc tc uc vc)) yT.out.loc;rw[if_pos YN];(try simp only[z1,z2,z3]);obtain⟨⟨c0,c1,c2,c3,c4,c5⟩,h0,h1,h2,h3,h4,h5⟩:=bx6 hl13;go_simp;clear c0 c1 c2 c3 c4 c5 h0 h1 h2 h3 h4 h5;exact VG
end Go.Proofs.YtiionicikdnnpaaGreatDoor
namespace Go.Proofs.YtiionicikdnnpaaGreatDoor
open Go.RowKit
theorem aO.at{α:Type}{k:Nat}{enc:(Nat->Prop)->World->α->List Value->Prop}{N:Nat->Prop}{w:World}{v:Value}{l:List α}(h:aO k enc N w v l):
  ∃a c,v=.slice a l.length c/\l.length<=c/\c<=9223372036854775807/\∀i x,l[i]? =some x->∃b o,a=some ⟨b,o,none⟩/\N b/\∃cs,enc N w x cs/\cs.length=k/\∀j u,cs[j]? =some u->w.cell? ⟨b,o+i*k+j,none⟩=some u:=by
 obtain⟨a,c,hv,h1,h2,h3⟩:=h;refine⟨a,c,hv,h1,h2,fun i x hx=>?_⟩;obtain⟨b,o,ha,hb,hc⟩:=h3 (fun e=>by rw[e] at hx;simp at hx);exact⟨b,o,ha,hb,hc i x hx⟩
theorem bx2{w:World}{b:Nat}{x0 x1:Value}{t:TypeId}(h:w.heap[b]? =some (.cells #[x0,x1] t)):
  (w.cell? ⟨b,0,none⟩=some x0/\w.cell? ⟨b,1,none⟩=some x1)/\w.frozen? ⟨b,0,none⟩=false/\w.frozen? ⟨b,1,none⟩=false:=⟨⟨(bx h 0 rfl).1,(bx h 1 rfl).1⟩,(bx h 0 (u:=x0) rfl).2,(bx h 1 (u:=x1) rfl).2⟩
theorem bx3{w:World}{b:Nat}{x0 x1 x2:Value}{t:TypeId}(h:w.heap[b]? =some (.cells #[x0,x1,x2] t)):
  (w.cell? ⟨b,0,none⟩=some x0/\w.cell? ⟨b,1,none⟩=some x1/\w.cell? ⟨b,2,none⟩=some x2)/\(w.frozen? ⟨b,0,none⟩=false/\w.frozen? ⟨b,1,none⟩=false/\w.frozen? ⟨b,2,none⟩=false):=
 ⟨⟨(bx h 0 rfl).1,(bx h 1 rfl).1,(bx h 2 rfl).1⟩,(bx h 0 (u:=x0) rfl).2,(bx h 1 (u:=x1) rfl).2,(bx h 2 (u:=x2) rfl).2⟩
abbrev cE(cb:Nat)(v:Value):Nat->Prop:=fun b=>b≠cb/\v.ownBlock≠some b
abbrev inC(cb:Nat)(v:Value):Nat->Prop:=fun b=>b=cb\/v.ownBlock=some b
structure Ext (cb:Nat) (v:Value) (w:World) (v':Value) (w':World):Prop where
 off:Off (inC cb v) w w'
 own:∀b,v'.ownBlock=some b->v.ownBlock=some b\/w.heap.size<=b
section
variable {cb:Nat} {v v' v'':Value} {w w' w'':World}
theorem Ext.refl(cb:Nat)(v:Value)(w:World):Ext cb v w v w:=⟨Off.refl _ _,fun _ h=>.inl h⟩
theorem Ext.below(cb:Nat)(v:Value)(hb:Below w.heap.size w w'):Ext cb v w v w':=⟨Ba hb,fun _ h=>.inl h⟩
theorem Ext.trans(h:Ext cb v w v' w')(k:Ext cb v' w' v'' w''):Ext cb v w v'' w'':=by
 refine⟨Off.fresh (B:=w.heap.size) ((h.off.or _).trans (k.off.mono fun b hb=>?_)) (Nat.le_refl _),fun b hb=>?_⟩
 ·rcases hb with hb|hb
  ·exact .inl (.inl hb)
  rcases h.own b hb with h1|h1
  ·exact .inl (.inr h1)
  exact .inr h1
 rcases k.own b hb with h1|h1
 ·exact h.own b h1
 exact .inr (Nat.le_trans h.off.size h1)
theorem Ext.moves(h:Ext cb v w v' w'):bU (cE cb v) w (cE cb v') w':=fun b hb rU=>
 ⟨⟨hb.1,fun e=>(h.own b e).elim hb.2 (fun h1=>YM)⟩,fun _ _ hu=>h.off.cell (fun hs=>hs.elim hb.1 hb.2) hu⟩
theorem Ext.size(h:Ext cb v w v' w'):w.heap.size<=w'.heap.size:=h.off.size
end
theorem dE{α:Type}{k:Nat}{enc:(Nat->Prop)->World->α->List Value->Prop}(he:fL enc)(hk:0<k){cb:Nat}{v v' x:Value}{w w':World}{l:List α}(h:aO k enc (cE cb v) w x l)(hx:Ext cb v w v' w'):aO k enc (cE cb v') w' x l:=h.moves he hx.moves hk
theorem eR{cb:Nat}{v v':Value}{w w':World}{x:Xp}{cs:List Value}(h:bN (cE cb v) w x cs)(hx:Ext cb v w v' w'):bN (cE cb v') w' x cs:=aI _ _ _ _ _ _ hx.moves h
theorem Ext.blk{cb b:Nat}{v v':Value}{w w':World}{o:Obj}(h:Ext cb v w v' w')(hb:cE cb v b)(ho:w.heap[b]? =some o):w'.heap[b]? =some o/\cE cb v' b:=by
 have rU:=(Array.getElem?_eq_some_iff.1 ho).1;exact⟨h.off.heap (fun e=>e.elim hb.1 hb.2) ho,hb.1,fun e=>(h.own b e).elim hb.2 (fun h1=>YM)⟩
theorem Ext.nin{cb b:Nat}{v v':Value}{w w':World}(h:Ext cb v w v' w')(hb:cE cb v b)(rU:b<w.heap.size):¬inC cb v' b:=fun e=>e.elim hb.1 (fun e=>(h.own b e).elim hb.2 (fun h1=>YM))
theorem mU{N:Nat->Prop}{w:World}{x:Xp}{cs:List Value}(h:bN N w x cs):∃(op n:Int)(s m:bA)(a1:Option Addr)(n1 c1:Nat)(a2:Option Addr)(n2 c2:Nat),cs=[.int .i64 op,.int .i64 n,.string s,.string m,.slice a1 n1 c1,.slice a2 n2 c2]:=by
 cases x with
 |mk op n s m names args=>
  rw[aU] at h;obtain⟨v1,v2,e,-,-,h1,h2⟩:=h;obtain⟨a1,c1,rfl,-⟩:=h1.at;obtain⟨a2,c2,rfl,-⟩:=h2.at;exact⟨op,n,s,m,a1,_,c1,a2,_,c2,e⟩
theorem hZ{N:Nat->Prop}{w:World}{x:Xp}{op n:Int}{s m:bA}{vn va:Value}(h:bN N w x [.int .i64 op,.int .i64 n,.string s,.string m,vn,va]):(∃a n c,vn=.slice a n c)/\∃a n c,va=.slice a n c:=by
 cases x with
 |mk op' n' s' m' names args=>
  rw[aU] at h;obtain⟨v1,v2,e,-,-,⟨a1,c1,h1,-⟩,⟨a2,c2,h2,-⟩⟩:=h;cases e;exact⟨⟨_,_,_,h1⟩,_,_,_,h2⟩
end Go.Proofs.YtiionicikdnnpaaGreatDoor
namespace Go.Proofs.YtiionicikdnnpaaGreatDoor
theorem YB{p:Prop}(h:p:=by
 obtain⟨a,_,ha,h⟩:=PR.of_bnd h;cases h
 exact jT fun y hy=>by rw[List.mem_singleton.1 hy];exact hr _ _ _ _ ha):p:=h
theorem YK{p:Prop}(h:p:=by
 rcases List.mem_append.1 hx with hx|hx
 ·exact ho x hx
 rw[List.mem_singleton.1 hx];exact hr _ _ _ _ he):p:=h
section
variable {l:List Tok} {rec:RecP} {D:Nat}
theorem depthXs_le_of{l:List Xp}{D:Nat}(h:∀x,x∈l->cD x<=D):eH l<=D:=by
 induction l with
 |nil=>simp[eH]
 |cons x r ih=>
  rw[eH];exact Nat.max_le.2 ⟨h x YR,ih fun y hy=>h y (by simp[hy])⟩
theorem jT{op n:Int}{s m:bA}{names:List bA}{args:List Xp}(h:∀x,x∈args->cD x<=D):cD (.mk op n s m names args)<=D+1:=by
 rw[cD];have:=depthXs_le_of h;omega
theorem oZ(hr:∀f i x j,rec f i=.ok (x,j)->cD x<=D):∀(F:Nat)(out:List Xp)(i:Nat)(xs:List Xp)(j:Nat),(∀x,x∈out->cD x<=D)->bS l rec F out i=.ok (xs,j)->∀x,x∈xs->cD x<=D
 |0,out,i,xs,j,ho,h=>by unfold bS at h;cases h;exact ho
 |F+1,out,i,xs,j,ho,h=>by
  unfold bS at h;obtain⟨_,_,-,h⟩:=PR.of_bnd h;obtain⟨e,j1,he,h⟩:=PR.of_bnd h
  have hn:∀x,x∈out++[e]->cD x<=D:=fun x hx=>by
   exact YK
  split at h
  ·exact oZ hr F _ _ xs j hn h
  obtain⟨_,_,-,h⟩:=PR.of_bnd h;cases h;exact hn
theorem operandsP_depth(hr:∀f i x j,rec f i=.ok (x,j)->cD x<=D){i j:Nat}{xs:List Xp}(h:iA l rec i=.ok (xs,j)):∀x,x∈xs->cD x<=D:=by
 unfold iA at h;obtain⟨_,_,-,h⟩:=PR.of_bnd h;split at h
 ·cases h;intro x hx;cases hx
 exact oZ hr _ _ _ _ _ (fun x hx=>by cases hx) h
theorem qT(hr:∀f i x j,rec f i=.ok (x,j)->cD x<=D):∀(F:Nat)(names:List bA)(args:List Xp)(last:bA)(i:Nat)(x:Xp)(j:Nat),(∀x,x∈args->cD x<=D)->dA l rec F names args last i=.ok (x,j)->cD x<=D+1
 |0,names,args,last,i,x,j,ho,h=>by unfold dA at h;cases h;exact jT ho
 |F+1,names,args,last,i,x,j,ho,h=>by
  unfold dA at h;obtain⟨_,_,-,h⟩:=PR.of_bnd h;obtain⟨_,_,-,h⟩:=PR.of_bnd h;obtain⟨_,_,-,h⟩:=PR.of_bnd h;obtain⟨e,j1,he,h⟩:=PR.of_bnd h
  have hn:∀x,x∈args++[e]->cD x<=D:=fun x hx=>by
   exact YK
  split at h
  ·exact qT hr F _ _ _ _ x j hn h
  obtain⟨_,_,-,h⟩:=PR.of_bnd h;cases h;exact jT hn
theorem mX{op n:Int}{s m:bA}:cD (.mk op n s m [] [])<=D+1:=jT fun x hx=>by cases hx
theorem primaryP_depth(hr:∀f i x j,rec f i=.ok (x,j)->cD x<=D){i j:Nat}{x:Xp}(h:aQ l rec i=.ok (x,j)):cD x<=D+1:=by
 have hp:∀{i x j},oY l rec i=.ok (x,j)->cD x<=D:=fun h=>by
  unfold oY at h;obtain⟨e,j1,he,h⟩:=PR.of_bnd h;obtain⟨_,_,-,h⟩:=PR.of_bnd h;cases h;exact hr _ _ _ _ he
 unfold aQ at h;split at h
 ·cases h;exact mX
 split at h
 ·cases h;exact mX
 split at h
 ·cases h;exact mX
 split at h
 ·obtain⟨_,_,-,h⟩:=PR.of_bnd h;cases h;exact mX
 split at h
 ·obtain⟨_,_,-,h⟩:=PR.of_bnd h;obtain⟨e,_,he,h⟩:=PR.of_bnd h;cases h;exact jT fun y hy=>by rw[List.mem_singleton.1 hy];exact hp he
 split at h
 ·unfold kV at h;split at h
  ·cases h;exact mX
  exact qT hr _ _ _ _ _ _ _ (fun x hx=>by cases hx) h
 split at h
 ·exact Nat.le_succ_of_le (hp h)
 obtain⟨s,j1,-,h⟩:=PR.of_bnd h;unfold pW at h;split at h
 ·obtain⟨xs,_,ha,h⟩:=PR.of_bnd h;cases h;exact jT (operandsP_depth hr ha)
 split at h
 ·obtain⟨_,_,-,h⟩:=PR.of_bnd h;obtain⟨xs,_,ha,h⟩:=PR.of_bnd h;cases h;exact jT (operandsP_depth hr ha)
 cases h;exact mX
theorem prefixP_depth(hr:∀f i x j,rec f i=.ok (x,j)->cD x<=D){form i j:Nat}{r:Xp×Nat}(h:cH l rec form i=.ok (r,j)):cD r.1<=D+1:=by
 unfold cH at h;split at h
 ·obtain⟨a,_,ha,h⟩:=PR.of_bnd h;obtain⟨_,_,-,h⟩:=PR.of_bnd h;obtain⟨b,_,hb,h⟩:=PR.of_bnd h;obtain⟨_,_,-,h⟩:=PR.of_bnd h;obtain⟨c,_,hc,h⟩:=PR.of_bnd h;cases h
  exact jT fun y hy=>by
   simp only[List.mem_cons,List.not_mem_nil,or_false] at hy;rcases hy with rfl|rfl|rfl
   ·exact hr _ _ _ _ ha
   ·exact hr _ _ _ _ hb
   exact hr _ _ _ _ hc
 split at h
 ·obtain⟨_,_,-,h⟩:=PR.of_bnd h;obtain⟨_,_,-,h⟩:=PR.of_bnd h;obtain⟨a,_,ha,h⟩:=PR.of_bnd h;obtain⟨_,_,-,h⟩:=PR.of_bnd h;obtain⟨b,_,hb,h⟩:=PR.of_bnd h;cases h
  exact jT fun y hy=>by
   simp only[List.mem_cons,List.not_mem_nil,or_false] at hy;rcases hy with rfl|rfl
   ·exact hr _ _ _ _ ha
   exact hr _ _ _ _ hb
 split at h
 ·obtain⟨_,_,-,h⟩:=PR.of_bnd h;exact YB
 split at h
 ·exact YB
 obtain⟨e,_,he,h⟩:=PR.of_bnd h;cases h;exact primaryP_depth hr he
theorem dotsP_depth:∀(F:Nat)(e:Xp)(i:Nat)(x:Xp)(j:Nat),lJ l F e i=.ok (x,j)->cD x<=cD e+F
 |0,e,i,x,j,h=>by unfold lJ at h;cases h;exact Nat.le_refl _
 |F+1,e,i,x,j,h=>by
  unfold lJ at h;split at h
  ·obtain⟨s,j1,-,h⟩:=PR.of_bnd h;have h1:=dotsP_depth F _ _ x j h;(have h2:cD (.mk 14 0 s noB [] [e])<=cD e+1:=jT fun y hy=>by rw[List.mem_singleton.1 hy];exact Nat.le_refl _);omega
  cases h;omega
theorem opsP_depth(hr:∀f i x j,rec f i=.ok (x,j)->cD x<=D)(form:Nat):∀(F own:Nat)(e:Xp)(i:Nat)(x:Xp)(j:Nat)(E:Nat),cD e<=E->D<=E->nH l rec form F own e i=.ok (x,j)->cD x<=E+F
 |0,own,e,i,x,j,E,he,hD,h=>by unfold nH at h;cases h;exact he
 |F+1,own,e,i,x,j,E,he,hD,h=>by
  unfold nH at h;split at h
  ·cases h;omega
  split at h
  ·cases h;omega
  obtain⟨b,j1,hb,h⟩:=PR.of_bnd h
  have h1:=opsP_depth hr form F _ _ _ x j (E+1) (jT fun y hy=>by
   simp only[List.mem_cons,List.not_mem_nil,or_false] at hy;rcases hy with rfl|rfl
   ·exact he
   exact Nat.le_trans (hr _ _ _ _ hb) hD) YM h
  omega
theorem expP_depth:∀(f form i:Nat)(x:Xp)(j:Nat),bM l f form i=.ok (x,j)->cD x<=f*(2*l.length+3)
 |0,form,i,x,j,h=>by unfold bM at h;cases h
 |f+1,form,i,x,j,h=>by
  unfold bM at h;obtain⟨r,j1,xQ,h⟩:=PR.of_bnd h;obtain⟨e,k,he,h⟩:=PR.of_bnd h;have xG:∀f' i x j,bM l f f' i=.ok (x,j)->cD x<=f*(2*l.length+3):=fun f' i x j h=>expP_depth f f' i x j h;have h1:=prefixP_depth xG xQ
  have h2:cD e<=f*(2*l.length+3)+1+(l.length+1):=by
   split at he
   ·have:=dotsP_depth _ _ _ _ _ he;omega
   cases he;omega
  have h3:=opsP_depth xG form _ _ _ _ _ _ _ h2 YM h;have e1:(f+1)*(2*l.length+3)=f*(2*l.length+3)+(2*l.length+3):=Nat.succ_mul _ _;omega
theorem expAllP_depth{form i j:Nat}{x:Xp}(h:oI l form i=.ok (x,j))(hl:l.length<=8001):cD x<=200000000:=by
 have h1:=expP_depth _ _ _ _ _ h;have h2:(l.length+1)*(2*l.length+3)<=8002*16005:=Nat.mul_le_mul YM YM;omega
end
end Go.Proofs.YtiionicikdnnpaaGreatDoor
namespace Go.Proofs.YtiionicikdnnpaaGreatDoor
open Go.RowKit
def ExpAll(p:Prs):Prop:=∀(form i:Nat)(w:World),p.At w i->form<=9->Calls Tryz.prog 48 #[.pointer (some ⟨p.pb,0,none⟩),.int .i64 (form:Int)] w
 (Ran p.S w (oI p.l form i) fun x j e w'=>qH w.heap.size x e w'/\p.At w' j/\i<=j)
theorem ExpAll.of{p:Prs}(h:∀f,iL p f):ExpAll p:=fun form i w hA hf=>h (p.l.length+1) form i w hA hf (by have:=hA.lt;omega)
def RowV{α:Type}(p:Prs)(k:Nat)(enc:(Nat->Prop)->World->α->List Value->Prop)(w:World)(i:Nat)(xs:List α)(j:Nat)(e:Ending)(w':World):Prop:=
 ∃a n c,e=.returned (.slice a n c)/\aO k enc (bQ w.heap.size) w' (.slice a n c) xs/\p.At w' j/\i<=j
theorem oK(p:Prs)(hX:ExpAll p)(w:World)(i:Nat)(s:bA)(h:p.At w i):Calls Tryz.prog 118 #[.pointer (some ⟨p.pb,0,none⟩),.string s] w
  (Ran p.S w (kI p.l i s) fun x j e w'=>qH w.heap.size x e w'/\p.At w' j/\i<j):=by
 have HW:=zh h;have HX:=zh (hX 0 i (w.alloc (.cells bW 35)) (h.later (aA _ _)) YO);have hlen:=h.len;have wQ:=h.blt;have rO:w.heap.size≠p.pb:=YM;have tS:(w.alloc (.cells bW 35)).heap.size=w.heap.size+1:=YR;have HR:Hid (kI p.l i s=(oI p.l 0 i).bnd fun x j=>(lX p.l j (decide (cD x<=12)) s).bnd fun _ k=>.ok (x,k)):=zh rfl;clear h hX;go_enter Tryz.func118,Tryz.ntmps118;go_wp2_with(first|(go_at_call 116;refine(end_any p w3 j2 _ s HA3.out).mono ?_;rintro e w4 (⟨x4,sI,rfl,rY⟩|⟨⟨⟩,j4,sI,⟨rfl,uA⟩,rY⟩)<;>have xZ:=zh (rY.heap hneL AA.out)<;>have HR4:=zh (rY.heap rO HR3.out)<;>obtain⟨⟨d0,d1,d2,d3,d4,d5⟩,h0,h1,h2,h3,h4,h5⟩:=bx6 xZ.out<;>obtain⟨⟨r0,r1,r2,r3,r4,r5⟩,g0,g1,g2,g3,g4,g5⟩:=bx6 HR4.out)|(go_at_call 51;refine(depth_any _ x _ op n s1 m _ _ _ (Nat.le_refl _) (by have:=expAllP_depth rV hlen;omega) (aI _ _ _ _ _ _ (bU.later (aA w2 _)) hex)).mono ?_;rintro e w3 ⟨rfl,tI⟩;have HA3:=zh ((sS.later (aA w2 _)).later tI);have AA:=zh (aH tI (bY w2 (aN op n s1 m a1 n1 c1 a2 n2 c2)));have HR3:=zh (aH (aC (aA w2 (aN op n s1 m a1 n1 c1 a2 n2 c2)) tI) (rS.heap rO (bY w (.cells bW 35))));have sY:=rS.size;have hneL:w2.heap.size≠p.pb:=YM;have HD:Hid (decide ((cD x:Int)<=12)=decide (cD x<=12)):=zh ZJ)|(go_at_call 48;refine HX.out.mono ?_;rintro e w2 (⟨x2,rV,rfl,rS⟩|⟨x,j2,rV,⟨⟨op,n,s1,m,a1,n1,c1,a2,n2,c2,rfl,hex⟩,sS,GA⟩,rS⟩)))
 ·exact⟨rfl,Ran.bad' (HR.out.trans (PR.bnd_bad rV)) ((Ba (aA _ _)).trans rS)⟩
 ·rw[HD.out] at sI;exact⟨rfl,Ran.bad' (HR.out.trans ((PR.bnd_ok rV).trans (PR.bnd_bad sI))) ((Ba (aA _ _)).trans (rS.trans ((Ba (aC (aA w2 _) tI)).trans rY)))⟩
 rw[HD.out] at sI;have hj4:=endP_ok sI;have hE:=iO HW.out ((Ba (aA _ _)).trans (rS.trans ((Ba (aC (aA w2 _) tI)).trans rY))) uA (aI.off (aI _ _ _ _ _ _ (bU.later (aC (aA w2 _) tI)) hex) rY (fun b hb hn=>by have hb:b=p.pb:=hb;have hn:(w.alloc (.cells bW 35)).heap.size<=b:=hn;omega)) (fun b hb=>by have hb:(w.alloc (.cells bW 35)).heap.size<=b:=hb;omega);unfold iP at hE;refine bodyPost_ret (v:=eK op n s1 m a1 n1 c1 a2 n2 c2) (by simp[results,Tryz.results118,go_sem,r0,r1,r2,r3,r4,r5]) rfl ?_;exact Ran.good (HR.out.trans ((PR.bnd_ok rV).trans (PR.bnd_ok sI))) ⟨⟨op,n,s1,m,a1,n1,c1,a2,n2,c2,rfl,hE.1⟩,hE.2.1,YM⟩ hE.2.2
structure GrL {α:Type} (k:Nat) (T:TypeId) (enc:(Nat->Prop)->World->α->List Value->Prop) (p:Prs) (W:World) (out:List α) (css:List (List Value)) (v:Value) (q:Nat) (wr:World):Prop where
 off:Off p.S W wr
 acc:Gro k T enc W.heap.size out css v wr
 at_:p.At wr q
section
variable {α:Type} {k:Nat} {T:TypeId} {enc:(Nat->Prop)->World->α->List Value->Prop} {p:Prs} {W w5 w9 sV:World} {out:List α} {css:List (List Value)} {v:Value} {q j i0:Nat} {x:α} {cs:List Value}
theorem GrL.next(he:fL enc)(hW:p.At W i0)(h:GrL k T enc p W out css v q w5)(ho:Off p.S w5 w9)(ha:p.At w9 j):GrL k T enc p W out css v j w9:=
 ⟨h.off.trans ho,h.acc.stays he (dF.of_off ho fun b hb=>.inl aAP),ha⟩
theorem GrL.fresh_enc(he:fL enc)(h:GrL k T enc p W out css v q w5)(hex:enc (bQ w5.heap.size) w9 x cs):enc (mO W.heap.size v) w9 x cs:=
 he.wide hex fun b hb _=>⟨by have hb:w5.heap.size<=b:=hb;have:=h.acc.big;omega,fun e=>by have hb:w5.heap.size<=b:=hb;have:=h.acc.lt b e;omega⟩
theorem GrL.step{g cap n1:Nat}(he:fL enc)(hW:p.At W i0)(h5:GrL k T enc p W out css v q w5)(o9:Off p.S w5 w9)(AU:p.At w9 j)(hx:enc (mO W.heap.size v) w9 x cs)(hl:cs.length=k)
  (rP:sV.ownsRow W.heap.size T k (.slice (some ⟨g,0,none⟩) n1 cap) n1 (css.flatten++cs)) (hn:n1=out.length+1) (rN:w9.grownBy sV v.ownBlock) (sD:v.ownBlock=some g\/g=w9.heap.size):
  GrL k T enc p W (out++[x]) (css++[cs]) (.slice (some ⟨g,0,none⟩) n1 cap) j sV/\Off (fun b=>W.heap.size<=b) w9 sV:=by
 subst hn;have rU:=h5.acc.lt;have tQ:=h5.acc.big;have hA9:=h5.acc.stays he (dF.of_off o9 fun b hb=>.inl aAP);have AT:Off (fun b=>W.heap.size<=b) w9 sV:=⟨rN.os,rN.tape,rN.output,rN.size,fun b hb hn=>rN.block b hb (fun e=>hn (rU b e.symm).1)⟩;exact⟨⟨Off.fresh (((h5.off.trans o9).or _).trans (AT.mono fun b hb=>.inr hb)) (Nat.le_refl _),hA9.added he hx hl rP rN sD,hW.above AU AT⟩,AT⟩
end
end Go.Proofs.YtiionicikdnnpaaGreatDoor
