/- Texts of this seat, joined. -/
import Derived.Test.YtiionicikdnnpaaGreatDoorSynQ
set_option maxHeartbeats 12000000
set_option maxRecDepth 100000
set_option linter.unusedVariables false
set_option linter.unusedSimpArgs false
namespace Go.Proofs.YtiionicikdnnpaaGreatDoor
open Go.RowKit
theorem prim_num(p:Prs)(f:Nat)(hE:gV p f)(sJ:mB p f)(w:World)(i:Nat)(h:p.At w i)(sH:p.l.length<=f+i)(k1:(aI p.l i).kind=1):Calls Tryz.prog 191 #[.pointer (some ⟨p.pb,0,none⟩)] w
  (Ran p.S w (aP p.l (bL p.l f) i) fun x j e w'=>oC w.heap.size x e w'/\p.At w' j/\i<=j):=by
 have HE:=zh hE;have CI:=zh sJ;have HW:=zh h;have HR:Hid (aP p.l (bL p.l f) i=.ok (.mk 0 (aI p.l i).n noB noB [] [],i+1)):=zh (by unfold aP;rw[if_pos k1];try rfl);have rI:=zh (h.later (aB w (.cells bC 35)));have HN:=zh (fun W(hW:p.At W i)=>cQ p W i hW);have qG:=h.len;have AH:=h.bound;have rK:=h.tok;have sK:=h.last i _ rK;have pQ:w.heap.size≠p.pb:=SF;have tY:=h.blt;have zD:(w.alloc (.cells bC 35)).heap.size=w.heap.size+1:=R2;have hl:i+1<p.l.length:=sK (by rw[k1];decide);generalize tJ:aI p.l i=t at *;have AW:=zh tJ;clear h hE sJ tJ;have zQ:(t.kind==1)=true:=by rw[beq_iff_eq];exact k1
 go_enter Tryz.func191,Tryz.ntmps191;go_wp2_with(first|(go_at_call 50;refine(HN.out _ rI.out).mono ?_;rintro e w1 ⟨rfl,pO⟩;have sG:=pO.size;have vE:=rI.out.later pO;have qP:=vE.later (aB w1 (dI 1 t.text t.n t.pos));have b1:=vE.box1;have f1:=vE.froz;have b1':=qP.box1;have f1':=qP.froz;have hpb1:=vE.blt;have EI:=aC pO (bY w (.cells bC 35));obtain⟨⟨r0,r1,r2,r3,r4,r5⟩,g0,g1,g2,g3,g4,g5⟩:=bx6 EI;have zH:w.heap.size<w1.heap.size:=RY;have tF:¬w1.heap.size=p.pb:=RY;have hnt2:¬p.pb=w1.heap.size:=RY;have hnr:¬w.heap.size=p.pb:=pQ;have hnr2:¬p.pb=w.heap.size:=(fun e=>pQ e.symm);have hnw:¬w.heap.size=w1.heap.size:=RY));have hE:=nO (N:=fun _=>False) (x:=.mk 0 t.n noB noB [] []) (op:=0) (n:=t.n) (s:=⟨#[]⟩) (m:=⟨#[]⟩) (a1:=none) (n1:=0) (c1:=0) (a2:=none) (n2:=0) (c2:=0) (cs:=#[.int .i64 1,.string t.text,.int .i64 t.n,.int .i64 t.pos]) (T:=59) HW.out (w:=(w1.setCell ⟨p.pb,1,none⟩ (.int .i64 ((i:Int)+1)))) ((Ba (aA (aB _ _) pO)).trans (vE.step hl).2) (vE.step hl).1 (by rw[fR];exact zH) SR (fun b hb=>hb.elim);unfold gC at hE;refine bodyPost_ret (v:=dW 0 t.n ⟨#[]⟩ ⟨#[]⟩ none 0 0 none 0 0) (by simp[results,Tryz.results191,go_sem,r0,r1,r2,r3,r4,r5,zH,hnr,hnr2]) rfl ?_;exact Ran.good HR.out ⟨⟨0,t.n,⟨#[]⟩,⟨#[]⟩,none,0,0,none,0,0,rfl,hE.1⟩,hE.2.1,RY⟩ hE.2.2
theorem prim_act_z(p:Prs)(f:Nat)(hE:gV p f)(sJ:mB p f)(w:World)(i:Nat)(h:p.At w i)(sH:p.l.length<=f+i)(k1:¬(aI p.l i).kind=1)(qt:isP p.l i cU=false)(qf:isP p.l i bU=false)(qg:isP p.l i gM=false)(k0:(aI p.l i).kind=0)(kb:bN (aI p.l i).text≠0):Calls Tryz.prog 191 #[.pointer (some ⟨p.pb,0,none⟩)] w
  (Ran p.S w (aP p.l (bL p.l f) i) fun x j e w'=>oC w.heap.size x e w'/\p.At w' j/\i<=j):=by
 have HE:=zh hE;have CI:=zh sJ;have HW:=zh h;have HR:Hid (aP p.l (bL p.l f) i=(dD p.l (i+1) aS).bnd fun _ j=>(kQ p.l (bL p.l f) j).bnd fun e k=>.ok (.mk 16 (bN (aI p.l i).text) noB noB [] [e],k)):=zh (by unfold aP;rw[if_neg k1,if_neg (show ¬isP p.l i cU=true by rw[qt];simp),if_neg (show ¬isP p.l i bU=true by rw[qf];simp),if_neg (show ¬isP p.l i gM=true by rw[qg];simp),if_pos ⟨k0,kb⟩];try rfl);have rI:=zh (h.later (aB w (.cells bC 35)));have HN:=zh (fun W(hW:p.At W i)=>cQ p W i hW);have qG:=h.len;have AH:=h.bound;have rK:=h.tok;have sK:=h.last i _ rK;have pQ:w.heap.size≠p.pb:=SF;have tY:=h.blt;have zD:(w.alloc (.cells bC 35)).heap.size=w.heap.size+1:=R2;have hl:i+1<p.l.length:=sK (by rw[k0];decide);generalize tJ:aI p.l i=t at *;have AW:=zh tJ;clear h hE sJ tJ;have zQ:(t.kind==1)=false:=SC;have IV:(t.kind==0)=true:=TS;have kb':(bN t.text != 0)=true:=by rw[bne_iff_ne];exact kb
 go_enter Tryz.func191,Tryz.ntmps191;go_wp2_with(first|(go_at_call 110;refine(dK p (w7.alloc (aN opa na sa ma pa qa ra ta ua va)) j7 bQ (rX.later (aB _ _))).mono ?_;rintro e w8 (⟨y8,tC,rfl,AS⟩|⟨⟨⟩,j8,tC,⟨rfl,vT⟩,AS⟩)<;>have rZ:=(Ba (aB _ _)).trans AS<;>have K4:=rZ.size)|(go_at_call 48;refine(HE.out 0 j6 w6 tG RY (by have:=(cX tD).1;omega)).mono ?_;rintro e w7 (⟨y7,rJ,rfl,qO⟩|⟨xa,j7,rJ,⟨⟨opa,na,sa,ma,pa,qa,ra,ta,ua,va,rfl,wQ⟩,rX,MX⟩,qO⟩)<;>have ET:=qO.size)|(go_at_call 110;refine(dK p (w5.setCell ⟨p.pb,1,none⟩ (.int .i64 ((i:Int)+1))) (i+1) aS (sN.step hl).1).mono ?_;rintro e w6 (⟨y6,tD,rfl,hq6⟩|⟨⟨⟩,j6,tD,⟨rfl,tG⟩,hq6⟩)<;>have qR:=((sN.step hl).2).trans hq6<;>have EU:=qR.size)|(go_at_call 154;refine(iS t.text w4 rR.spc).mono ?_;rintro e w5 ⟨rfl,hb5⟩;have yC:=hb5.size;have qM:=Ba (S:=p.S) hb5;have sN:=rR.later hb5;have b1:=sN.box1;have f1:=sN.froz)|(go_at_call 120;refine(bI p w3 i gM rY qg).mono ?_;rintro e w4 ⟨rfl,rR,qD⟩;have DP:=qD.size;have yX:=zh (qD.heap tF (qK.heap tF (pU.heap tF (bY w1 _))));obtain⟨t0,t1,t2,t3⟩:=bx4 yX.out)|(go_at_call 120;refine(bI p w2 i bU qY qf).mono ?_;rintro e w3 ⟨rfl,rY,qK⟩;have CD:=qK.size)|(go_at_call 120;refine(bI p (w1.alloc (dI 0 t.text t.n t.pos)) i cU qP qt).mono ?_;rintro e w2 ⟨rfl,qY,pU⟩;have rU:=pU.size)|(go_at_call 50;refine(HN.out _ rI.out).mono ?_;rintro e w1 ⟨rfl,pO⟩;have sG:=pO.size;have qE:=Ba (S:=p.S) (aA pO (aB w1 (dI 0 t.text t.n t.pos)));have vE:=rI.out.later pO;have qP:=vE.later (aB w1 (dI 0 t.text t.n t.pos));have tF:w1.heap.size≠p.pb:=RY;have vS:(w1.alloc (dI 0 t.text t.n t.pos)).heap.size=w1.heap.size+1:=R2))
 ·exact⟨rfl,Ran.bad' (HR.out.trans (PR.bnd_bad tD)) ((Ba (aB _ _)).trans (qE.trans (pU.trans (qK.trans (qD.trans (qM.trans qR))))))⟩
 ·exact⟨rfl,Ran.bad' (HR.out.trans ((PR.bnd_ok tD).trans (PR.bnd_bad (PR.bnd_bad rJ)))) ((Ba (aB _ _)).trans (qE.trans (pU.trans (qK.trans (qD.trans (qM.trans (qR.trans qO)))))))⟩
 ·exact⟨rfl,Ran.bad' (HR.out.trans ((PR.bnd_ok tD).trans (PR.bnd_bad ((PR.bnd_ok rJ).trans (PR.bnd_bad tC))))) ((Ba (aB _ _)).trans (qE.trans (pU.trans (qK.trans (qD.trans (qM.trans (qR.trans (qO.trans rZ))))))))⟩
 have n7:w7.heap.size≠p.pb:=RY;have hs7:(w7.alloc (aN opa na sa ma pa qa ra ta ua va)).heap.size=w7.heap.size+1:=R2;have hzq:=AS.size;have hT8:w8.heap[w1.heap.size]? =some (dI 0 t.text t.n t.pos):=rZ.heap tF (qO.heap tF (qR.heap tF (qM.heap tF yX.out)));have hB8:w8.heap[w7.heap.size]? =some (aN opa na sa ma pa qa ra ta ua va):=AS.heap n7 (bY w7 _);have I8:=zh ((rZ.heap pQ (qO.heap pQ (qR.heap pQ (qM.heap pQ (qD.heap pQ (qK.heap pQ (pU.heap pQ (qE.heap pQ (bY w _))))))))));have LV:=zh (aH.off wQ rZ (fun b hb hn=>by have hb:b=p.pb:=hb;have hn:w6.heap.size<=b:=hn;omega));have L2:=zh ((Ba (aB _ _)).trans (qE.trans (pU.trans (qK.trans (qD.trans (qM.trans (qR.trans (qO.trans rZ))))))));have qI:=zh (HR.out.trans ((PR.bnd_ok tD).trans (PR.bnd_ok ((PR.bnd_ok rJ).trans (PR.bnd_ok tC)))));have hj6:=(cX tD).1;have JT:=(cX tC).1;have HA8:=zh vT;clear wQ qE pU qK qD qM qR qO rZ hq6 AS tD rJ tC HR b1 f1 t0 t1 t2 t3 vE qP qY rY rR sN tG rX vT;refine wp_region_held_drew (S:=(fun W=>W.heap[w1.heap.size]? =some (dI 0 t.text t.n t.pos)/\W.heap[w7.heap.size]? =some (aN opa na sa ma pa qa ra ta ua va))) RZ ⟨hT8,hB8⟩ fun hS=>?_;refine zq 0 (.pointer (some ⟨w1.heap.size,1,none⟩)) rfl ?_;refine zt 1 (.string t.text) rfl (fun W hW=>by obtain⟨t0,t1,t2,t3⟩:=bx4 hW.1;go_simp) ?_;refine zt 3 (dW opa na sa ma pa qa ra ta ua va) rfl (fun W hW=>by obtain⟨⟨c0,c1,c2,c3,c4,c5⟩,-⟩:=bx6 hW.2;go_simp) ?_;try simp only[zn]
 refine wpAnyH_ready (rs:=[2,4]) RZ R2 ?_;refine AllReadyH.cons rfl (fun K hK=>?_) (AllReadyH.cons rfl (fun K hK=>?_) AllReadyH.nil)
 ·rw[if_pos RZ];go_simp;refine(iS t.text w8.drew (HA8.out.later (aF _)).spc).mono ?_;rintro e w9 ⟨rfl,rG⟩;have AC:w8.heap.size<=w9.heap.size:=rG.size;have uV:=aA (aF w8) rG;refine hK.out _ _ ⟨aC uV hT8,aC uV hB8⟩ (fun hS=>?_);clear hK K;try simp only[zn]
  refine zr 4 rfl (fun K hK=>?_);go_simp;have hT9:=aC (aB w9 (aN opa na sa ma pa qa ra ta ua va)) (aC uV hT8);have hB9:=aC (aB w9 (aN opa na sa ma pa qa ra ta ua va)) (aC uV hB8);refine hK.out _ _ ⟨hT9,hB9⟩ (fun hS=>?_);clear hK K;try simp only[zn]
  have HO9:=L2.out.trans ((Ba uV).trans (Ba (aB w9 (aN opa na sa ma pa qa ra ta ua va))))
  have C5:aO 6 bJ (bO w6.heap.size) (w9.alloc (aN opa na sa ma pa qa ra ta ua va)) (.slice (some ⟨w9.heap.size,0,none⟩) 1 1) [xa]:=aO.of_block (css:=[[.int .i64 opa,.int .i64 na,.string sa,.string ma,.slice pa qa ra,.slice ta ua va]]) (bY w9 _) (by show w6.heap.size<=w9.heap.size;omega) rfl R2 (fun i y c hy hc=>by
   match i,hy,hc with
   |0,hy,hc=>cases hy;cases hc;exact aH _ _ _ _ _ _ (aQ.later (aA uV (aB w9 _))) LV.out) rfl R0
  have AJ:=aC (aB w9 (aN opa na sa ma pa qa ra ta ua va)) (aC uV I8.out);obtain⟨⟨r0,r1,r2,r3,r4,r5⟩,g0,g1,g2,g3,g4,g5⟩:=bx6 AJ;refine zq 5 (dW 16 (bN t.text) ⟨#[]⟩ ⟨#[]⟩ none 0 0 (some ⟨w9.heap.size,0,none⟩) 1 1) rfl ?_;try simp only[zn]
  refine zr 6 rfl (fun K hK=>?_);go_simp;have hE:=gX (N:=bO w6.heap.size) (x:=.mk 16 (bN t.text) noB noB [] [xa]) (op:=16) (n:=bN t.text) (s:=⟨#[]⟩) (m:=⟨#[]⟩) (a1:=none) (n1:=0) (c1:=0) (a2:=some ⟨w9.heap.size,0,none⟩) (n2:=1) (c2:=1) HW.out HO9 (HA8.out.later (aA uV (aB w9 _))) VH (fun b hb=>T6);have EY:=kH (w9.alloc (aN opa na sa ma pa qa ra ta ua va)) w.heap.size (.int .i64 16) (.int .i64 (bN t.text)) (.string ⟨#[]⟩) (.string ⟨#[]⟩) (.slice none 0 0) (.slice (some ⟨w9.heap.size,0,none⟩) 1 1);have hTz:=EY.heap RY hT9;have hBz:=EY.heap RY hB9;unfold gC at hE hTz hBz;refine hK.out _ _ ⟨hTz,hBz⟩ (fun hS=>?_);clear hK K;try simp only[zn]
  refine wpAnyH_done RZ ?_ _;go_wp2_with fail;refine bodyPost_ret (v:=dW 16 (bN t.text) ⟨#[]⟩ ⟨#[]⟩ none 0 0 (some ⟨w9.heap.size,0,none⟩) 1 1) R6 rfl ?_;exact Ran.good (by rw[<-AW.out] at *;exact qI.out) ⟨⟨16,bN t.text,⟨#[]⟩,⟨#[]⟩,none,0,0,some ⟨w9.heap.size,0,none⟩,1,1,rfl,hE.1⟩,hE.2.1,RY⟩ hE.2.2
 rw[if_pos RZ];go_simp;have J4:Below w8.heap.size w8 ((w8.alloc (aN opa na sa ma pa qa ra ta ua va)).drew):=(aB w8 (aN opa na sa ma pa qa ra ta ua va)).drew;refine hK.out _ _ ⟨aC J4 hT8,aC J4 hB8⟩ (fun hS=>?_);clear hK K;try simp only[zn]
 refine zr 2 rfl (fun K hK=>?_);go_simp;refine(iS t.text ((w8.alloc (aN opa na sa ma pa qa ra ta ua va)).drew) (HA8.out.later J4).spc).mono ?_;rintro e w9 ⟨rfl,rG⟩;have uV:=aA J4 rG;have AC:=uV.size;have hT9:=aC uV hT8;have hB9:=aC uV hB8;refine hK.out _ _ ⟨hT9,hB9⟩ (fun hS=>?_);clear hK K;try simp only[zn]
 have HO9:=L2.out.trans (Ba uV);have qS:w9.heap[w8.heap.size]? =some (aN opa na sa ma pa qa ra ta ua va):=aC rG (aC (aF _) (bY w8 _))
 have C5:aO 6 bJ (bO w6.heap.size) w9 (.slice (some ⟨w8.heap.size,0,none⟩) 1 1) [xa]:=aO.of_block (css:=[[.int .i64 opa,.int .i64 na,.string sa,.string ma,.slice pa qa ra,.slice ta ua va]]) qS (by show w6.heap.size<=w8.heap.size;omega) rfl R2 (fun i y c hy hc=>by
  match i,hy,hc with
  |0,hy,hc=>cases hy;cases hc;exact aH _ _ _ _ _ _ (aQ.later uV) LV.out) rfl R0
 have AJ:=aC uV I8.out;obtain⟨⟨r0,r1,r2,r3,r4,r5⟩,g0,g1,g2,g3,g4,g5⟩:=bx6 AJ;refine zq 5 (dW 16 (bN t.text) ⟨#[]⟩ ⟨#[]⟩ none 0 0 (some ⟨w8.heap.size,0,none⟩) 1 1) rfl ?_;try simp only[zn]
 refine zr 6 rfl (fun K hK=>?_);go_simp;have hE:=gX (N:=bO w6.heap.size) (x:=.mk 16 (bN t.text) noB noB [] [xa]) (op:=16) (n:=bN t.text) (s:=⟨#[]⟩) (m:=⟨#[]⟩) (a1:=none) (n1:=0) (c1:=0) (a2:=some ⟨w8.heap.size,0,none⟩) (n2:=1) (c2:=1) HW.out HO9 (HA8.out.later uV) VH (fun b hb=>T6);have EY:=kH w9 w.heap.size (.int .i64 16) (.int .i64 (bN t.text)) (.string ⟨#[]⟩) (.string ⟨#[]⟩) (.slice none 0 0) (.slice (some ⟨w8.heap.size,0,none⟩) 1 1);have hTz:=EY.heap RY hT9;have hBz:=EY.heap RY hB9;unfold gC at hE hTz hBz;refine hK.out _ _ ⟨hTz,hBz⟩ (fun hS=>?_);clear hK K;try simp only[zn]
 refine wpAnyH_done RZ ?_ _;go_wp2_with fail;refine bodyPost_ret (v:=dW 16 (bN t.text) ⟨#[]⟩ ⟨#[]⟩ none 0 0 (some ⟨w8.heap.size,0,none⟩) 1 1) R6 rfl ?_;exact Ran.good (by rw[<-AW.out] at *;exact qI.out) ⟨⟨16,bN t.text,⟨#[]⟩,⟨#[]⟩,none,0,0,some ⟨w8.heap.size,0,none⟩,1,1,rfl,hE.1⟩,hE.2.1,RY⟩ hE.2.2
theorem primary_ok(p:Prs)(f:Nat)(hE:gV p f)(sJ:mB p f):PrimOk p f:=fun i w h sH=>by
 by_cases k1:(aI p.l i).kind=1
 ·exact prim_num p f hE sJ w i h sH k1
 cases qt:isP p.l i cU with
 |true=>exact prim_true p f hE sJ w i h sH k1 qt
 |false=>
  cases qf:isP p.l i bU with
  |true=>exact prim_false p f hE sJ w i h sH k1 qt qf
  |false=>
   cases qg:isP p.l i gM with
   |true=>exact prim_get p f hE sJ w i h sH k1 qt qf qg
   |false=>
    by_cases k0:(aI p.l i).kind=0
    ·by_cases kb:bN (aI p.l i).text=0
     ·cases qb:isP p.l i bH with
      |true=>exact prim_record_z p f hE sJ w i h sH k1 qt qf qg k0 kb qb
      |false=>
       cases qo:isP p.l i aS with
       |true=>exact prim_paren_z p f hE sJ w i h sH k1 qt qf qg qb k0 kb qo
       |false=>
        cases qc:isP p.l (i+1) aS with
        |true=>exact prim_call_z p f hE sJ w i h sH k1 qt qf qg qb qo k0 kb qc
        |false=>
         cases qd:eS p.l (i+1) with
         |true=>exact prim_method_z p f hE sJ w i h sH k1 qt qf qg qb qo k0 kb qc qd
         |false=>exact prim_var_z p f hE sJ w i h sH k1 qt qf qg qb qo k0 kb qc qd
     exact prim_act_z p f hE sJ w i h sH k1 qt qf qg k0 kb
    cases qb:isP p.l i bH with
    |true=>exact prim_record_n p f hE sJ w i h sH k1 qt qf qg k0 qb
    |false=>
     cases qo:isP p.l i aS with
     |true=>exact prim_paren_n p f hE sJ w i h sH k1 qt qf qg qb k0 qo
     |false=>
      cases qc:isP p.l (i+1) aS with
      |true=>exact prim_call_n p f hE sJ w i h sH k1 qt qf qg qb qo k0 qc
      |false=>
       cases qd:eS p.l (i+1) with
       |true=>exact prim_method_n p f hE sJ w i h sH k1 qt qf qg qb qo k0 qc qd
       |false=>exact prim_var_n p f hE sJ w i h sH k1 qt qf qg qb qo k0 qc qd
def encXo(o:Option Nat)(N:Nat->Prop)(w:World)(x:Xp)(cs:List Value):Prop:=bJ (fun b=>N b/\o≠some b) w x cs
theorem encXo_ok(o:Option Nat):fM (encXo o):=fun _ _ _ _ _ _ hm h=>aH _ _ _ _ _ _ (fun b hb hl=>⟨⟨(hm b hb.1 hl).1,hb.2⟩,(hm b hb.1 hl).2⟩) h
theorem Gro.change{α:Type}{k:Nat}{T:TypeId}{enc enc':(Nat->Prop)->World->α->List Value->Prop}{B:Nat}{l:List α}{css:List (List Value)}{v:Value}{w w':World}(h:Gro k T enc B l css v w)
  (hs:w.heap.size<=w'.heap.size) (ho:∀b,v.ownBlock=some b->w'.heap[b]? =w.heap[b]?) (he:∀x c,enc (nD B v) w x c->enc' (nD B v) w' x c):Gro k T enc' B l css v w':=by
 refine⟨?_,h.len,h.ks,fun i x c hx hc=>he x c (h.enc i x c hx hc),Nat.le_trans h.big hs⟩;obtain⟨h1,h2⟩:=h.own;refine⟨h1,?_⟩;rcases h2 with h2|⟨g,cap,cur,hv,hg,JU,r⟩
 ·exact .inl h2
 exact .inr ⟨g,cap,cur,hv,hg,(ho g (by rw[hv];rfl)).trans JU,r⟩
structure RecL (p:Prs) (W:World) (b3 B:Nat) (names:List bA) (cn:List (List Value)) (args:List Xp) (ca:List (List Value)) (vn va:Value) (wr:World):Prop where
 off:Off p.S W wr
 res:wr.heap[W.heap.size]? =some (.cells bC 35)
 loc:wr.heap[b3]? =some (oBx19 13 0 ⟨#[]⟩ ⟨#[]⟩ vn va)
 nam:Gro 1 9 iD B names cn vn wr
 arg:Gro 6 35 (encXo vn.ownBlock) B args ca va wr
 b3:W.heap.size<b3/\b3<B
 pb:p.pb<W.heap.size
 disj:∀b,vn.ownBlock=some b->va.ownBlock≠some b
section
variable {p:Prs} {W wr w':World} {b3 B:Nat} {names:List bA} {cn ca:List (List Value)} {args:List Xp} {vn va:Value}
theorem RecL.next(h:RecL p W b3 B names cn args ca vn va wr)(ho:Off p.S wr w'):RecL p W b3 B names cn args ca vn va w':=by
 have tY:=h.pb;have hb:=h.b3;have hs:dC B wr w':=dC.of_off ho fun b pN=>.inl (by have pN:b=p.pb:=pN;omega);exact⟨h.off.trans ho,ho.heap (fun e=>by have e:W.heap.size=p.pb:=e;omega) h.res,ho.heap (fun e=>by have e:b3=p.pb:=e;omega) h.loc,h.nam.stays bP hs,h.arg.stays (encXo_ok _) hs,hb,tY,h.disj⟩
theorem RecL.addName{w8 rB:World}{g cap n1:Nat}{s:bA}(h:RecL p W b3 B names cn args ca vn va w8)(hs:s.size<=8000)
  (pR:rB.ownsRow B 9 1 (.slice (some ⟨g,0,none⟩) n1 cap) n1 (cn.flatten++[.string s])) (hn:n1=names.length+1) (pM:(w8.alloc (nF s)).grownBy rB vn.ownBlock) (qV:vn.ownBlock=some g\/g=w8.heap.size+1):
  rB.heap[b3]? =some (oBx19 13 0 ⟨#[]⟩ ⟨#[]⟩ vn va)/\
  RecL p W b3 B (names++[s]) (cn++[[.string s]]) args ca (.slice (some ⟨g,0,none⟩) n1 cap) va (rB.setCell ⟨b3,4,none⟩ (.slice (some ⟨g,0,none⟩) n1 cap))/\
  Off (fun b=>W.heap.size<=b) w8 (rB.setCell ⟨b3,4,none⟩ (.slice (some ⟨g,0,none⟩) n1 cap)):=by
 subst hn;have hb:=h.b3;have tY:=h.pb;have h9:=h.next (Ba (aB w8 (nF s)));have qA:=h9.nam.lt;have MR:=h9.arg.lt;have AC:(w8.alloc (nF s)).heap.size=w8.heap.size+1:=R2;have sB:=h9.nam.big;have xY:Off (fun b=>vn.ownBlock=some b) (w8.alloc (nF s)) rB:=⟨pM.os,pM.tape,pM.output,pM.size,fun b hb hn=>pM.block b hb (fun e=>hn e.symm)⟩;have JG:Off (fun b=>b=b3) rB (rB.setCell ⟨b3,4,none⟩ (.slice (some ⟨g,0,none⟩) (names.length+1) cap)):=Off.setCell (S:=fun b=>b=b3) rB rfl;have nb3:¬vn.ownBlock=some b3:=fun e=>by have:=(qA b3 e).1;omega
 have FU:rB.heap[b3]? =_:=xY.heap nb3 h9.loc;have oa:Off (fun b=>vn.ownBlock=some b\/b=b3) (w8.alloc (nF s)) (rB.setCell ⟨b3,4,none⟩ (.slice (some ⟨g,0,none⟩) (names.length+1) cap)):=(xY.mono fun b h=>.inl h).trans (JG.mono fun b h=>.inr h)
 have obig:Off (fun b=>W.heap.size<=b) (w8.alloc (nF s)) (rB.setCell ⟨b3,4,none⟩ (.slice (some ⟨g,0,none⟩) (names.length+1) cap)):=oa.mono fun b h=>by
  rcases h with h|h
  ·have:=(qA b h).1;omega
  omega
 have hg:∀b,b<w8.heap.size+1->vn.ownBlock≠some b->b≠g:=fun b hb hn e=>by
  subst e;rcases qV with h1|h1
  ·exact hn h1
  omega
 have hA:=h9.nam.added bP (x:=s) ⟨rfl,RY⟩ rfl pR pM U7;refine⟨FU,⟨?_,?_,?_,hA.stays bP (dC.of_off JG fun b pN=>.inl RY),?_,hb,tY,fun b pN e=>?_⟩,(Ba (aB _ _)).trans obig⟩
 ·exact Off.fresh ((h9.off.or _).trans (obig.mono fun b h=>.inr h)) (Nat.le_refl _)
 ·exact oa.heap (fun h=>h.elim (fun h=>by have:=(qA _ h).1;omega) (fun h=>RY)) h9.res
 ·rw[aU FU];rfl
 ·refine h9.arg.change (by have:=pM.size;rw[fR];exact this) (fun b pN=>oa.block b (MR b pN).2 (fun h=>?_)) (fun x c hx=>?_)
  ·rcases h with h|h
   ·exact h9.disj b h pN
   have:=(MR b pN).1;omega
  refine aH _ _ _ _ _ _ (fun b pN hl=>⟨⟨pN.1,fun e=>?_⟩,fun o u hu=>oa.cell (fun h=>?_) hu⟩) hx
  ·have e:g=b:=UG;exact hg b (by rw[<-AC];exact hl) pN.2 e.symm
  rcases h with h|h
  ·exact pN.2 h
  have:=pN.1.1;omega
 have pN:g=b:=by simpa[Value.ownBlock] using pN
 subst pN;rcases qV with h1|h1
 ·exact h9.disj g h1 e
 have:=(MR g e).2;have:=(h.arg.lt g e).2;omega
theorem RecL.addArg{uC rD tB:World}{g cap n1:Nat}{x:Xp}{cs:List Value}(h:RecL p W b3 B names cn args ca vn va uC)(ho:Off p.S uC rD)(hx:bJ (bO uC.heap.size) rD x cs)(hl:cs.length=6)
  (pR:tB.ownsRow B 35 6 (.slice (some ⟨g,0,none⟩) n1 cap) n1 (ca.flatten++cs)) (hn:n1=args.length+1) (pM:(rD.alloc (.cells cs.toArray 35)).grownBy tB va.ownBlock) (qV:va.ownBlock=some g\/g=rD.heap.size+1):
  tB.heap[b3]? =some (oBx19 13 0 ⟨#[]⟩ ⟨#[]⟩ vn va)/\
  RecL p W b3 B names cn (args++[x]) (ca++[cs]) vn (.slice (some ⟨g,0,none⟩) n1 cap) (tB.setCell ⟨b3,5,none⟩ (.slice (some ⟨g,0,none⟩) n1 cap))/\
  Off (fun b=>W.heap.size<=b) rD (tB.setCell ⟨b3,5,none⟩ (.slice (some ⟨g,0,none⟩) n1 cap)):=by
 subst hn;have hb:=h.b3;have tY:=h.pb;have CG:=h.next ho;have h9:=CG.next (Ba (aB rD (.cells cs.toArray 35)));have qA:=h9.arg.lt;have hltn:=h9.nam.lt;have hlt11:=h.arg.lt;have FS:=h.nam.lt;have AC:(rD.alloc (.cells cs.toArray 35)).heap.size=rD.heap.size+1:=R2;have hz12:=ho.size;have hbig11:=h.nam.big;have xY:Off (fun b=>va.ownBlock=some b) (rD.alloc (.cells cs.toArray 35)) tB:=⟨pM.os,pM.tape,pM.output,pM.size,fun b hb hn=>pM.block b hb (fun e=>hn e.symm)⟩;have JG:Off (fun b=>b=b3) tB (tB.setCell ⟨b3,5,none⟩ (.slice (some ⟨g,0,none⟩) (args.length+1) cap)):=Off.setCell (S:=fun b=>b=b3) tB rfl;have nb3:¬va.ownBlock=some b3:=fun e=>by have:=(qA b3 e).1;omega
 have FU:tB.heap[b3]? =_:=xY.heap nb3 h9.loc;have oa:Off (fun b=>va.ownBlock=some b\/b=b3) (rD.alloc (.cells cs.toArray 35)) (tB.setCell ⟨b3,5,none⟩ (.slice (some ⟨g,0,none⟩) (args.length+1) cap)):=(xY.mono fun b h=>.inl h).trans (JG.mono fun b h=>.inr h)
 have obig:Off (fun b=>W.heap.size<=b) (rD.alloc (.cells cs.toArray 35)) (tB.setCell ⟨b3,5,none⟩ (.slice (some ⟨g,0,none⟩) (args.length+1) cap)):=oa.mono fun b h=>by
  rcases h with h|h
  ·have:=(qA b h).1;omega
  omega
 have hxo:encXo vn.ownBlock (nD B va) (rD.alloc (.cells cs.toArray 35)) x cs:=aH _ _ _ _ _ _ (fun b pN hl=>⟨⟨⟨by have pN:uC.heap.size<=b:=pN;omega,fun e=>by have pN:uC.heap.size<=b:=pN;have:=(hlt11 b e).2;omega⟩,fun e=>by have pN:uC.heap.size<=b:=pN;have:=(FS b e).2;omega⟩,fun o u hu=>aD (aB _ _) hu⟩) hx;have hA:=h9.arg.added (encXo_ok _) hxo hl pR pM U7;refine⟨FU,⟨?_,?_,?_,?_,hA.stays (encXo_ok _) (dC.of_off JG fun b pN=>.inl RY),hb,tY,fun b pN e=>?_⟩,(Ba (aB _ _)).trans obig⟩
 ·exact Off.fresh ((h9.off.or _).trans (obig.mono fun b h=>.inr h)) (Nat.le_refl _)
 ·exact oa.heap (fun h=>h.elim (fun h=>by have:=(qA _ h).1;omega) (fun h=>RY)) h9.res
 ·rw[aU FU];rfl
 ·refine h9.nam.change (by have:=pM.size;rw[fR];exact this) (fun b pN=>oa.block b (hltn b pN).2 (fun h=>?_)) (fun x c hx=>hx);rcases h with h|h
  ·exact h9.disj b pN h
  have:=(hltn b pN).1;omega
 have e:g=b:=UG;subst e;rcases qV with h1|h1
 ·exact h9.disj g pN h1
 have:=(FS g pN).2;omega
theorem RecL.exp(h:RecL p W b3 B names cn args ca vn va wr):bJ (bO B) wr (.mk 13 0 noB noB names args) [.int .i64 13,.int .i64 0,.string ⟨#[]⟩,.string ⟨#[]⟩,vn,va]:=by
 rw[aW];refine⟨vn,va,rfl,R0,R0,h.nam.row bP,?_⟩;obtain⟨a,c,h1,h2,h3,h4⟩:=h.arg.row (encXo_ok _);refine⟨a,c,h1,h2,h3,fun pQ=>?_⟩;obtain⟨b,o,pO,pN,pX⟩:=h4 pQ;refine⟨b,o,pO,pN,fun i x hx=>?_⟩;obtain⟨cs,e1,e2,e3⟩:=pX i x hx;exact⟨cs,aH.wide e1 (fun b hb _=>hb.1),e2,e3⟩
end
end Go.Proofs.YtiionicikdnnpaaGreatDoor
namespace Go.Proofs.YtiionicikdnnpaaGreatDoor
open Go.RowKit
theorem O0{p:Prop}(h:p:=by
 refine hK.out _ _ trivial (fun hS=>?_);clear hK K;try simp only[zn]
 have LJ:=wB.out.next (Ba (aF uC));have yK:=wA.out.next (Ba (aB rD (aN opc nc sc mc pc qc rc tc uc vc)));have rN:=yK.arg.big;refine wpAnyH_ready (rs:=[5]) RZ R2 ?_;refine AllReadyH.cons rfl (fun K hK=>?_) AllReadyH.nil;refine step_append_lies (rD.alloc (aN opc nc sc mc pc qc rc tc uc vc)) rfl _ _ 25 rfl B 35 i0 (dW 0 0 ByteArray.empty ByteArray.empty none 0 0 none 0 0) 6 96 Tryz.underlying25 xS xN sG rU rfl RY (.slice a2 args.length c2) args.length ca.flatten TH yK.arg.own ⟨rD.heap.size,0,none⟩ 1 1 [.int .i64 opc,.int .i64 nc,.string sc,.string mc,.slice pc qc rc,.slice tc uc vc] TH rfl (World.news_of_block (cs:=#[.int .i64 opc,.int .i64 nc,.string sc,.string mc,.slice pc qc rc,.slice tc uc vc]) (t:=35) (fr:=(0,0)) (bY rD _)) SG RY SH RY rN (rD.heap.size+1) R2 ?_;intro g' cap' tB pR pM qV _;obtain⟨BO,BK,oB⟩:=LJ.addArg qU EE rfl pR rfl pM qV;have B8:=zh (HW.out.above rO oB);have BZ:=zh BK;have rP:=zh (G2.out.trans (PR.bnd_ok rH));clear pR pM qV BK oB yK rN LJ rO qU EE rH wA;refine hK.out _ _ trivial (fun hS=>?_);clear hK K;refine zq 6 (.pointer (some ⟨w.heap.size+1,5,none⟩)) rfl ?_;try simp only[zn]
 refine zr 7 rfl (fun K hK=>?_);try simp only[z1,z2,z3]
 obtain⟨⟨c0,c1,c2,c3,c4,c5⟩,h0,h1,h2,h3,h4,h5⟩:=bx6 BO;go_simp;clear c0 c1 c2 c3 c4 c5 h0 h1 h2 h3 h4 h5 BO;refine hK.out _ _ trivial (fun hS=>?_);clear hK K;try simp only[zn]
 refine wpAnyH_done RZ ?_ _;clear hS wB AR HE;generalize tB.setCell ⟨w.heap.size+1,5,none⟩ (.slice (some ⟨g',0,none⟩) (args.length+1) cap')=zP at *;have LB:=B8.out.lt;go_wp2_with(first|(go_at_call 110;refine(dK p E4 uM cL (by have h:=tA;rw[if_neg UW] at h;exact h)).mono ?_;rintro e w16 (⟨x16,wI,rfl,A3⟩|⟨⟨⟩,k16,wI,⟨rfl,GR⟩,A3⟩)<;>have vG:=zh (BZ.out.next (rV.trans A3))<;>obtain⟨⟨c0,c1,c2,c3,c4,c5⟩,h0,h1,h2,h3,h4,h5⟩:=bx6 vG.out.loc<;>obtain⟨⟨r0,r1,r2,r3,r4,r5⟩,g0,g1,g2,g3,g4,g5⟩:=bx6 vG.out.res)|(go_at_call 120;refine(mN p zP uM aY B8.out).mono ?_;rintro e E4 ⟨rfl,tA,rV⟩))
 ·have sI:¬isP p.l uM aY=true:=UW;exact⟨rfl,Ran.bad' (rP.out.trans ((if_neg sI).trans (PR.bnd_bad wI))) vG.out.off⟩
 ·have sI:¬isP p.l uM aY=true:=UW;have hk16:=(cX wI).1;have hE:=gX HW.out vG.out.off GR vG.out.exp (fun b hb=>U1);unfold gC at hE;refine bodyPost_ret (v:=dW 13 0 ⟨#[]⟩ ⟨#[]⟩ (some ⟨g,0,none⟩) (names.length+1) cap (some ⟨g',0,none⟩) (args.length+1) cap') (by simp[results,Tryz.results219,go_sem,r0,r1,r2,r3,r4,r5]) rfl ?_;exact Ran.good (rP.out.trans ((if_neg sI).trans (PR.bnd_ok wI))) ⟨⟨13,0,⟨#[]⟩,⟨#[]⟩,_,_,_,_,_,_,rfl,hE.1⟩,hE.2.1,RY⟩ hE.2.2
 have sI:isP p.l uM aY=true:=by simpa using ‹(!isP p.l uM aY)=false›
 rw[if_pos sI] at tA;have rW:=tA.lt;have IL:=zh (BZ.out.next rV);have B7:=zh tA;have AL:=zh (rP.out.trans (if_pos sI));obtain⟨F',tQ⟩:∃F',F=F'+1:=⟨F-1,RY⟩;clear tA rV sI;go_roundw
 case rel=>
  subst tQ;exact⟨uM+1,F',s,names++[s],_,_,args++[xc],some ⟨g,0,none⟩,cap,some ⟨g',0,none⟩,cap',rfl,by simpa using IL,B7,AL,zh ⟨RY,RY,SX,by have:=HB.out.2.2.2;simp;omega⟩⟩
 case measure=>
  rw[B7.out.pos,HA.out.pos];omega):p:=h
theorem RN{p:Prop}(h:p:=by
 go_wp2_with fail
 exact⟨rfl,Ran.bad' (G2.out.trans (PR.bnd_bad rH)) (wB.out.off.trans ((Ba (aF uC)).trans qU))⟩):p:=h
theorem strInfo1:(Tryz.prog.info? 9).map (fun i=>(i.zero,i.size,i.bytes))=some (some (.string ByteArray.empty),1,16):=RZ
theorem Gro.slice{α:Type}{k:Nat}{T:TypeId}{enc:(Nat->Prop)->World->α->List Value->Prop}{B:Nat}{l:List α}{css:List (List Value)}{v:Value}{w:World}(h:Gro k T enc B l css v w):∃a c,v=.slice a l.length c:=by
 rcases h.val with⟨rfl,rfl⟩|⟨g,cap,rfl,-,-⟩
 ·exact⟨_,_,rfl⟩
 exact⟨_,_,rfl⟩
section
variable {l:List Tok} {rec:RecP} {F q:Nat} {names:List bA} {args:List Xp} {last:bA}
theorem recFrom_step(hq:cG l q=true)(hr:eH l q names.length 8=.ok ((),q)):bV l rec (F+1) names args last q=
  (eC l q last (decide (0<names.length))).bnd fun s j=>(dD l j kEq).bnd fun _ j2=>(rec 0 j2).bnd fun e j3=>
   if isP l j3 aY then bV l rec F (names++[s]) (args++[e]) s (j3+1) else(dD l j3 cL).bnd fun _ k=>.ok (.mk 13 0 noB noB (names++[s]) (args++[e]),k):=by
 rw[bV,if_pos hq,hr];rfl
theorem recFrom_full(hq:cG l q=true){x:Int×Int}(hr:eH l q names.length 8=.error x):bV l rec (F+1) names args last q=.error x:=by
 rw[bV,if_pos hq,hr];rfl
theorem recFrom_noname(hq:cG l q=false):bV l rec (F+1) names args last q=.error ((aI l q).pos,11):=by
 rw[bV,if_neg UJ];unfold eC;rw[hq];rfl
end
theorem record_any(p:Prs)(f:Nat)(hE:gV p f):mB p f:=fun i w h sH=>by
 obtain⟨i0,xS,xN,sG,rU⟩:=info_parts xpInfo;obtain⟨i1,LE,hy0,hy1,hy2⟩:=info_parts strInfo1;have HE:=zh hE;have HW:=zh h;have qG:=h.len;have tY:=h.blt;have pQ:w.heap.size≠p.pb:=RY;have hne1:w.heap.size+1≠p.pb:=RY;have zD:(w.alloc (.cells bC 35)).heap.size=w.heap.size+1:=R2;have vS:((w.alloc (.cells bC 35)).alloc (aN 13 0 ⟨#[]⟩ ⟨#[]⟩ none 0 0 none 0 0)).heap.size=w.heap.size+2:=R2;have BA:Below w.heap.size w ((w.alloc (.cells bC 35)).alloc (aN 13 0 ⟨#[]⟩ ⟨#[]⟩ none 0 0 none 0 0)):=aA (aB _ _) (aB _ _);have HBA:=zh BA;have HAa:=zh (h.later BA);have HRa:=zh (aC (aB (w.alloc (.cells bC 35)) (aN 13 0 ⟨#[]⟩ ⟨#[]⟩ none 0 0 none 0 0)) (bY w (.cells bC 35)));have hLa:=bY (w.alloc (.cells bC 35)) (aN 13 0 ⟨#[]⟩ ⟨#[]⟩ none 0 0 none 0 0);rw[zD] at hLa;have HLa:=zh hLa;clear h hE BA hLa
 cases tS:isP p.l i cL with
 |true=>
  have HH:=zh (fY p ((w.alloc (.cells bC 35)).alloc (aN 13 0 ⟨#[]⟩ ⟨#[]⟩ none 0 0 none 0 0)) i cL HAa.out tS);have HR:Hid (iP p.l (bL p.l f) i=.ok (.mk 13 0 noB noB [] [],i+1)):=zh (by unfold iP;rw[if_pos tS]);clear tS;go_enter Tryz.func219,Tryz.ntmps219;go_wp2_with(go_at_call 120;refine HH.out.mono ?_;rintro e w2 ⟨rfl,qY,pU⟩;have hR2:=pU.heap pQ HRa.out;have hL2:=pU.heap hne1 HLa.out;obtain⟨⟨r0,r1,r2,r3,r4,r5⟩,g0,g1,g2,g3,g4,g5⟩:=bx6 hR2;obtain⟨⟨c0,c1,c2,c3,c4,c5⟩,h0,h1,h2,h3,h4,h5⟩:=bx6 hL2);have hE:=gX (N:=fun _=>False) (x:=.mk 13 0 noB noB [] []) (op:=13) (n:=0) (s:=⟨#[]⟩) (m:=⟨#[]⟩) (a1:=none) (n1:=0) (c1:=0) (a2:=none) (n2:=0) (c2:=0) HW.out ((Ba HBA.out).trans pU) qY SR (fun b hb=>hb.elim);unfold gC at hE;refine bodyPost_ret (v:=dW 13 0 ⟨#[]⟩ ⟨#[]⟩ none 0 0 none 0 0) (by simp[results,Tryz.results219,go_sem,r0,r1,r2,r3,r4,r5]) rfl ?_;exact Ran.good HR.out ⟨⟨13,0,⟨#[]⟩,⟨#[]⟩,none,0,0,none,0,0,rfl,hE.1⟩,hE.2.1,RY⟩ hE.2.2
 |false=>
  have HH:=zh (bI p ((w.alloc (.cells bC 35)).alloc (aN 13 0 ⟨#[]⟩ ⟨#[]⟩ none 0 0 none 0 0)) i cL HAa.out tS);have HR:Hid (iP p.l (bL p.l f) i=bV p.l (bL p.l f) (p.l.length+1) [] [] noB i):=zh (by unfold iP;rw[if_neg (by rw[tS];simp)]);clear tS;go_enter Tryz.func219,Tryz.ntmps219;go_wp2_with(go_at_call 120;refine HH.out.mono ?_;rintro e w2 ⟨rfl,qY,pU⟩);have MD:=pU.size;have OF:Hid (RecL p w (w.heap.size+1) w2.heap.size [] [] [] [] (.slice none 0 0) (.slice none 0 0) w2):=zh ⟨(Ba HBA.out).trans pU,pU.heap pQ HRa.out,pU.heap hne1 HLa.out,Gro.first _ _ _ _,Gro.first _ _ _ _,⟨RY,RY⟩,tY,fun b hb=>by cases hb⟩;have A0:=zh qY;have hb3B:w.heap.size+1<w2.heap.size:=RY;clear qY pU HH HRa HLa HAa HBA vS MD;generalize w2.heap.size=B at *;go_loopw [4] (fun sl wr=>∃(q F:Nat)(last:bA)(names:List bA)(cn ca:List (List Value))(args:List Xp)(a1:Option Addr)(c1:Nat)(a2:Option Addr)(c2:Nat),sl=.string last/\Hid (RecL p w (w.heap.size+1) B names cn args ca (.slice a1 names.length c1) (.slice a2 args.length c2) wr)/\Hid (p.At wr q)/\Hid (iP p.l (bL p.l f) i=bV p.l (bL p.l f) (F+1) names args last q)/\Hid (p.l.length<=F+q/\i<=q/\names.length<=8/\args.length=names.length)) (fun _ wr=>p.l.length-posOf wr p.pb)
  case atStart=>exact⟨i,p.l.length,_,[],[],[],[],none,0,none,0,rfl,OF,A0,HR,zh ⟨RY,Nat.le_refl _,R0,rfl⟩⟩
  case round=>
   obtain⟨q,F,last,names,cn,ca,args,a1,c1,a2,c2,rfl,HL,HA,qI,HB⟩:=hrel;(rename World=>wr);have zF:=HB.out.1;have zE:=HB.out.2.1;have MK:=HB.out.2.2.1;(have hq5:args.length<=8:=by have:=HB.out.2.2.2;omega);have A2:=HA.out.lt
   cases uO:cG p.l q with
   |false=>
    ·skip;go_wp2_with(first|(go_at_call 183;refine(mT p w5 q last _ ER.out).mono ?_;rintro e w6 (⟨x,hx,rfl,qR⟩|⟨s,j6,hx,⟨rfl,tG,EV⟩,qR⟩))|(go_at_call 182;refine(iC p wr q HA.out).mono ?_;rintro e w5 ⟨rfl,hb5⟩;rw[uO];have ER:=zh (HA.out.later hb5);have tU:=zh (HL.out.next (Ba hb5));obtain⟨⟨c0,wG,AV,c3,c4,c5⟩,h0,h1,h2,h3,h4,h5⟩:=bx6 tU.out.loc))
     ·exact⟨rfl,Ran.bad' (by have e:=(jA uO).symm.trans hx;cases e;exact qI.out.trans (recFrom_noname uO)) (tU.out.off.trans qR)⟩
     rw[jA uO] at hx;cases hx
   |true=>
    ·skip;go_wp2_with(first|(go_at_call 110;have hj7:=laterP_ok rJ;refine(dK p w7 j7 kEq rX).mono ?_;rintro e w8 (⟨x8,tC,rfl,rZ⟩|⟨⟨⟩,j8,tC,⟨rfl,vT⟩,rZ⟩)<;>have HL8:=zh (L5.out.next rZ)<;>obtain⟨⟨k0,k1,k2,k3,k4,k5⟩,-⟩:=bx6 HL8.out.loc)|(go_at_call 183;have hj6:=oP tD;subst hj6;refine(mT p w6 j6 last _ tG).mono ?_;rintro e w7 (⟨x7,rJ,rfl,qO⟩|⟨s,j7,rJ,⟨rfl,rX,hs7⟩,qO⟩)<;>have L5:=zh (zL.out.next qO))|(go_at_call 113;refine(oO p w5 q names.length 8 ER.out).mono ?_;rintro e w6 (⟨x6,tD,rfl,qR⟩|⟨⟨⟩,j6,tD,⟨rfl,tG⟩,qR⟩)<;>have zL:=zh (tU.out.next qR)<;>obtain⟨⟨e0,e1,e2,e3,e4,e5⟩,-⟩:=bx6 zL.out.loc)|(go_at_call 182;refine(iC p wr q HA.out).mono ?_;rintro e w5 ⟨rfl,hb5⟩;rw[uO];have ER:=zh (HA.out.later hb5);have tU:=zh (HL.out.next (Ba hb5));obtain⟨⟨d0,d1,d2,d3,d4,d5⟩,-⟩:=bx6 tU.out.loc)|(at_builtin;have hL9:=HL8.out.next (Ba (aB w8 (nF s)));have sB:=hL9.nam.big;refine wpList_append_lies _ rfl _ _ 23 rfl B 9 i1 (.string ByteArray.empty) 1 16 Tryz.underlying23 LE hy0 hy1 hy2 rfl RY (.slice a1 names.length c1) names.length cn.flatten TH hL9.nam.own ⟨w8.heap.size,0,none⟩ 1 1 [.string s] TH rfl (World.news_of_block (cs:=#[.string s]) (t:=9) (fr:=(0,0)) (bY w8 _)) SG RY SH RY sB (w8.heap.size+1) R2 ?_))
     ·exact⟨rfl,Ran.bad' (qI.out.trans (recFrom_full uO tD)) zL.out.off⟩
     ·exact⟨rfl,Ran.bad' (qI.out.trans ((recFrom_step uO tD).trans (PR.bnd_bad rJ))) L5.out.off⟩
     ·exact⟨rfl,Ran.bad' (qI.out.trans ((recFrom_step uO tD).trans ((PR.bnd_ok rJ).trans (PR.bnd_bad tC)))) HL8.out.off⟩
     intro g cap rB pR pM qV _;obtain⟨BP,BL,oB⟩:=HL8.out.addName hs7 pR rfl pM qV;have JT:=(cX tC).1
     have hlr:names.length<8:=by
      have h:=tD;unfold eH at h;split at h
      ·assumption
      cases h
     have AR:=zh (HW.out.above vT oB);have wB:=zh BL;have G2:=zh (qI.out.trans ((recFrom_step uO tD).trans ((PR.bnd_ok rJ).trans (PR.bnd_ok tC))));obtain⟨⟨c0,wG,AV,c3,c4,c5⟩,h0,h1,h2,h3,h4,h5⟩:=bx6 BP;clear pR pM qV BP BL oB hL9 sB tG rX vT qR qO rZ tD rJ tC d0 d1 d2 d3 d4 d5 e0 e1 e2 e3 e4 e5 k0 k1 k2 k3 k4 k5 tU zL L5 HL8;go_wp2_with fail;clear c0 wG AV c3 c4 c5 h0 h1 h2 h3 h4 h5;generalize rB.setCell ⟨w.heap.size+1,4,none⟩ (.slice (some ⟨g,0,none⟩) (names.length+1) cap)=uC at *;refine wp_region_held_drew (S:=(fun _=>True)) RZ trivial fun hS=>?_;refine zq 0 (.pointer (some ⟨w.heap.size+1,5,none⟩)) rfl ?_;refine zq 2 (.pointer (some ⟨p.pb,0,none⟩)) rfl ?_;(try simp only[zn]);refine wpAnyH_ready (rs:=[1,3]) RZ R2 ?_;refine AllReadyH.cons rfl (fun K hK=>?_) (AllReadyH.cons rfl (fun K hK=>?_) AllReadyH.nil)
     ·have hl11:=aC (aF uC) wB.out.loc;rw[if_pos RZ];(try simp only[z1,z2,z3]);obtain⟨⟨c0,c1,c2,c3,c4,c5⟩,h0,h1,h2,h3,h4,h5⟩:=bx6 hl11;go_simp;clear c0 c1 c2 c3 c4 c5 h0 h1 h2 h3 h4 h5;refine hK.out _ _ trivial (fun hS=>?_);clear hK K;(try simp only[zn]);refine zr 3 rfl (fun K hK=>?_);(try simp only[z1,z2,z3]);go_simp;refine(HE.out 0 j8 uC.drew (AR.out.later (aF _)) RY RY).mono ?_;rintro e rD (⟨x12,rH,rfl,qU⟩|⟨xc,uM,rH,⟨⟨opc,nc,sc,mc,pc,qc,rc,tc,uc,vc,rfl,EE⟩,rO,LC⟩,qU⟩)
      ·exact RN
      have wA:=zh (wB.out.next ((Ba (aF uC)).trans qU));refine hK.out _ _ trivial (fun hS=>?_);clear hK K;(try simp only[zn]);refine zr 4 rfl (fun K hK=>?_);(try simp only[z1,z2,z3]);go_simp;exact O0
     rw[if_pos RZ];(try simp only[z1,z2,z3]);go_simp;refine(HE.out 0 j8 uC.drew (AR.out.later (aF _)) RY RY).mono ?_;rintro e rD (⟨x12,rH,rfl,qU⟩|⟨xc,uM,rH,⟨⟨opc,nc,sc,mc,pc,qc,rc,tc,uc,vc,rfl,EE⟩,rO,LC⟩,qU⟩)
     ·exact RN
     have wA:=zh (wB.out.next ((Ba (aF uC)).trans qU));refine hK.out _ _ trivial (fun hS=>?_);clear hK K;(try simp only[zn]);refine wpAnyH_ready (rs:=[1,4]) RZ R2 ?_;refine AllReadyH.cons rfl (fun K hK=>?_) (AllReadyH.cons rfl (fun K hK=>?_) AllReadyH.nil)
     ·have hl12:=wA.out.loc;rw[if_pos RZ];(try simp only[z1,z2,z3]);obtain⟨⟨c0,c1,c2,c3,c4,c5⟩,h0,h1,h2,h3,h4,h5⟩:=bx6 hl12;go_simp;clear c0 c1 c2 c3 c4 c5 h0 h1 h2 h3 h4 h5;refine hK.out _ _ trivial (fun hS=>?_);clear hK K;(try simp only[zn]);refine zr 4 rfl (fun K hK=>?_);(try simp only[z1,z2,z3]);go_simp;exact O0
     rw[if_pos RZ];(try simp only[z1,z2,z3]);go_simp;refine hK.out _ _ trivial (fun hS=>?_);clear hK K;(try simp only[zn]);refine wpAnyH_ready (rs:=[1]) RZ R2 ?_;refine AllReadyH.cons rfl (fun K hK=>?_) AllReadyH.nil;have hl13:=aC (aB rD (aN opc nc sc mc pc qc rc tc uc vc)) wA.out.loc;rw[if_pos RZ];(try simp only[z1,z2,z3]);obtain⟨⟨c0,c1,c2,c3,c4,c5⟩,h0,h1,h2,h3,h4,h5⟩:=bx6 hl13;go_simp;clear c0 c1 c2 c3 c4 c5 h0 h1 h2 h3 h4 h5;exact O0
end Go.Proofs.YtiionicikdnnpaaGreatDoor
namespace Go.Proofs.YtiionicikdnnpaaGreatDoor
open Go.RowKit
theorem aO.at{α:Type}{k:Nat}{enc:(Nat->Prop)->World->α->List Value->Prop}{N:Nat->Prop}{w:World}{v:Value}{l:List α}(h:aO k enc N w v l):
  ∃a c,v=.slice a l.length c/\l.length<=c/\c<=9223372036854775807/\∀i x,l[i]? =some x->∃b o,a=some ⟨b,o,none⟩/\N b/\∃cs,enc N w x cs/\cs.length=k/\∀j u,cs[j]? =some u->w.cell? ⟨b,o+i*k+j,none⟩=some u:=by
 obtain⟨a,c,hv,h1,h2,h3⟩:=h;refine⟨a,c,hv,h1,h2,fun i x hx=>?_⟩;obtain⟨b,o,ha,hb,hc⟩:=h3 (fun e=>by rw[e] at hx;simp at hx);exact⟨b,o,ha,hb,hc i x hx⟩
theorem bx2{w:World}{b:Nat}{x0 x1:Value}{t:TypeId}(h:w.heap[b]? =some (.cells #[x0,x1] t)):
  (w.cell? ⟨b,0,none⟩=some x0/\w.cell? ⟨b,1,none⟩=some x1)/\w.frozen? ⟨b,0,none⟩=false/\w.frozen? ⟨b,1,none⟩=false:=⟨⟨(bx h 0 rfl).1,(bx h 1 rfl).1⟩,(bx h 0 (u:=x0) rfl).2,(bx h 1 (u:=x1) rfl).2⟩
theorem bx3{w:World}{b:Nat}{x0 x1 x2:Value}{t:TypeId}(h:w.heap[b]? =some (.cells #[x0,x1,x2] t)):
  (w.cell? ⟨b,0,none⟩=some x0/\w.cell? ⟨b,1,none⟩=some x1/\w.cell? ⟨b,2,none⟩=some x2)/\(w.frozen? ⟨b,0,none⟩=false/\w.frozen? ⟨b,1,none⟩=false/\w.frozen? ⟨b,2,none⟩=false):=
 ⟨⟨(bx h 0 rfl).1,(bx h 1 rfl).1,(bx h 2 rfl).1⟩,(bx h 0 (u:=x0) rfl).2,(bx h 1 (u:=x1) rfl).2,(bx h 2 (u:=x2) rfl).2⟩
abbrev dL(cb:Nat)(v:Value):Nat->Prop:=fun b=>b≠cb/\v.ownBlock≠some b
abbrev inC(cb:Nat)(v:Value):Nat->Prop:=fun b=>b=cb\/v.ownBlock=some b
structure Ext (cb:Nat) (v:Value) (w:World) (v':Value) (w':World):Prop where
 off:Off (inC cb v) w w'
 own:∀b,v'.ownBlock=some b->v.ownBlock=some b\/w.heap.size<=b
section
variable {cb:Nat} {v v' v'':Value} {w w' w'':World}
theorem Ext.refl(cb:Nat)(v:Value)(w:World):Ext cb v w v w:=⟨Off.refl _ _,fun _ h=>.inl h⟩
theorem Ext.below(cb:Nat)(v:Value)(hb:Below w.heap.size w w'):Ext cb v w v w':=⟨Ba hb,fun _ h=>.inl h⟩
theorem Ext.trans(h:Ext cb v w v' w')(k:Ext cb v' w' v'' w''):Ext cb v w v'' w'':=by
 refine⟨Off.fresh (B:=w.heap.size) ((h.off.or _).trans (k.off.mono fun b hb=>?_)) (Nat.le_refl _),fun b hb=>?_⟩
 ·rcases hb with hb|hb
  ·exact .inl (.inl hb)
  rcases h.own b hb with h1|h1
  ·exact .inl (.inr h1)
  exact .inr h1
 rcases k.own b hb with h1|h1
 ·exact h.own b h1
 exact .inr (Nat.le_trans h.off.size h1)
theorem Ext.moves(h:Ext cb v w v' w'):aQ (dL cb v) w (dL cb v') w':=fun b hb qA=>
 ⟨⟨hb.1,fun e=>(h.own b e).elim hb.2 (fun h1=>RY)⟩,fun _ _ hu=>h.off.cell (fun hs=>hs.elim hb.1 hb.2) hu⟩
theorem Ext.size(h:Ext cb v w v' w'):w.heap.size<=w'.heap.size:=h.off.size
end
theorem gQ{α:Type}{k:Nat}{enc:(Nat->Prop)->World->α->List Value->Prop}(he:fM enc)(hk:0<k){cb:Nat}{v v' x:Value}{w w':World}{l:List α}(h:aO k enc (dL cb v) w x l)(hx:Ext cb v w v' w'):aO k enc (dL cb v') w' x l:=h.moves he hx.moves hk
theorem lZ{cb:Nat}{v v':Value}{w w':World}{x:Xp}{cs:List Value}(h:bJ (dL cb v) w x cs)(hx:Ext cb v w v' w'):bJ (dL cb v') w' x cs:=aH _ _ _ _ _ _ hx.moves h
theorem Ext.blk{cb b:Nat}{v v':Value}{w w':World}{o:Obj}(h:Ext cb v w v' w')(hb:dL cb v b)(ho:w.heap[b]? =some o):w'.heap[b]? =some o/\dL cb v' b:=by
 have qA:=(Array.getElem?_eq_some_iff.1 ho).1;exact⟨h.off.heap (fun e=>e.elim hb.1 hb.2) ho,hb.1,fun e=>(h.own b e).elim hb.2 (fun h1=>RY)⟩
theorem jB{N:Nat->Prop}{w:World}{x:Xp}{cs:List Value}(h:bJ N w x cs):∃(op n:Int)(s m:bA)(a1:Option Addr)(n1 c1:Nat)(a2:Option Addr)(n2 c2:Nat),cs=[.int .i64 op,.int .i64 n,.string s,.string m,.slice a1 n1 c1,.slice a2 n2 c2]:=by
 cases x with
 |mk op n s m names args=>
  rw[aW] at h;obtain⟨v1,v2,e,-,-,h1,h2⟩:=h;obtain⟨a1,c1,rfl,-⟩:=h1.at;obtain⟨a2,c2,rfl,-⟩:=h2.at;exact⟨op,n,s,m,a1,_,c1,a2,_,c2,e⟩
theorem jS{N:Nat->Prop}{w:World}{x:Xp}{op n:Int}{s m:bA}{vn va:Value}(h:bJ N w x [.int .i64 op,.int .i64 n,.string s,.string m,vn,va]):(∃a n c,vn=.slice a n c)/\∃a n c,va=.slice a n c:=by
 cases x with
 |mk op' n' s' m' names args=>
  rw[aW] at h;obtain⟨v1,v2,e,-,-,⟨a1,c1,h1,-⟩,⟨a2,c2,h2,-⟩⟩:=h;cases e;exact⟨⟨_,_,_,h1⟩,_,_,_,h2⟩
end Go.Proofs.YtiionicikdnnpaaGreatDoor
namespace Go.Proofs.YtiionicikdnnpaaGreatDoor
theorem RP{p:Prop}(h:p:=by
 obtain⟨a,_,ha,h⟩:=PR.of_bnd h;cases h
 exact iV fun y hy=>by rw[List.mem_singleton.1 hy];exact hr _ _ _ _ ha):p:=h
theorem RX{p:Prop}(h:p:=by
 rcases List.mem_append.1 hx with hx|hx
 ·exact ho x hx
 rw[List.mem_singleton.1 hx];exact hr _ _ _ _ he):p:=h
section
variable {l:List Tok} {rec:RecP} {D:Nat}
theorem depthXs_le_of{l:List Xp}{D:Nat}(h:∀x,x∈l->bE x<=D):dP l<=D:=by
 induction l with
 |nil=>simp[dP]
 |cons x r ih=>
  rw[dP];exact Nat.max_le.2 ⟨h x R2,ih fun y hy=>h y (by simp[hy])⟩
theorem iV{op n:Int}{s m:bA}{names:List bA}{args:List Xp}(h:∀x,x∈args->bE x<=D):bE (.mk op n s m names args)<=D+1:=by
 rw[bE];have:=depthXs_le_of h;omega
theorem nC(hr:∀f i x j,rec f i=.ok (x,j)->bE x<=D):∀(F:Nat)(out:List Xp)(i:Nat)(xs:List Xp)(j:Nat),(∀x,x∈out->bE x<=D)->bF l rec F out i=.ok (xs,j)->∀x,x∈xs->bE x<=D
 |0,out,i,xs,j,ho,h=>by unfold bF at h;cases h;exact ho
 |F+1,out,i,xs,j,ho,h=>by
  unfold bF at h;obtain⟨_,_,-,h⟩:=PR.of_bnd h;obtain⟨e,j1,he,h⟩:=PR.of_bnd h
  have hn:∀x,x∈out++[e]->bE x<=D:=fun x hx=>by
   exact RX
  split at h
  ·exact nC hr F _ _ xs j hn h
  obtain⟨_,_,-,h⟩:=PR.of_bnd h;cases h;exact hn
theorem operandsP_depth(hr:∀f i x j,rec f i=.ok (x,j)->bE x<=D){i j:Nat}{xs:List Xp}(h:eO l rec i=.ok (xs,j)):∀x,x∈xs->bE x<=D:=by
 unfold eO at h;obtain⟨_,_,-,h⟩:=PR.of_bnd h;split at h
 ·cases h;intro x hx;cases hx
 exact nC hr _ _ _ _ _ (fun x hx=>by cases hx) h
theorem oR(hr:∀f i x j,rec f i=.ok (x,j)->bE x<=D):∀(F:Nat)(names:List bA)(args:List Xp)(last:bA)(i:Nat)(x:Xp)(j:Nat),(∀x,x∈args->bE x<=D)->bV l rec F names args last i=.ok (x,j)->bE x<=D+1
 |0,names,args,last,i,x,j,ho,h=>by unfold bV at h;cases h;exact iV ho
 |F+1,names,args,last,i,x,j,ho,h=>by
  unfold bV at h;obtain⟨_,_,-,h⟩:=PR.of_bnd h;obtain⟨_,_,-,h⟩:=PR.of_bnd h;obtain⟨_,_,-,h⟩:=PR.of_bnd h;obtain⟨e,j1,he,h⟩:=PR.of_bnd h
  have hn:∀x,x∈args++[e]->bE x<=D:=fun x hx=>by
   exact RX
  split at h
  ·exact oR hr F _ _ _ _ x j hn h
  obtain⟨_,_,-,h⟩:=PR.of_bnd h;cases h;exact iV hn
theorem lN{op n:Int}{s m:bA}:bE (.mk op n s m [] [])<=D+1:=iV fun x hx=>by cases hx
theorem primaryP_depth(hr:∀f i x j,rec f i=.ok (x,j)->bE x<=D){i j:Nat}{x:Xp}(h:aP l rec i=.ok (x,j)):bE x<=D+1:=by
 have hp:∀{i x j},kQ l rec i=.ok (x,j)->bE x<=D:=fun h=>by
  unfold kQ at h;obtain⟨e,j1,he,h⟩:=PR.of_bnd h;obtain⟨_,_,-,h⟩:=PR.of_bnd h;cases h;exact hr _ _ _ _ he
 unfold aP at h;split at h
 ·cases h;exact lN
 split at h
 ·cases h;exact lN
 split at h
 ·cases h;exact lN
 split at h
 ·obtain⟨_,_,-,h⟩:=PR.of_bnd h;cases h;exact lN
 split at h
 ·obtain⟨_,_,-,h⟩:=PR.of_bnd h;obtain⟨e,_,he,h⟩:=PR.of_bnd h;cases h;exact iV fun y hy=>by rw[List.mem_singleton.1 hy];exact hp he
 split at h
 ·unfold iP at h;split at h
  ·cases h;exact lN
  exact oR hr _ _ _ _ _ _ _ (fun x hx=>by cases hx) h
 split at h
 ·exact Nat.le_succ_of_le (hp h)
 obtain⟨s,j1,-,h⟩:=PR.of_bnd h;unfold mH at h;split at h
 ·obtain⟨xs,_,ha,h⟩:=PR.of_bnd h;cases h;exact iV (operandsP_depth hr ha)
 split at h
 ·obtain⟨_,_,-,h⟩:=PR.of_bnd h;obtain⟨xs,_,ha,h⟩:=PR.of_bnd h;cases h;exact iV (operandsP_depth hr ha)
 cases h;exact lN
theorem prefixP_depth(hr:∀f i x j,rec f i=.ok (x,j)->bE x<=D){form i j:Nat}{r:Xp×Nat}(h:bS l rec form i=.ok (r,j)):bE r.1<=D+1:=by
 unfold bS at h;split at h
 ·obtain⟨a,_,ha,h⟩:=PR.of_bnd h;obtain⟨_,_,-,h⟩:=PR.of_bnd h;obtain⟨b,_,hb,h⟩:=PR.of_bnd h;obtain⟨_,_,-,h⟩:=PR.of_bnd h;obtain⟨c,_,hc,h⟩:=PR.of_bnd h;cases h
  exact iV fun y hy=>by
   simp only[List.mem_cons,List.not_mem_nil,or_false] at hy;rcases hy with rfl|rfl|rfl
   ·exact hr _ _ _ _ ha
   ·exact hr _ _ _ _ hb
   exact hr _ _ _ _ hc
 split at h
 ·obtain⟨_,_,-,h⟩:=PR.of_bnd h;obtain⟨_,_,-,h⟩:=PR.of_bnd h;obtain⟨a,_,ha,h⟩:=PR.of_bnd h;obtain⟨_,_,-,h⟩:=PR.of_bnd h;obtain⟨b,_,hb,h⟩:=PR.of_bnd h;cases h
  exact iV fun y hy=>by
   simp only[List.mem_cons,List.not_mem_nil,or_false] at hy;rcases hy with rfl|rfl
   ·exact hr _ _ _ _ ha
   exact hr _ _ _ _ hb
 split at h
 ·obtain⟨_,_,-,h⟩:=PR.of_bnd h;exact RP
 split at h
 ·exact RP
 obtain⟨e,_,he,h⟩:=PR.of_bnd h;cases h;exact primaryP_depth hr he
theorem dotsP_depth:∀(F:Nat)(e:Xp)(i:Nat)(x:Xp)(j:Nat),iK l F e i=.ok (x,j)->bE x<=bE e+F
 |0,e,i,x,j,h=>by unfold iK at h;cases h;exact Nat.le_refl _
 |F+1,e,i,x,j,h=>by
  unfold iK at h;split at h
  ·obtain⟨s,j1,-,h⟩:=PR.of_bnd h;have h1:=dotsP_depth F _ _ x j h;(have h2:bE (.mk 14 0 s noB [] [e])<=bE e+1:=iV fun y hy=>by rw[List.mem_singleton.1 hy];exact Nat.le_refl _);omega
  cases h;omega
theorem opsP_depth(hr:∀f i x j,rec f i=.ok (x,j)->bE x<=D)(form:Nat):∀(F own:Nat)(e:Xp)(i:Nat)(x:Xp)(j:Nat)(E:Nat),bE e<=E->D<=E->kR l rec form F own e i=.ok (x,j)->bE x<=E+F
 |0,own,e,i,x,j,E,he,hD,h=>by unfold kR at h;cases h;exact he
 |F+1,own,e,i,x,j,E,he,hD,h=>by
  unfold kR at h;split at h
  ·cases h;omega
  split at h
  ·cases h;omega
  obtain⟨b,j1,hb,h⟩:=PR.of_bnd h
  have h1:=opsP_depth hr form F _ _ _ x j (E+1) (iV fun y hy=>by
   simp only[List.mem_cons,List.not_mem_nil,or_false] at hy;rcases hy with rfl|rfl
   ·exact he
   exact Nat.le_trans (hr _ _ _ _ hb) hD) RY h
  omega
theorem expP_depth:∀(f form i:Nat)(x:Xp)(j:Nat),bL l f form i=.ok (x,j)->bE x<=f*(2*l.length+3)
 |0,form,i,x,j,h=>by unfold bL at h;cases h
 |f+1,form,i,x,j,h=>by
  unfold bL at h;obtain⟨r,j1,JO,h⟩:=PR.of_bnd h;obtain⟨e,k,he,h⟩:=PR.of_bnd h;have uN:∀f' i x j,bL l f f' i=.ok (x,j)->bE x<=f*(2*l.length+3):=fun f' i x j h=>expP_depth f f' i x j h;have h1:=prefixP_depth uN JO
  have h2:bE e<=f*(2*l.length+3)+1+(l.length+1):=by
   split at he
   ·have:=dotsP_depth _ _ _ _ _ he;omega
   cases he;omega
  have h3:=opsP_depth uN form _ _ _ _ _ _ _ h2 RY h;have e1:(f+1)*(2*l.length+3)=f*(2*l.length+3)+(2*l.length+3):=Nat.succ_mul _ _;omega
theorem expAllP_depth{form i j:Nat}{x:Xp}(h:jY l form i=.ok (x,j))(hl:l.length<=8001):bE x<=200000000:=by
 have h1:=expP_depth _ _ _ _ _ h;have h2:(l.length+1)*(2*l.length+3)<=8002*16005:=Nat.mul_le_mul RY RY;omega
end
end Go.Proofs.YtiionicikdnnpaaGreatDoor
namespace Go.Proofs.YtiionicikdnnpaaGreatDoor
open Go.RowKit
def ExpAll(p:Prs):Prop:=∀(form i:Nat)(w:World),p.At w i->form<=9->Calls Tryz.prog 48 #[.pointer (some ⟨p.pb,0,none⟩),.int .i64 (form:Int)] w
 (Ran p.S w (jY p.l form i) fun x j e w'=>oC w.heap.size x e w'/\p.At w' j/\i<=j)
theorem ExpAll.of{p:Prs}(h:∀f,gV p f):ExpAll p:=fun form i w hA hf=>h (p.l.length+1) form i w hA hf (by have:=hA.lt;omega)
def RowV{α:Type}(p:Prs)(k:Nat)(enc:(Nat->Prop)->World->α->List Value->Prop)(w:World)(i:Nat)(xs:List α)(j:Nat)(e:Ending)(w':World):Prop:=
 ∃a n c,e=.returned (.slice a n c)/\aO k enc (bO w.heap.size) w' (.slice a n c) xs/\p.At w' j/\i<=j
theorem mP(p:Prs)(hX:ExpAll p)(w:World)(i:Nat)(s:bA)(h:p.At w i):Calls Tryz.prog 118 #[.pointer (some ⟨p.pb,0,none⟩),.string s] w
  (Ran p.S w (iM p.l i s) fun x j e w'=>oC w.heap.size x e w'/\p.At w' j/\i<j):=by
 have HW:=zh h;have HX:=zh (hX 0 i (w.alloc (.cells bC 35)) (h.later (aB _ _)) R0);have qG:=h.len;have tY:=h.blt;have pQ:w.heap.size≠p.pb:=RY;have zD:(w.alloc (.cells bC 35)).heap.size=w.heap.size+1:=R2;have HR:Hid (iM p.l i s=(jY p.l 0 i).bnd fun x j=>(kL p.l j (decide (bE x<=12)) s).bnd fun _ k=>.ok (x,k)):=zh rfl;clear h hX;go_enter Tryz.func118,Tryz.ntmps118;go_wp2_with(first|(go_at_call 116;refine(end_any p w3 j2 _ s KX.out).mono ?_;rintro e w4 (⟨x4,qX,rfl,qD⟩|⟨⟨⟩,j4,qX,⟨rfl,rR⟩,qD⟩)<;>have vJ:=zh (qD.heap hneL xW.out)<;>have HR4:=zh (qD.heap pQ HR3.out)<;>obtain⟨⟨d0,d1,d2,d3,d4,d5⟩,h0,h1,h2,h3,h4,h5⟩:=bx6 vJ.out<;>obtain⟨⟨r0,r1,r2,r3,r4,r5⟩,g0,g1,g2,g3,g4,g5⟩:=bx6 HR4.out)|(go_at_call 51;refine(depth_any _ x _ op n s1 m _ _ _ (Nat.le_refl _) (by have:=expAllP_depth qB qG;omega) (aH _ _ _ _ _ _ (aQ.later (aB w2 _)) hex)).mono ?_;rintro e w3 ⟨rfl,pX⟩;have KX:=zh ((qY.later (aB w2 _)).later pX);have xW:=zh (aC pX (bY w2 (aN op n s1 m a1 n1 c1 a2 n2 c2)));have HR3:=zh (aC (aA (aB w2 (aN op n s1 m a1 n1 c1 a2 n2 c2)) pX) (pU.heap pQ (bY w (.cells bC 35))));have rU:=pU.size;have hneL:w2.heap.size≠p.pb:=RY;have HD:Hid (decide ((bE x:Int)<=12)=decide (bE x<=12)):=zh SP)|(go_at_call 48;refine HX.out.mono ?_;rintro e w2 (⟨x2,qB,rfl,pU⟩|⟨x,j2,qB,⟨⟨op,n,s1,m,a1,n1,c1,a2,n2,c2,rfl,hex⟩,qY,AU⟩,pU⟩)))
 ·exact⟨rfl,Ran.bad' (HR.out.trans (PR.bnd_bad qB)) ((Ba (aB _ _)).trans pU)⟩
 ·rw[HD.out] at qX;exact⟨rfl,Ran.bad' (HR.out.trans ((PR.bnd_ok qB).trans (PR.bnd_bad qX))) ((Ba (aB _ _)).trans (pU.trans ((Ba (aA (aB w2 _) pX)).trans qD)))⟩
 rw[HD.out] at qX;have hj4:=endP_ok qX;have hE:=gX HW.out ((Ba (aB _ _)).trans (pU.trans ((Ba (aA (aB w2 _) pX)).trans qD))) rR (aH.off (aH _ _ _ _ _ _ (aQ.later (aA (aB w2 _) pX)) hex) qD (fun b hb hn=>by have hb:b=p.pb:=hb;have hn:(w.alloc (.cells bC 35)).heap.size<=b:=hn;omega)) (fun b hb=>by have hb:(w.alloc (.cells bC 35)).heap.size<=b:=hb;omega);unfold gC at hE;refine bodyPost_ret (v:=dW op n s1 m a1 n1 c1 a2 n2 c2) (by simp[results,Tryz.results118,go_sem,r0,r1,r2,r3,r4,r5]) rfl ?_;exact Ran.good (HR.out.trans ((PR.bnd_ok qB).trans (PR.bnd_ok qX))) ⟨⟨op,n,s1,m,a1,n1,c1,a2,n2,c2,rfl,hE.1⟩,hE.2.1,RY⟩ hE.2.2
structure GrL {α:Type} (k:Nat) (T:TypeId) (enc:(Nat->Prop)->World->α->List Value->Prop) (p:Prs) (W:World) (out:List α) (css:List (List Value)) (v:Value) (q:Nat) (wr:World):Prop where
 off:Off p.S W wr
 acc:Gro k T enc W.heap.size out css v wr
 at_:p.At wr q
section
variable {α:Type} {k:Nat} {T:TypeId} {enc:(Nat->Prop)->World->α->List Value->Prop} {p:Prs} {W w5 w9 rB:World} {out:List α} {css:List (List Value)} {v:Value} {q j i0:Nat} {x:α} {cs:List Value}
theorem GrL.next(he:fM enc)(hW:p.At W i0)(h:GrL k T enc p W out css v q w5)(ho:Off p.S w5 w9)(ha:p.At w9 j):GrL k T enc p W out css v j w9:=
 ⟨h.off.trans ho,h.acc.stays he (dC.of_off ho fun b hb=>.inl UQ),ha⟩
theorem GrL.fresh_enc(he:fM enc)(h:GrL k T enc p W out css v q w5)(hex:enc (bO w5.heap.size) w9 x cs):enc (nD W.heap.size v) w9 x cs:=
 he.wide hex fun b hb _=>⟨by have hb:w5.heap.size<=b:=hb;have:=h.acc.big;omega,fun e=>by have hb:w5.heap.size<=b:=hb;have:=h.acc.lt b e;omega⟩
theorem GrL.step{g cap n1:Nat}(he:fM enc)(hW:p.At W i0)(h5:GrL k T enc p W out css v q w5)(o9:Off p.S w5 w9)(yA:p.At w9 j)(hx:enc (nD W.heap.size v) w9 x cs)(hl:cs.length=k)
  (pR:rB.ownsRow W.heap.size T k (.slice (some ⟨g,0,none⟩) n1 cap) n1 (css.flatten++cs)) (hn:n1=out.length+1) (pM:w9.grownBy rB v.ownBlock) (qV:v.ownBlock=some g\/g=w9.heap.size):
  GrL k T enc p W (out++[x]) (css++[cs]) (.slice (some ⟨g,0,none⟩) n1 cap) j rB/\Off (fun b=>W.heap.size<=b) w9 rB:=by
 subst hn;have qA:=h5.acc.lt;have tX:=h5.acc.big;have hA9:=h5.acc.stays he (dC.of_off o9 fun b hb=>.inl UQ);have xY:Off (fun b=>W.heap.size<=b) w9 rB:=⟨pM.os,pM.tape,pM.output,pM.size,fun b hb hn=>pM.block b hb (fun e=>hn (qA b e.symm).1)⟩;exact⟨⟨Off.fresh (((h5.off.trans o9).or _).trans (xY.mono fun b hb=>.inr hb)) (Nat.le_refl _),hA9.added he hx hl pR pM qV,hW.above yA xY⟩,xY⟩
end
end Go.Proofs.YtiionicikdnnpaaGreatDoor
