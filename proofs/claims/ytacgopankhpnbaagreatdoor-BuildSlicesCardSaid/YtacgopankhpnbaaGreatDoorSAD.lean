/- Texts of this seat, joined. -/
import Derived.Test.YtacgopankhpnbaaGreatDoorSynQ
set_option maxHeartbeats 12000000
set_option maxRecDepth 100000
set_option linter.unusedVariables false
set_option linter.unusedSimpArgs false
namespace Go.Proofs.YtacgopankhpnbaaGreatDoor
open Go.RowKit
theorem prim_num(p:Prs)(f:Nat)(hE:fX p f)(sF:lV p f)(w:World)(i:Nat)(h:p.At w i)(sE:p.l.length<=f+i)(k1:(aH p.l i).kind=1):Calls Tryz.prog 236 #[.pointer (some ⟨p.pb,0,none⟩)] w
  (Ran p.S w (aS p.l (bQ p.l f) i) fun x j e w'=>oK w.heap.size x e w'/\p.At w' j/\i<=j):=by
 have HE:=zh hE;have uA:=zh sF;have HW:=zh h;have HR:Hid (aS p.l (bQ p.l f) i=.ok (.mk 0 (aH p.l i).n noB noB [] [],i+1)):=zh (by unfold aS;rw[if_pos k1];try rfl);have sH:=zh (h.later (aA w (.cells bH 177)));have HN:=zh (fun W(hW:p.At W i)=>cO p W i hW);have hlen:=h.len;have vB:=h.bound;have rP:=h.tok;have tN:=h.last i _ rP;have pQ:w.heap.size≠p.pb:=V5;have tZ:=h.blt;have rF:(w.alloc (.cells bH 177)).heap.size=w.heap.size+1:=VL;have hl:i+1<p.l.length:=tN (by rw[k1];decide);generalize tY:aH p.l i=t at *;have tG:=zh tY;clear h hE sF tY;have zJ:(t.kind==1)=true:=by rw[beq_iff_eq];exact k1
 go_enter Tryz.func236,Tryz.ntmps236;go_wp2_with(first|(go_at_call 145;refine(HN.out _ sH.out).mono ?_;rintro e w1 ⟨rfl,pS⟩;have qI:=pS.size;have tP:=sH.out.later pS;have qD:=tP.later (aA w1 (.cells #[.int .i64 1,.string t.text,.int .i64 t.n,.int .i64 t.pos] 201));have b1:=tP.box1;have f1:=tP.froz;have b1':=qD.box1;have f1':=qD.froz;have hpb1:=tP.blt;have FY:=aF pS (heap_alloc_new w (.cells bH 177));obtain⟨⟨r0,r1,r2,r3,r4,r5⟩,g0,g1,g2,g3,g4,g5⟩:=bx6 FY;have rZ:w.heap.size<w1.heap.size:=VG;have tH:¬w1.heap.size=p.pb:=VG;have hnt2:¬p.pb=w1.heap.size:=VG;have hnr:¬w.heap.size=p.pb:=pQ;have hnr2:¬p.pb=w.heap.size:=(fun e=>pQ e.symm);have hnw:¬w.heap.size=w1.heap.size:=VG));have hE:=nO (N:=fun _=>False) (x:=.mk 0 t.n noB noB [] []) (op:=0) (n:=t.n) (s:=⟨#[]⟩) (m:=⟨#[]⟩) (a1:=none) (n1:=0) (c1:=0) (a2:=none) (n2:=0) (c2:=0) (cs:=#[.int .i64 1,.string t.text,.int .i64 t.n,.int .i64 t.pos]) (T:=201) HW.out (w:=(w1.setCell ⟨p.pb,1,none⟩ (.int .i64 ((i:Int)+1)))) ((Off.of_below (aB (aA _ _) pS)).trans (tP.step hl).2) (tP.step hl).1 (by rw[eR];exact rZ) WH (fun b hb=>hb.elim);unfold gB at hE;refine bodyPost_ret (v:=.agg #[.int .i64 0,.int .i64 t.n,.string ⟨#[]⟩,.string ⟨#[]⟩,.slice none 0 0,.slice none 0 0]) (by simp[results,Tryz.results236,go_sem,r0,r1,r2,r3,r4,r5,rZ,hnr,hnr2]) rfl ?_;exact Ran.good HR.out ⟨⟨0,t.n,⟨#[]⟩,⟨#[]⟩,none,0,0,none,0,0,rfl,hE.1⟩,hE.2.1,VG⟩ hE.2.2
theorem prim_act_z(p:Prs)(f:Nat)(hE:fX p f)(sF:lV p f)(w:World)(i:Nat)(h:p.At w i)(sE:p.l.length<=f+i)(k1:¬(aH p.l i).kind=1)(qt:isP p.l i dJ=false)(qf:isP p.l i cJ=false)(qg:isP p.l i iG=false)(k0:(aH p.l i).kind=0)(kb:cT (aH p.l i).text≠0):Calls Tryz.prog 236 #[.pointer (some ⟨p.pb,0,none⟩)] w
  (Ran p.S w (aS p.l (bQ p.l f) i) fun x j e w'=>oK w.heap.size x e w'/\p.At w' j/\i<=j):=by
 have HE:=zh hE;have uA:=zh sF;have HW:=zh h;have HR:Hid (aS p.l (bQ p.l f) i=(dB p.l (i+1) bZ).bnd fun _ j=>(parenP p.l (bQ p.l f) j).bnd fun e k=>.ok (.mk 16 (cT (aH p.l i).text) noB noB [] [e],k)):=zh (by unfold aS;rw[if_neg k1,if_neg (show ¬isP p.l i dJ=true by rw[qt];simp),if_neg (show ¬isP p.l i cJ=true by rw[qf];simp),if_neg (show ¬isP p.l i iG=true by rw[qg];simp),if_pos ⟨k0,kb⟩];try rfl);have sH:=zh (h.later (aA w (.cells bH 177)));have HN:=zh (fun W(hW:p.At W i)=>cO p W i hW);have hlen:=h.len;have vB:=h.bound;have rP:=h.tok;have tN:=h.last i _ rP;have pQ:w.heap.size≠p.pb:=V5;have tZ:=h.blt;have rF:(w.alloc (.cells bH 177)).heap.size=w.heap.size+1:=VL;have hl:i+1<p.l.length:=tN (by rw[k0];decide);generalize tY:aH p.l i=t at *;have tG:=zh tY;clear h hE sF tY;have zJ:(t.kind==1)=false:=V0;have KC:(t.kind==0)=true:=W4;have kb':(cT t.text != 0)=true:=by rw[bne_iff_ne];exact kb
 go_enter Tryz.func236,Tryz.ntmps236;go_wp2_with(first|(go_at_call 131;refine(cR p (w7.alloc (.cells #[.int .i64 opa,.int .i64 na,.string sa,.string ma,.slice pa qa ra,.slice ta ua va] 177)) j7 kM (rX.later (aA _ _))).mono ?_;rintro e w8 (⟨y8,sM,rfl,A7⟩|⟨⟨⟩,j8,sM,⟨rfl,wH⟩,A7⟩)<;>have rM:=(Off.of_below (aA _ _)).trans A7<;>have NF:=rM.size)|(go_at_call 188;refine(HE.out 0 j6 w6 tK VG (by have:=(cH uH).1;omega)).mono ?_;rintro e w7 (⟨y7,rJ,rfl,qC⟩|⟨xa,j7,rJ,⟨⟨opa,na,sa,ma,pa,qa,ra,ta,ua,va,rfl,vM⟩,rX,PZ⟩,qC⟩)<;>have GK:=qC.size)|(go_at_call 131;refine(cR p (w5.setCell ⟨p.pb,1,none⟩ (.int .i64 ((i:Int)+1))) (i+1) bZ (sN.step hl).1).mono ?_;rintro e w6 (⟨y6,uH,rfl,hq6⟩|⟨⟨⟩,j6,uH,⟨rfl,tK⟩,hq6⟩)<;>have qE:=((sN.step hl).2).trans hq6<;>have GL:=qE.size)|(go_at_call 191;refine(kZ t.text w4 rR.spc).mono ?_;rintro e w5 ⟨rfl,hb5⟩;have xT:=hb5.size;have qB:=Off.of_below (S:=p.S) hb5;have sN:=rR.later hb5;have b1:=sN.box1;have f1:=sN.froz)|(go_at_call 141;refine(aX p w3 i iG rY qg).mono ?_;rintro e w4 ⟨rfl,rR,pW⟩;have DE:=pW.size;have xK:=zh (pW.heap tH (pY.heap tH (pU.heap tH (heap_alloc_new w1 _))));obtain⟨t0,t1,t2,t3⟩:=bx4 xK.out)|(go_at_call 141;refine(aX p w2 i cJ qL qf).mono ?_;rintro e w3 ⟨rfl,rY,pY⟩;have yU:=pY.size)|(go_at_call 141;refine(aX p (w1.alloc (.cells #[.int .i64 0,.string t.text,.int .i64 t.n,.int .i64 t.pos] 201)) i dJ qD qt).mono ?_;rintro e w2 ⟨rfl,qL,pU⟩;have qH:=pU.size)|(go_at_call 145;refine(HN.out _ sH.out).mono ?_;rintro e w1 ⟨rfl,pS⟩;have qI:=pS.size;have pV:=Off.of_below (S:=p.S) (aB pS (aA w1 (.cells #[.int .i64 0,.string t.text,.int .i64 t.n,.int .i64 t.pos] 201)));have tP:=sH.out.later pS;have qD:=tP.later (aA w1 (.cells #[.int .i64 0,.string t.text,.int .i64 t.n,.int .i64 t.pos] 201));have tH:w1.heap.size≠p.pb:=VG;have uK:(w1.alloc (.cells #[.int .i64 0,.string t.text,.int .i64 t.n,.int .i64 t.pos] 201)).heap.size=w1.heap.size+1:=VL))
 ·exact⟨rfl,Ran.bad' (HR.out.trans (PR.bnd_bad uH)) ((Off.of_below (aA _ _)).trans (pV.trans (pU.trans (pY.trans (pW.trans (qB.trans qE))))))⟩
 ·exact⟨rfl,Ran.bad' (HR.out.trans ((PR.bnd_ok uH).trans (PR.bnd_bad (PR.bnd_bad rJ)))) ((Off.of_below (aA _ _)).trans (pV.trans (pU.trans (pY.trans (pW.trans (qB.trans (qE.trans qC)))))))⟩
 ·exact⟨rfl,Ran.bad' (HR.out.trans ((PR.bnd_ok uH).trans (PR.bnd_bad ((PR.bnd_ok rJ).trans (PR.bnd_bad sM))))) ((Off.of_below (aA _ _)).trans (pV.trans (pU.trans (pY.trans (pW.trans (qB.trans (qE.trans (qC.trans rM))))))))⟩
 ·have n7:w7.heap.size≠p.pb:=VG;have hs7:(w7.alloc (.cells #[.int .i64 opa,.int .i64 na,.string sa,.string ma,.slice pa qa ra,.slice ta ua va] 177)).heap.size=w7.heap.size+1:=VL;have hzq:=A7.size;have hT8:w8.heap[w1.heap.size]? =some (.cells #[.int .i64 0,.string t.text,.int .i64 t.n,.int .i64 t.pos] 201):=rM.heap tH (qC.heap tH (qE.heap tH (qB.heap tH xK.out)));have OA:w8.heap[w7.heap.size]? =some (.cells #[.int .i64 opa,.int .i64 na,.string sa,.string ma,.slice pa qa ra,.slice ta ua va] 177):=A7.heap n7 (heap_alloc_new w7 _);have DK:=zh ((rM.heap pQ (qC.heap pQ (qE.heap pQ (qB.heap pQ (pW.heap pQ (pY.heap pQ (pU.heap pQ (pV.heap pQ (heap_alloc_new w _))))))))));have OJ:=zh (aG.off vM rM (fun b hb hn=>by have hb:b=p.pb:=hb;have hn:w6.heap.size<=b:=hn;omega));have OR:=zh ((Off.of_below (aA _ _)).trans (pV.trans (pU.trans (pY.trans (pW.trans (qB.trans (qE.trans (qC.trans rM))))))));have pZ:=zh (HR.out.trans ((PR.bnd_ok uH).trans (PR.bnd_ok ((PR.bnd_ok rJ).trans (PR.bnd_ok sM)))));have hj6:=(cH uH).1;have LV:=(cH sM).1;have OY:=zh wH;clear vM pV pU pY pW qB qE qC rM hq6 A7 uH rJ sM HR b1 f1 t0 t1 t2 t3 tP qD qL rY rR sN tK rX wH;refine wp_region_held_drew (S:=(fun W=>W.heap[w1.heap.size]? =some (.cells #[.int .i64 0,.string t.text,.int .i64 t.n,.int .i64 t.pos] 201)/\W.heap[w7.heap.size]? =some (.cells #[.int .i64 opa,.int .i64 na,.string sa,.string ma,.slice pa qa ra,.slice ta ua va] 177))) VH ⟨hT8,OA⟩ fun hS=>?_;refine zt 0 (.pointer (some ⟨w1.heap.size,1,none⟩)) rfl (fun W hW=>VM) hS ?_;try simp only[zn]
  refine zt 1 (.string t.text) rfl (fun W hW=>by obtain⟨t0,t1,t2,t3⟩:=bx4 hW.1;go_simp) hS ?_;try simp only[zn]
  refine zt 3 (.agg #[.int .i64 opa,.int .i64 na,.string sa,.string ma,.slice pa qa ra,.slice ta ua va]) rfl (fun W hW=>by obtain⟨⟨c0,c1,c2,c3,c4,c5⟩,-⟩:=bx6 hW.2;go_simp) hS ?_;try simp only[zn]
  refine wpAnyH_ready (rs:=[2,4]) VH VL ?_;refine AllReadyH.cons rfl (fun K hK=>?_) (AllReadyH.cons rfl (fun K hK=>?_) AllReadyH.nil)
  ·rw[if_pos VH];go_simp;refine(kZ t.text w8.drew (OY.out.later (aE _)).spc).mono ?_;rintro e w9 ⟨rfl,uN⟩;have zZ:w8.heap.size<=w9.heap.size:=uN.size;have DH:=aB (aE w8) uN;refine hK.out _ _ ⟨aF DH hT8,aF DH OA⟩ (fun hS=>?_);clear hK K;(try simp only[zn]);refine zr 4 rfl (fun K hK=>?_);go_simp;have hT9:=aF (aA w9 (.cells #[.int .i64 opa,.int .i64 na,.string sa,.string ma,.slice pa qa ra,.slice ta ua va] 177)) (aF DH hT8);have hB9:=aF (aA w9 (.cells #[.int .i64 opa,.int .i64 na,.string sa,.string ma,.slice pa qa ra,.slice ta ua va] 177)) (aF DH OA);refine hK.out _ _ ⟨hT9,hB9⟩ (fun hS=>?_);clear hK K;(try simp only[zn]);have JU:=OR.out.trans ((Off.of_below DH).trans (Off.of_below (aA w9 (.cells #[.int .i64 opa,.int .i64 na,.string sa,.string ma,.slice pa qa ra,.slice ta ua va] 177))))
   have D5:aK 6 bV (bD w6.heap.size) (w9.alloc (.cells #[.int .i64 opa,.int .i64 na,.string sa,.string ma,.slice pa qa ra,.slice ta ua va] 177)) (.slice (some ⟨w9.heap.size,0,none⟩) 1 1) [xa]:=aK.of_block (css:=[[.int .i64 opa,.int .i64 na,.string sa,.string ma,.slice pa qa ra,.slice ta ua va]]) (heap_alloc_new w9 _) (by show w6.heap.size<=w9.heap.size;omega) rfl VL (fun i y c hy hc=>by
    match i,hy,hc with
    |0,hy,hc=>cases hy;cases hc;exact aG _ _ _ _ _ _ (bM.later (aB DH (aA w9 _))) OJ.out) rfl VI
   have AJ:=aF (aA w9 (.cells #[.int .i64 opa,.int .i64 na,.string sa,.string ma,.slice pa qa ra,.slice ta ua va] 177)) (aF DH DK.out);obtain⟨⟨r0,r1,r2,r3,r4,r5⟩,g0,g1,g2,g3,g4,g5⟩:=bx6 AJ;refine zt 5 (.agg #[.int .i64 16,.int .i64 (cT t.text),.string ⟨#[]⟩,.string ⟨#[]⟩,.slice none 0 0,.slice (some ⟨w9.heap.size,0,none⟩) 1 1]) rfl (fun W hW=>VM) hS ?_;(try simp only[zn]);refine zr 6 rfl (fun K hK=>?_);go_simp;have hE:=gA (N:=bD w6.heap.size) (x:=.mk 16 (cT t.text) noB noB [] [xa]) (op:=16) (n:=cT t.text) (s:=⟨#[]⟩) (m:=⟨#[]⟩) (a1:=none) (n1:=0) (c1:=0) (a2:=some ⟨w9.heap.size,0,none⟩) (n2:=1) (c2:=1) HW.out JU (OY.out.later (aB DH (aA w9 _))) ZC (fun b hb=>XF);have GS:=oR (w9.alloc (.cells #[.int .i64 opa,.int .i64 na,.string sa,.string ma,.slice pa qa ra,.slice ta ua va] 177)) w.heap.size (.int .i64 16) (.int .i64 (cT t.text)) (.string ⟨#[]⟩) (.string ⟨#[]⟩) (.slice none 0 0) (.slice (some ⟨w9.heap.size,0,none⟩) 1 1);have hTz:=GS.heap VG hT9;have hBz:=GS.heap VG hB9;unfold gB at hE hTz hBz;refine hK.out _ _ ⟨hTz,hBz⟩ (fun hS=>?_);clear hK K;(try simp only[zn]);refine wpAnyH_done VH ?_ _;go_wp2_with fail;refine bodyPost_ret (v:=.agg #[.int .i64 16,.int .i64 (cT t.text),.string ⟨#[]⟩,.string ⟨#[]⟩,.slice none 0 0,.slice (some ⟨w9.heap.size,0,none⟩) 1 1]) VS rfl ?_;exact Ran.good (by rw[<-tG.out] at *;exact pZ.out) ⟨⟨16,cT t.text,⟨#[]⟩,⟨#[]⟩,none,0,0,some ⟨w9.heap.size,0,none⟩,1,1,rfl,hE.1⟩,hE.2.1,VG⟩ hE.2.2
  ·rw[if_pos VH];go_simp;have MB:Below w8.heap.size w8 ((w8.alloc (.cells #[.int .i64 opa,.int .i64 na,.string sa,.string ma,.slice pa qa ra,.slice ta ua va] 177)).drew):=(aA w8 (.cells #[.int .i64 opa,.int .i64 na,.string sa,.string ma,.slice pa qa ra,.slice ta ua va] 177)).drew;refine hK.out _ _ ⟨aF MB hT8,aF MB OA⟩ (fun hS=>?_);clear hK K;(try simp only[zn]);refine zr 2 rfl (fun K hK=>?_);go_simp;refine(kZ t.text ((w8.alloc (.cells #[.int .i64 opa,.int .i64 na,.string sa,.string ma,.slice pa qa ra,.slice ta ua va] 177)).drew) (OY.out.later MB).spc).mono ?_;rintro e w9 ⟨rfl,uN⟩;have DH:=aB MB uN;have zZ:=DH.size;have hT9:=aF DH hT8;have hB9:=aF DH OA;refine hK.out _ _ ⟨hT9,hB9⟩ (fun hS=>?_);clear hK K;(try simp only[zn]);have JU:=OR.out.trans (Off.of_below DH);have sC:w9.heap[w8.heap.size]? =some (.cells #[.int .i64 opa,.int .i64 na,.string sa,.string ma,.slice pa qa ra,.slice ta ua va] 177):=aF uN (aF (aE _) (heap_alloc_new w8 _))
   have D5:aK 6 bV (bD w6.heap.size) w9 (.slice (some ⟨w8.heap.size,0,none⟩) 1 1) [xa]:=aK.of_block (css:=[[.int .i64 opa,.int .i64 na,.string sa,.string ma,.slice pa qa ra,.slice ta ua va]]) sC (by show w6.heap.size<=w8.heap.size;omega) rfl VL (fun i y c hy hc=>by
    match i,hy,hc with
    |0,hy,hc=>cases hy;cases hc;exact aG _ _ _ _ _ _ (bM.later DH) OJ.out) rfl VI
   have AJ:=aF DH DK.out;obtain⟨⟨r0,r1,r2,r3,r4,r5⟩,g0,g1,g2,g3,g4,g5⟩:=bx6 AJ;refine zt 5 (.agg #[.int .i64 16,.int .i64 (cT t.text),.string ⟨#[]⟩,.string ⟨#[]⟩,.slice none 0 0,.slice (some ⟨w8.heap.size,0,none⟩) 1 1]) rfl (fun W hW=>VM) hS ?_;(try simp only[zn]);refine zr 6 rfl (fun K hK=>?_);go_simp;have hE:=gA (N:=bD w6.heap.size) (x:=.mk 16 (cT t.text) noB noB [] [xa]) (op:=16) (n:=cT t.text) (s:=⟨#[]⟩) (m:=⟨#[]⟩) (a1:=none) (n1:=0) (c1:=0) (a2:=some ⟨w8.heap.size,0,none⟩) (n2:=1) (c2:=1) HW.out JU (OY.out.later DH) ZC (fun b hb=>XF);have GS:=oR w9 w.heap.size (.int .i64 16) (.int .i64 (cT t.text)) (.string ⟨#[]⟩) (.string ⟨#[]⟩) (.slice none 0 0) (.slice (some ⟨w8.heap.size,0,none⟩) 1 1);have hTz:=GS.heap VG hT9;have hBz:=GS.heap VG hB9;unfold gB at hE hTz hBz;refine hK.out _ _ ⟨hTz,hBz⟩ (fun hS=>?_);clear hK K;(try simp only[zn]);refine wpAnyH_done VH ?_ _;go_wp2_with fail;refine bodyPost_ret (v:=.agg #[.int .i64 16,.int .i64 (cT t.text),.string ⟨#[]⟩,.string ⟨#[]⟩,.slice none 0 0,.slice (some ⟨w8.heap.size,0,none⟩) 1 1]) VS rfl ?_;exact Ran.good (by rw[<-tG.out] at *;exact pZ.out) ⟨⟨16,cT t.text,⟨#[]⟩,⟨#[]⟩,none,0,0,some ⟨w8.heap.size,0,none⟩,1,1,rfl,hE.1⟩,hE.2.1,VG⟩ hE.2.2
theorem primary_ok(p:Prs)(f:Nat)(hE:fX p f)(sF:lV p f):PrimOk p f:=fun i w h sE=>by
 by_cases k1:(aH p.l i).kind=1
 ·exact prim_num p f hE sF w i h sE k1
 ·cases qt:isP p.l i dJ with
  |true=>exact prim_true p f hE sF w i h sE k1 qt
  |false=>
   cases qf:isP p.l i cJ with
   |true=>exact prim_false p f hE sF w i h sE k1 qt qf
   |false=>
    cases qg:isP p.l i iG with
    |true=>exact prim_get p f hE sF w i h sE k1 qt qf qg
    |false=>
     by_cases k0:(aH p.l i).kind=0
     ·by_cases kb:cT (aH p.l i).text=0
      ·cases qb:isP p.l i bY with
       |true=>exact prim_record_z p f hE sF w i h sE k1 qt qf qg k0 kb qb
       |false=>
        cases qo:isP p.l i bZ with
        |true=>exact prim_paren_z p f hE sF w i h sE k1 qt qf qg qb k0 kb qo
        |false=>
         cases qc:isP p.l (i+1) bZ with
         |true=>exact prim_call_z p f hE sF w i h sE k1 qt qf qg qb qo k0 kb qc
         |false=>
          cases qd:fW p.l (i+1) with
          |true=>exact prim_method_z p f hE sF w i h sE k1 qt qf qg qb qo k0 kb qc qd
          |false=>exact prim_var_z p f hE sF w i h sE k1 qt qf qg qb qo k0 kb qc qd
      ·exact prim_act_z p f hE sF w i h sE k1 qt qf qg k0 kb
     ·cases qb:isP p.l i bY with
      |true=>exact prim_record_n p f hE sF w i h sE k1 qt qf qg k0 qb
      |false=>
       cases qo:isP p.l i bZ with
       |true=>exact prim_paren_n p f hE sF w i h sE k1 qt qf qg qb k0 qo
       |false=>
        cases qc:isP p.l (i+1) bZ with
        |true=>exact prim_call_n p f hE sF w i h sE k1 qt qf qg qb qo k0 qc
        |false=>
         cases qd:fW p.l (i+1) with
         |true=>exact prim_method_n p f hE sF w i h sE k1 qt qf qg qb qo k0 qc qd
         |false=>exact prim_var_n p f hE sF w i h sE k1 qt qf qg qb qo k0 qc qd
def encXo(o:Option Nat)(N:Nat->Prop)(w:World)(x:Xp)(cs:List Value):Prop:=bV (fun b=>N b/\o≠some b) w x cs
theorem encXo_ok(o:Option Nat):eD (encXo o):=fun _ _ _ _ _ _ hm h=>aG _ _ _ _ _ _ (fun b hb hl=>⟨⟨(hm b hb.1 hl).1,hb.2⟩,(hm b hb.1 hl).2⟩) h
theorem Gro.change{α:Type}{k:Nat}{T:TypeId}{enc enc':(Nat->Prop)->World->α->List Value->Prop}{B:Nat}{l:List α}{css:List (List Value)}{v:Value}{w w':World}(h:Gro k T enc B l css v w)
  (hs:w.heap.size<=w'.heap.size) (ho:∀b,v.ownBlock=some b->w'.heap[b]? =w.heap[b]?) (he:∀x c,enc (lC B v) w x c->enc' (lC B v) w' x c):Gro k T enc' B l css v w':=by
 refine⟨?_,h.len,h.ks,fun i x c hx hc=>he x c (h.enc i x c hx hc),Nat.le_trans h.big hs⟩;obtain⟨h1,h2⟩:=h.own;refine⟨h1,?_⟩;rcases h2 with h2|⟨g,cap,cur,hv,hg,DW,r⟩
 ·exact .inl h2
 ·exact .inr ⟨g,cap,cur,hv,hg,(ho g (by rw[hv];rfl)).trans DW,r⟩
structure RecL (p:Prs) (W:World) (b3 B:Nat) (names:List ByteArray) (cn:List (List Value)) (args:List Xp) (ca:List (List Value)) (vn va:Value) (wr:World):Prop where
 off:Off p.S W wr
 res:wr.heap[W.heap.size]? =some (.cells bH 177)
 loc:wr.heap[b3]? =some (.cells #[.int .i64 13,.int .i64 0,.string ⟨#[]⟩,.string ⟨#[]⟩,vn,va] 177)
 nam:Gro 1 9 cK B names cn vn wr
 arg:Gro 6 177 (encXo vn.ownBlock) B args ca va wr
 b3:W.heap.size<b3/\b3<B
 pb:p.pb<W.heap.size
 disj:∀b,vn.ownBlock=some b->va.ownBlock≠some b
section
variable {p:Prs} {W wr w':World} {b3 B:Nat} {names:List ByteArray} {cn ca:List (List Value)} {args:List Xp} {vn va:Value}
theorem RecL.next(h:RecL p W b3 B names cn args ca vn va wr)(ho:Off p.S wr w'):RecL p W b3 B names cn args ca vn va w':=by
 have tZ:=h.pb;have hb:=h.b3;have hs:cZ B wr w':=cZ.of_off ho fun b pR=>.inl (by have pR:b=p.pb:=pR;omega);exact⟨h.off.trans ho,ho.heap (fun e=>by have e:W.heap.size=p.pb:=e;omega) h.res,ho.heap (fun e=>by have e:b3=p.pb:=e;omega) h.loc,h.nam.stays aQ hs,h.arg.stays (encXo_ok _) hs,hb,tZ,h.disj⟩
theorem RecL.addName{w8 qJ:World}{g cap n1:Nat}{s:ByteArray}(h:RecL p W b3 B names cn args ca vn va w8)(hs:s.size<=8000)
  (pP:qJ.ownsRow B 9 1 (.slice (some ⟨g,0,none⟩) n1 cap) n1 (cn.flatten++[.string s])) (hn:n1=names.length+1) (pO:(w8.alloc (.cells #[.string s] 9)).grownBy qJ vn.ownBlock) (qA:vn.ownBlock=some g\/g=w8.heap.size+1):
  qJ.heap[b3]? =some (.cells #[.int .i64 13,.int .i64 0,.string ⟨#[]⟩,.string ⟨#[]⟩,vn,va] 177)/\
  RecL p W b3 B (names++[s]) (cn++[[.string s]]) args ca (.slice (some ⟨g,0,none⟩) n1 cap) va (qJ.setCell ⟨b3,4,none⟩ (.slice (some ⟨g,0,none⟩) n1 cap))/\
  Off (fun b=>W.heap.size<=b) w8 (qJ.setCell ⟨b3,4,none⟩ (.slice (some ⟨g,0,none⟩) n1 cap)):=by
 subst hn;have hb:=h.b3;have tZ:=h.pb;have h9:=h.next (Off.of_below (aA w8 (.cells #[.string s] 9)));have pT:=h9.nam.lt;have PP:=h9.arg.lt;have zZ:(w8.alloc (.cells #[.string s] 9)).heap.size=w8.heap.size+1:=VL;have rN:=h9.nam.big;have xP:Off (fun b=>vn.ownBlock=some b) (w8.alloc (.cells #[.string s] 9)) qJ:=⟨pO.os,pO.tape,pO.output,pO.size,fun b hb hn=>pO.block b hb (fun e=>hn e.symm)⟩;have KX:Off (fun b=>b=b3) qJ (qJ.setCell ⟨b3,4,none⟩ (.slice (some ⟨g,0,none⟩) (names.length+1) cap)):=Off.setCell (S:=fun b=>b=b3) qJ rfl;have nb3:¬vn.ownBlock=some b3:=fun e=>by have:=(pT b3 e).1;omega
 have IL:qJ.heap[b3]? =_:=xP.heap nb3 h9.loc;have oa:Off (fun b=>vn.ownBlock=some b\/b=b3) (w8.alloc (.cells #[.string s] 9)) (qJ.setCell ⟨b3,4,none⟩ (.slice (some ⟨g,0,none⟩) (names.length+1) cap)):=(xP.mono fun b h=>.inl h).trans (KX.mono fun b h=>.inr h)
 have obig:Off (fun b=>W.heap.size<=b) (w8.alloc (.cells #[.string s] 9)) (qJ.setCell ⟨b3,4,none⟩ (.slice (some ⟨g,0,none⟩) (names.length+1) cap)):=oa.mono fun b h=>by
  rcases h with h|h
  ·have:=(pT b h).1;omega
  ·omega
 have hg:∀b,b<w8.heap.size+1->vn.ownBlock≠some b->b≠g:=fun b hb hn e=>by
  subst e;rcases qA with h1|h1
  ·exact hn h1
  ·omega
 have hA:=h9.nam.added aQ (x:=s) ⟨rfl,VG⟩ rfl pP pO Y3;refine⟨IL,⟨?_,?_,?_,hA.stays aQ (cZ.of_off KX fun b pR=>.inl VG),?_,hb,tZ,fun b pR e=>?_⟩,(Off.of_below (aA _ _)).trans obig⟩
 ·exact Off.fresh ((h9.off.or _).trans (obig.mono fun b h=>.inr h)) (Nat.le_refl _)
 ·exact oa.heap (fun h=>h.elim (fun h=>by have:=(pT _ h).1;omega) (fun h=>VG)) h9.res
 ·rw[aO IL];rfl
 ·refine h9.arg.change (by have:=pO.size;rw[eR];exact this) (fun b pR=>oa.block b (PP b pR).2 (fun h=>?_)) (fun x c hx=>?_)
  ·rcases h with h|h
   ·exact h9.disj b h pR
   ·have:=(PP b pR).1;omega
  ·refine aG _ _ _ _ _ _ (fun b pR hl=>⟨⟨pR.1,fun e=>?_⟩,fun o u hu=>oa.cell (fun h=>?_) hu⟩) hx
   ·have e:g=b:=XS;exact hg b (by rw[<-zZ];exact hl) pR.2 e.symm
   ·rcases h with h|h
    ·exact pR.2 h
    ·have:=pR.1.1;omega
 ·have pR:g=b:=by simpa[Value.ownBlock] using pR
  subst pR;rcases qA with h1|h1
  ·exact h9.disj g h1 e
  ·have:=(PP g e).2;have:=(h.arg.lt g e).2;omega
theorem RecL.addArg{vK qS tE:World}{g cap n1:Nat}{x:Xp}{cs:List Value}(h:RecL p W b3 B names cn args ca vn va vK)(ho:Off p.S vK qS)(hx:bV (bD vK.heap.size) qS x cs)(hl:cs.length=6)
  (pP:tE.ownsRow B 177 6 (.slice (some ⟨g,0,none⟩) n1 cap) n1 (ca.flatten++cs)) (hn:n1=args.length+1) (pO:(qS.alloc (.cells cs.toArray 177)).grownBy tE va.ownBlock) (qA:va.ownBlock=some g\/g=qS.heap.size+1):
  tE.heap[b3]? =some (.cells #[.int .i64 13,.int .i64 0,.string ⟨#[]⟩,.string ⟨#[]⟩,vn,va] 177)/\
  RecL p W b3 B names cn (args++[x]) (ca++[cs]) vn (.slice (some ⟨g,0,none⟩) n1 cap) (tE.setCell ⟨b3,5,none⟩ (.slice (some ⟨g,0,none⟩) n1 cap))/\
  Off (fun b=>W.heap.size<=b) qS (tE.setCell ⟨b3,5,none⟩ (.slice (some ⟨g,0,none⟩) n1 cap)):=by
 subst hn;have hb:=h.b3;have tZ:=h.pb;have CR:=h.next ho;have h9:=CR.next (Off.of_below (aA qS (.cells cs.toArray 177)));have pT:=h9.arg.lt;have hltn:=h9.nam.lt;have NP:=h.arg.lt;have IK:=h.nam.lt;have zZ:(qS.alloc (.cells cs.toArray 177)).heap.size=qS.heap.size+1:=VL;have hz12:=ho.size;have hbig11:=h.nam.big;have xP:Off (fun b=>va.ownBlock=some b) (qS.alloc (.cells cs.toArray 177)) tE:=⟨pO.os,pO.tape,pO.output,pO.size,fun b hb hn=>pO.block b hb (fun e=>hn e.symm)⟩;have KX:Off (fun b=>b=b3) tE (tE.setCell ⟨b3,5,none⟩ (.slice (some ⟨g,0,none⟩) (args.length+1) cap)):=Off.setCell (S:=fun b=>b=b3) tE rfl;have nb3:¬va.ownBlock=some b3:=fun e=>by have:=(pT b3 e).1;omega
 have IL:tE.heap[b3]? =_:=xP.heap nb3 h9.loc;have oa:Off (fun b=>va.ownBlock=some b\/b=b3) (qS.alloc (.cells cs.toArray 177)) (tE.setCell ⟨b3,5,none⟩ (.slice (some ⟨g,0,none⟩) (args.length+1) cap)):=(xP.mono fun b h=>.inl h).trans (KX.mono fun b h=>.inr h)
 have obig:Off (fun b=>W.heap.size<=b) (qS.alloc (.cells cs.toArray 177)) (tE.setCell ⟨b3,5,none⟩ (.slice (some ⟨g,0,none⟩) (args.length+1) cap)):=oa.mono fun b h=>by
  rcases h with h|h
  ·have:=(pT b h).1;omega
  ·omega
 have hxo:encXo vn.ownBlock (lC B va) (qS.alloc (.cells cs.toArray 177)) x cs:=aG _ _ _ _ _ _ (fun b pR hl=>⟨⟨⟨by have pR:vK.heap.size<=b:=pR;omega,fun e=>by have pR:vK.heap.size<=b:=pR;have:=(NP b e).2;omega⟩,fun e=>by have pR:vK.heap.size<=b:=pR;have:=(IK b e).2;omega⟩,fun o u hu=>aC (aA _ _) hu⟩) hx;have hA:=h9.arg.added (encXo_ok _) hxo hl pP pO Y3;refine⟨IL,⟨?_,?_,?_,?_,hA.stays (encXo_ok _) (cZ.of_off KX fun b pR=>.inl VG),hb,tZ,fun b pR e=>?_⟩,(Off.of_below (aA _ _)).trans obig⟩
 ·exact Off.fresh ((h9.off.or _).trans (obig.mono fun b h=>.inr h)) (Nat.le_refl _)
 ·exact oa.heap (fun h=>h.elim (fun h=>by have:=(pT _ h).1;omega) (fun h=>VG)) h9.res
 ·rw[aO IL];rfl
 ·refine h9.nam.change (by have:=pO.size;rw[eR];exact this) (fun b pR=>oa.block b (hltn b pR).2 (fun h=>?_)) (fun x c hx=>hx);rcases h with h|h
  ·exact h9.disj b pR h
  ·have:=(hltn b pR).1;omega
 ·have e:g=b:=XS;subst e;rcases qA with h1|h1
  ·exact h9.disj g pR h1
  ·have:=(IK g pR).2;omega
theorem RecL.exp(h:RecL p W b3 B names cn args ca vn va wr):bV (bD B) wr (.mk 13 0 noB noB names args) [.int .i64 13,.int .i64 0,.string ⟨#[]⟩,.string ⟨#[]⟩,vn,va]:=by
 rw[aZ];refine⟨vn,va,rfl,VI,VI,h.nam.row aQ,?_⟩;obtain⟨a,c,h1,h2,h3,h4⟩:=h.arg.row (encXo_ok _);refine⟨a,c,h1,h2,h3,fun pQ=>?_⟩;obtain⟨b,o,pS,pR,rD⟩:=h4 pQ;refine⟨b,o,pS,pR,fun i x hx=>?_⟩;obtain⟨cs,e1,e2,e3⟩:=rD i x hx;exact⟨cs,aG.wide e1 (fun b hb _=>hb.1),e2,e3⟩
end
end Go.Proofs.YtacgopankhpnbaaGreatDoor
namespace Go.Proofs.YtacgopankhpnbaaGreatDoor
open Go.RowKit
theorem SD{p:Prop}(h:p:=by
 refine hK.out _ _ trivial (fun hS=>?_);clear hK K;try simp only[zn]
 have N9:=vX.out.next (Off.of_below (aE vK));have yB:=vW.out.next (Off.of_below (aA qS (.cells #[.int .i64 opc,.int .i64 nc,.string sc,.string mc,.slice pc qc rc,.slice tc uc vc] 177)));have rG:=yB.arg.big;refine wpAnyH_ready (rs:=[5]) VH VL ?_;refine AllReadyH.cons rfl (fun K hK=>?_) AllReadyH.nil;refine step_append_lies (qS.alloc (.cells #[.int .i64 opc,.int .i64 nc,.string sc,.string mc,.slice pc qc rc,.slice tc uc vc] 177)) rfl _ _ 127 rfl B 177 i0 (.agg #[.int .i64 0,.int .i64 0,.string ByteArray.empty,.string ByteArray.empty,.slice none 0 0,.slice none 0 0]) 6 96 Tryz.underlying127 tF rS qI qH rfl VG (.slice a2 args.length c2) args.length ca.flatten WF yB.arg.own ⟨qS.heap.size,0,none⟩ 1 1 [.int .i64 opc,.int .i64 nc,.string sc,.string mc,.slice pc qc rc,.slice tc uc vc] WF rfl (World.news_of_block (cs:=#[.int .i64 opc,.int .i64 nc,.string sc,.string mc,.slice pc qc rc,.slice tc uc vc]) (t:=177) (fr:=(0,0)) (heap_alloc_new qS _)) VX VG VR VG rG (qS.heap.size+1) VL ?_;intro g' cap' tE pP pO qA _;obtain⟨AM,CL,oB⟩:=N9.addArg qF FR rfl pP rfl pO qA;have DC:=zh (HW.out.above rI oB);have C8:=zh CL;have rO:=zh (JH.out.trans (PR.bnd_ok qY));clear pP pO qA CL oB yB rG N9 rI qF FR qY vW;refine hK.out _ _ trivial (fun hS=>?_);clear hK K;try simp only[zn]
 refine zt 6 (.pointer (some ⟨w.heap.size+1,5,none⟩)) rfl (fun W hW=>VM) hS ?_;try simp only[zn]
 refine zr 7 rfl (fun K hK=>?_);try simp only[z1,z2,z3]
 obtain⟨⟨c0,c1,c2,c3,c4,c5⟩,h0,h1,h2,h3,h4,h5⟩:=bx6 AM;go_simp;clear c0 c1 c2 c3 c4 c5 h0 h1 h2 h3 h4 h5 AM;refine hK.out _ _ trivial (fun hS=>?_);clear hK K;try simp only[zn]
 refine wpAnyH_done VH ?_ _;clear hS vX A5 HE;generalize tE.setCell ⟨w.heap.size+1,5,none⟩ (.slice (some ⟨g',0,none⟩) (args.length+1) cap')=zI at *;have NV:=DC.out.lt;go_wp2_with(first|(go_at_call 131;refine(cR p GZ uI gR (by have h:=tB;rw[if_neg YF] at h;exact h)).mono ?_;rintro e w16 (⟨x16,wC,rfl,BV⟩|⟨⟨⟩,k16,wC,⟨rfl,I6⟩,BV⟩)<;>have vD:=zh (C8.out.next (rU.trans BV))<;>obtain⟨⟨c0,c1,c2,c3,c4,c5⟩,h0,h1,h2,h3,h4,h5⟩:=bx6 vD.out.loc<;>obtain⟨⟨r0,r1,r2,r3,r4,r5⟩,g0,g1,g2,g3,g4,g5⟩:=bx6 vD.out.res)|(go_at_call 141;refine(mN p zI uI bJ DC.out).mono ?_;rintro e GZ ⟨rfl,tB,rU⟩))
 ·have rB:¬isP p.l uI bJ=true:=YF;exact⟨rfl,Ran.bad' (rO.out.trans ((if_neg rB).trans (PR.bnd_bad wC))) vD.out.off⟩
 ·have rB:¬isP p.l uI bJ=true:=YF;have hk16:=(cH wC).1;have hE:=gA HW.out vD.out.off I6 vD.out.exp (fun b hb=>YI);unfold gB at hE;refine bodyPost_ret (v:=.agg #[.int .i64 13,.int .i64 0,.string ⟨#[]⟩,.string ⟨#[]⟩,.slice (some ⟨g,0,none⟩) (names.length+1) cap,.slice (some ⟨g',0,none⟩) (args.length+1) cap']) (by simp[results,Tryz.results242,go_sem,r0,r1,r2,r3,r4,r5]) rfl ?_;exact Ran.good (rO.out.trans ((if_neg rB).trans (PR.bnd_ok wC))) ⟨⟨13,0,⟨#[]⟩,⟨#[]⟩,_,_,_,_,_,_,rfl,hE.1⟩,hE.2.1,VG⟩ hE.2.2
 ·have rB:isP p.l uI bJ=true:=by simpa using ‹(!isP p.l uI bJ)=false›
  rw[if_pos rB] at tB;have KM:=tB.lt;have J0:=zh (C8.out.next rU);have DB:=zh tB;have AP:=zh (rO.out.trans (if_pos rB));obtain⟨F',sU⟩:∃F',F=F'+1:=⟨F-1,VG⟩;clear tB rU rB;go_roundw
  case rel=>
   subst sU;exact⟨uI+1,F',s,names++[s],_,_,args++[xc],some ⟨g,0,none⟩,cap,some ⟨g',0,none⟩,cap',rfl,by simpa using J0,DB,AP,zh ⟨VG,VG,VZ,by have:=HB.out.2.2.2;simp;omega⟩⟩
  case measure=>
   rw[DB.out.pos,HA.out.pos];omega):p:=h
theorem UZ{p:Prop}(h:p:=by
 go_wp2_with fail
 exact⟨rfl,Ran.bad' (JH.out.trans (PR.bnd_bad qY)) (vX.out.off.trans ((Off.of_below (aE vK)).trans qF))⟩):p:=h
theorem strInfo1:(Tryz.prog.info? 9).map (fun i=>(i.zero,i.size,i.bytes))=some (some (.string ByteArray.empty),1,16):=VH
section
variable {l:List Tok} {rec:RecP} {F q:Nat} {names:List ByteArray} {args:List Xp} {last:ByteArray}
theorem recFrom_step(hq:cY l q=true)(hr:gO l q names.length 8=.ok ((),q)):dL l rec (F+1) names args last q=
  (fQ l q last (decide (0<names.length))).bnd fun s j=>(dB l j kEq).bnd fun _ j2=>(rec 0 j2).bnd fun e j3=>
   if isP l j3 bJ then dL l rec F (names++[s]) (args++[e]) s (j3+1) else(dB l j3 gR).bnd fun _ k=>.ok (.mk 13 0 noB noB (names++[s]) (args++[e]),k):=by
 rw[dL,if_pos hq,hr];rfl
theorem recFrom_full(hq:cY l q=true){x:Int×Int}(hr:gO l q names.length 8=.error x):dL l rec (F+1) names args last q=.error x:=by
 rw[dL,if_pos hq,hr];rfl
theorem recFrom_noname(hq:cY l q=false):dL l rec (F+1) names args last q=.error ((aH l q).pos,11):=by
 rw[dL,if_neg X0];unfold fQ;rw[hq];rfl
end
theorem record_any(p:Prs)(f:Nat)(hE:fX p f):lV p f:=fun i w h sE=>by
 obtain⟨i0,tF,rS,qI,qH⟩:=info_parts xpInfo;obtain⟨i1,B8,BM,BL,AA⟩:=info_parts strInfo1;have HE:=zh hE;have HW:=zh h;have hlen:=h.len;have tZ:=h.blt;have pQ:w.heap.size≠p.pb:=VG;have hne1:w.heap.size+1≠p.pb:=VG;have rF:(w.alloc (.cells bH 177)).heap.size=w.heap.size+1:=VL;have uK:((w.alloc (.cells bH 177)).alloc (.cells #[.int .i64 13,.int .i64 0,.string ⟨#[]⟩,.string ⟨#[]⟩,.slice none 0 0,.slice none 0 0] 177)).heap.size=w.heap.size+2:=VL;have BA:Below w.heap.size w ((w.alloc (.cells bH 177)).alloc (.cells #[.int .i64 13,.int .i64 0,.string ⟨#[]⟩,.string ⟨#[]⟩,.slice none 0 0,.slice none 0 0] 177)):=aB (aA _ _) (aA _ _);have HBA:=zh BA;have HAa:=zh (h.later BA);have RK:=zh (aF (aA (w.alloc (.cells bH 177)) (.cells #[.int .i64 13,.int .i64 0,.string ⟨#[]⟩,.string ⟨#[]⟩,.slice none 0 0,.slice none 0 0] 177)) (heap_alloc_new w (.cells bH 177)));have hLa:=heap_alloc_new (w.alloc (.cells bH 177)) (.cells #[.int .i64 13,.int .i64 0,.string ⟨#[]⟩,.string ⟨#[]⟩,.slice none 0 0,.slice none 0 0] 177);rw[rF] at hLa;have HLa:=zh hLa;clear h hE BA hLa
 cases vY:isP p.l i gR with
 |true=>
  have HH:=zh (eX p ((w.alloc (.cells bH 177)).alloc (.cells #[.int .i64 13,.int .i64 0,.string ⟨#[]⟩,.string ⟨#[]⟩,.slice none 0 0,.slice none 0 0] 177)) i gR HAa.out vY);have HR:Hid (kU p.l (bQ p.l f) i=.ok (.mk 13 0 noB noB [] [],i+1)):=zh (by unfold kU;rw[if_pos vY]);clear vY;go_enter Tryz.func242,Tryz.ntmps242;go_wp2_with(go_at_call 141;refine HH.out.mono ?_;rintro e w2 ⟨rfl,qL,pU⟩;have hR2:=pU.heap pQ RK.out;have hL2:=pU.heap hne1 HLa.out;obtain⟨⟨r0,r1,r2,r3,r4,r5⟩,g0,g1,g2,g3,g4,g5⟩:=bx6 hR2;obtain⟨⟨c0,c1,c2,c3,c4,c5⟩,h0,h1,h2,h3,h4,h5⟩:=bx6 hL2);have hE:=gA (N:=fun _=>False) (x:=.mk 13 0 noB noB [] []) (op:=13) (n:=0) (s:=⟨#[]⟩) (m:=⟨#[]⟩) (a1:=none) (n1:=0) (c1:=0) (a2:=none) (n2:=0) (c2:=0) HW.out ((Off.of_below HBA.out).trans pU) qL WH (fun b hb=>hb.elim);unfold gB at hE;refine bodyPost_ret (v:=.agg #[.int .i64 13,.int .i64 0,.string ⟨#[]⟩,.string ⟨#[]⟩,.slice none 0 0,.slice none 0 0]) (by simp[results,Tryz.results242,go_sem,r0,r1,r2,r3,r4,r5]) rfl ?_;exact Ran.good HR.out ⟨⟨13,0,⟨#[]⟩,⟨#[]⟩,none,0,0,none,0,0,rfl,hE.1⟩,hE.2.1,VG⟩ hE.2.2
 |false=>
  have HH:=zh (aX p ((w.alloc (.cells bH 177)).alloc (.cells #[.int .i64 13,.int .i64 0,.string ⟨#[]⟩,.string ⟨#[]⟩,.slice none 0 0,.slice none 0 0] 177)) i gR HAa.out vY);have HR:Hid (kU p.l (bQ p.l f) i=dL p.l (bQ p.l f) (p.l.length+1) [] [] noB i):=zh (by unfold kU;rw[if_neg (by rw[vY];simp)]);clear vY;go_enter Tryz.func242,Tryz.ntmps242;go_wp2_with(go_at_call 141;refine HH.out.mono ?_;rintro e w2 ⟨rfl,qL,pU⟩);have O3:=pU.size;have R3:Hid (RecL p w (w.heap.size+1) w2.heap.size [] [] [] [] (.slice none 0 0) (.slice none 0 0) w2):=zh ⟨(Off.of_below HBA.out).trans pU,pU.heap pQ RK.out,pU.heap hne1 HLa.out,Gro.first _ _ _ _,Gro.first _ _ _ _,⟨VG,VG⟩,tZ,fun b hb=>by cases hb⟩;have BK:=zh qL;have hb3B:w.heap.size+1<w2.heap.size:=VG;clear qL pU HH RK HLa HAa HBA uK O3;generalize w2.heap.size=B at *;go_loopw [4] (fun sl wr=>∃(q F:Nat)(last:ByteArray)(names:List ByteArray)(cn ca:List (List Value))(args:List Xp)(a1:Option Addr)(c1:Nat)(a2:Option Addr)(c2:Nat),sl=.string last/\Hid (RecL p w (w.heap.size+1) B names cn args ca (.slice a1 names.length c1) (.slice a2 args.length c2) wr)/\Hid (p.At wr q)/\Hid (kU p.l (bQ p.l f) i=dL p.l (bQ p.l f) (F+1) names args last q)/\Hid (p.l.length<=F+q/\i<=q/\names.length<=8/\args.length=names.length)) (fun _ wr=>p.l.length-posOf wr p.pb)
  case atStart=>exact⟨i,p.l.length,_,[],[],[],[],none,0,none,0,rfl,R3,BK,HR,zh ⟨VG,Nat.le_refl _,VI,rfl⟩⟩
  case round=>
   obtain⟨q,F,last,names,cn,ca,args,a1,c1,a2,c2,rfl,HL,HA,pZ,HB⟩:=hrel;(rename World=>wr);have yV:=HB.out.1;have DR:=HB.out.2.1;have PK:=HB.out.2.2.1;(have hq5:args.length<=8:=by have:=HB.out.2.2.2;omega);have FE:=HA.out.lt
   cases uL:cY p.l q with
   |false=>
    ·skip;go_wp2_with(first|(go_at_call 186;refine(mT p w5 q last _ tX.out).mono ?_;rintro e w6 (⟨x,hx,rfl,qE⟩|⟨s,j6,hx,⟨rfl,tK,LG⟩,qE⟩))|(go_at_call 185;refine(gY p wr q HA.out).mono ?_;rintro e w5 ⟨rfl,hb5⟩;rw[uL];have tX:=zh (HA.out.later hb5);have tS:=zh (HL.out.next (Off.of_below hb5));obtain⟨⟨c0,JE,c2',c3,c4,c5⟩,h0,h1,h2,h3,h4,h5⟩:=bx6 tS.out.loc))
     ·exact⟨rfl,Ran.bad' (by have e:=(iT uL).symm.trans hx;cases e;exact pZ.out.trans (recFrom_noname uL)) (tS.out.off.trans qE)⟩
     ·rw[iT uL] at hx;cases hx
   |true=>
    ·skip;go_wp2_with(first|(go_at_call 131;have hj7:=laterP_ok rJ;refine(cR p w7 j7 kEq rX).mono ?_;rintro e w8 (⟨x8,sM,rfl,rM⟩|⟨⟨⟩,j8,sM,⟨rfl,wH⟩,rM⟩)<;>have HL8:=zh (OT.out.next rM)<;>obtain⟨⟨k0,k1,k2,k3,k4,k5⟩,-⟩:=bx6 HL8.out.loc)|(go_at_call 186;have hj6:=oU uH;subst hj6;refine(mT p w6 j6 last _ tK).mono ?_;rintro e w7 (⟨x7,rJ,rfl,qC⟩|⟨s,j7,rJ,⟨rfl,rX,hs7⟩,qC⟩)<;>have OT:=zh (zC.out.next qC))|(go_at_call 134;refine(oT p w5 q names.length 8 tX.out).mono ?_;rintro e w6 (⟨x6,uH,rfl,qE⟩|⟨⟨⟩,j6,uH,⟨rfl,tK⟩,qE⟩)<;>have zC:=zh (tS.out.next qE)<;>obtain⟨⟨e0,e1,e2,e3,e4,e5⟩,-⟩:=bx6 zC.out.loc)|(go_at_call 185;refine(gY p wr q HA.out).mono ?_;rintro e w5 ⟨rfl,hb5⟩;rw[uL];have tX:=zh (HA.out.later hb5);have tS:=zh (HL.out.next (Off.of_below hb5));obtain⟨⟨d0,d1,d2,d3,d4,d5⟩,-⟩:=bx6 tS.out.loc)|(at_builtin;have hL9:=HL8.out.next (Off.of_below (aA w8 (.cells #[.string s] 9)));have rN:=hL9.nam.big;refine wpList_append_lies _ rfl _ _ 22 rfl B 9 i1 (.string ByteArray.empty) 1 16 Tryz.underlying22 B8 BM BL AA rfl VG (.slice a1 names.length c1) names.length cn.flatten WF hL9.nam.own ⟨w8.heap.size,0,none⟩ 1 1 [.string s] WF rfl (World.news_of_block (cs:=#[.string s]) (t:=9) (fr:=(0,0)) (heap_alloc_new w8 _)) VX VG VR VG rN (w8.heap.size+1) VL ?_))
     ·exact⟨rfl,Ran.bad' (pZ.out.trans (recFrom_full uL uH)) zC.out.off⟩
     ·exact⟨rfl,Ran.bad' (pZ.out.trans ((recFrom_step uL uH).trans (PR.bnd_bad rJ))) OT.out.off⟩
     ·exact⟨rfl,Ran.bad' (pZ.out.trans ((recFrom_step uL uH).trans ((PR.bnd_ok rJ).trans (PR.bnd_bad sM)))) HL8.out.off⟩
     ·intro g cap qJ pP pO qA _;obtain⟨CS,CM,oB⟩:=HL8.out.addName hs7 pP rfl pO qA;have LV:=(cH sM).1
      have hlr:names.length<8:=by
       have h:=uH;unfold gO at h;split at h
       ·assumption
       ·cases h
      have A5:=zh (HW.out.above wH oB);have vX:=zh CM;have JH:=zh (pZ.out.trans ((recFrom_step uL uH).trans ((PR.bnd_ok rJ).trans (PR.bnd_ok sM))));obtain⟨⟨c0,JE,c2',c3,c4,c5⟩,h0,h1,h2,h3,h4,h5⟩:=bx6 CS;clear pP pO qA CS CM oB hL9 rN tK rX wH qE qC rM uH rJ sM d0 d1 d2 d3 d4 d5 e0 e1 e2 e3 e4 e5 k0 k1 k2 k3 k4 k5 tS zC OT HL8;go_wp2_with fail;clear c0 JE c2' c3 c4 c5 h0 h1 h2 h3 h4 h5;generalize qJ.setCell ⟨w.heap.size+1,4,none⟩ (.slice (some ⟨g,0,none⟩) (names.length+1) cap)=vK at *;refine wp_region_held_drew (S:=(fun _=>True)) VH trivial fun hS=>?_;refine zt 0 (.pointer (some ⟨w.heap.size+1,5,none⟩)) rfl (fun W hW=>VM) hS ?_;(try simp only[zn]);refine zt 2 (.pointer (some ⟨p.pb,0,none⟩)) rfl (fun W hW=>VM) hS ?_;(try simp only[zn]);refine wpAnyH_ready (rs:=[1,3]) VH VL ?_;refine AllReadyH.cons rfl (fun K hK=>?_) (AllReadyH.cons rfl (fun K hK=>?_) AllReadyH.nil)
      ·have hl11:=aF (aE vK) vX.out.loc;rw[if_pos VH];(try simp only[z1,z2,z3]);obtain⟨⟨c0,c1,c2,c3,c4,c5⟩,h0,h1,h2,h3,h4,h5⟩:=bx6 hl11;go_simp;clear c0 c1 c2 c3 c4 c5 h0 h1 h2 h3 h4 h5;refine hK.out _ _ trivial (fun hS=>?_);clear hK K;(try simp only[zn]);refine zr 3 rfl (fun K hK=>?_);(try simp only[z1,z2,z3]);go_simp;refine(HE.out 0 j8 vK.drew (A5.out.later (aE _)) VG VG).mono ?_;rintro e qS (⟨x12,qY,rfl,qF⟩|⟨xc,uI,qY,⟨⟨opc,nc,sc,mc,pc,qc,rc,tc,uc,vc,rfl,FR⟩,rI,NY⟩,qF⟩)
       ·exact UZ
       ·have vW:=zh (vX.out.next ((Off.of_below (aE vK)).trans qF));refine hK.out _ _ trivial (fun hS=>?_);clear hK K;(try simp only[zn]);refine zr 4 rfl (fun K hK=>?_);(try simp only[z1,z2,z3]);go_simp;exact SD
      ·rw[if_pos VH];(try simp only[z1,z2,z3]);go_simp;refine(HE.out 0 j8 vK.drew (A5.out.later (aE _)) VG VG).mono ?_;rintro e qS (⟨x12,qY,rfl,qF⟩|⟨xc,uI,qY,⟨⟨opc,nc,sc,mc,pc,qc,rc,tc,uc,vc,rfl,FR⟩,rI,NY⟩,qF⟩)
       ·exact UZ
       ·have vW:=zh (vX.out.next ((Off.of_below (aE vK)).trans qF));refine hK.out _ _ trivial (fun hS=>?_);clear hK K;(try simp only[zn]);refine wpAnyH_ready (rs:=[1,4]) VH VL ?_;refine AllReadyH.cons rfl (fun K hK=>?_) (AllReadyH.cons rfl (fun K hK=>?_) AllReadyH.nil)
        ·have hl12:=vW.out.loc;rw[if_pos VH];(try simp only[z1,z2,z3]);obtain⟨⟨c0,c1,c2,c3,c4,c5⟩,h0,h1,h2,h3,h4,h5⟩:=bx6 hl12;go_simp;clear c0 c1 c2 c3 c4 c5 h0 h1 h2 h3 h4 h5;refine hK.out _ _ trivial (fun hS=>?_);clear hK K;(try simp only[zn]);refine zr 4 rfl (fun K hK=>?_);(try simp only[z1,z2,z3]);go_simp;exact SD
        ·rw[if_pos VH];(try simp only[z1,z2,z3]);go_simp;refine hK.out _ _ trivial (fun hS=>?_);clear hK K;(try simp only[zn]);refine wpAnyH_ready (rs:=[1]) VH VL ?_;refine AllReadyH.cons rfl (fun K hK=>?_) AllReadyH.nil;have hl13:=aF (aA qS (.cells #[.int .i64 opc,.int .i64 nc,.string sc,.string mc,.slice pc qc rc,.slice tc uc vc] 177)) vW.out.loc;rw[if_pos VH];(try simp only[z1,z2,z3]);obtain⟨⟨c0,c1,c2,c3,c4,c5⟩,h0,h1,h2,h3,h4,h5⟩:=bx6 hl13;go_simp;clear c0 c1 c2 c3 c4 c5 h0 h1 h2 h3 h4 h5;exact SD
end Go.Proofs.YtacgopankhpnbaaGreatDoor
namespace Go.Proofs.YtacgopankhpnbaaGreatDoor
theorem U5{p:Prop}(h:p:=by
 obtain⟨a,_,ha,h⟩:=PR.of_bnd h;cases h
 exact iO fun y hy=>by rw[List.mem_singleton.1 hy];exact hr _ _ _ _ ha):p:=h
theorem VE{p:Prop}(h:p:=by
 rcases List.mem_append.1 hx with hx|hx
 ·exact ho x hx
 ·rw[List.mem_singleton.1 hx];exact hr _ _ _ _ he):p:=h
section
variable {l:List Tok} {rec:RecP} {D:Nat}
theorem depthXs_le_of{l:List Xp}{D:Nat}(h:∀x,x∈l->cB x<=D):eC l<=D:=by
 induction l with
 |nil=>simp[eC]
 |cons x r ih=>
  rw[eC];exact Nat.max_le.2 ⟨h x VL,ih fun y hy=>h y (by simp[hy])⟩
theorem iO{op n:Int}{s m:ByteArray}{names:List ByteArray}{args:List Xp}(h:∀x,x∈args->cB x<=D):cB (.mk op n s m names args)<=D+1:=by
 rw[cB];have:=depthXs_le_of h;omega
theorem nE(hr:∀f i x j,rec f i=.ok (x,j)->cB x<=D):∀(F:Nat)(out:List Xp)(i:Nat)(xs:List Xp)(j:Nat),(∀x,x∈out->cB x<=D)->cF l rec F out i=.ok (xs,j)->∀x,x∈xs->cB x<=D
 |0,out,i,xs,j,ho,h=>by unfold cF at h;cases h;exact ho
 |F+1,out,i,xs,j,ho,h=>by
  unfold cF at h;obtain⟨_,_,-,h⟩:=PR.of_bnd h;obtain⟨e,j1,he,h⟩:=PR.of_bnd h
  have hn:∀x,x∈out++[e]->cB x<=D:=fun x hx=>by
   exact VE
  split at h
  ·exact nE hr F _ _ xs j hn h
  ·obtain⟨_,_,-,h⟩:=PR.of_bnd h;cases h;exact hn
theorem operandsP_depth(hr:∀f i x j,rec f i=.ok (x,j)->cB x<=D){i j:Nat}{xs:List Xp}(h:jN l rec i=.ok (xs,j)):∀x,x∈xs->cB x<=D:=by
 unfold jN at h;obtain⟨_,_,-,h⟩:=PR.of_bnd h;split at h
 ·cases h;intro x hx;cases hx
 ·exact nE hr _ _ _ _ _ (fun x hx=>by cases hx) h
theorem oV(hr:∀f i x j,rec f i=.ok (x,j)->cB x<=D):∀(F:Nat)(names:List ByteArray)(args:List Xp)(last:ByteArray)(i:Nat)(x:Xp)(j:Nat),(∀x,x∈args->cB x<=D)->dL l rec F names args last i=.ok (x,j)->cB x<=D+1
 |0,names,args,last,i,x,j,ho,h=>by unfold dL at h;cases h;exact iO ho
 |F+1,names,args,last,i,x,j,ho,h=>by
  unfold dL at h;obtain⟨_,_,-,h⟩:=PR.of_bnd h;obtain⟨_,_,-,h⟩:=PR.of_bnd h;obtain⟨_,_,-,h⟩:=PR.of_bnd h;obtain⟨e,j1,he,h⟩:=PR.of_bnd h
  have hn:∀x,x∈args++[e]->cB x<=D:=fun x hx=>by
   exact VE
  split at h
  ·exact oV hr F _ _ _ _ x j hn h
  ·obtain⟨_,_,-,h⟩:=PR.of_bnd h;cases h;exact iO hn
theorem lM{op n:Int}{s m:ByteArray}:cB (.mk op n s m [] [])<=D+1:=iO fun x hx=>by cases hx
theorem primaryP_depth(hr:∀f i x j,rec f i=.ok (x,j)->cB x<=D){i j:Nat}{x:Xp}(h:aS l rec i=.ok (x,j)):cB x<=D+1:=by
 have hp:∀{i x j},parenP l rec i=.ok (x,j)->cB x<=D:=fun h=>by
  unfold parenP at h;obtain⟨e,j1,he,h⟩:=PR.of_bnd h;obtain⟨_,_,-,h⟩:=PR.of_bnd h;cases h;exact hr _ _ _ _ he
 unfold aS at h;split at h
 ·cases h;exact lM
 ·split at h
  ·cases h;exact lM
  ·split at h
   ·cases h;exact lM
   ·split at h
    ·obtain⟨_,_,-,h⟩:=PR.of_bnd h;cases h;exact lM
    ·split at h
     ·obtain⟨_,_,-,h⟩:=PR.of_bnd h;obtain⟨e,_,he,h⟩:=PR.of_bnd h;cases h;exact iO fun y hy=>by rw[List.mem_singleton.1 hy];exact hp he
     ·split at h
      ·unfold kU at h;split at h
       ·cases h;exact lM
       ·exact oV hr _ _ _ _ _ _ _ (fun x hx=>by cases hx) h
      ·split at h
       ·exact Nat.le_succ_of_le (hp h)
       ·obtain⟨s,j1,-,h⟩:=PR.of_bnd h;unfold callP at h;split at h
        ·obtain⟨xs,_,ha,h⟩:=PR.of_bnd h;cases h;exact iO (operandsP_depth hr ha)
        ·split at h
         ·obtain⟨_,_,-,h⟩:=PR.of_bnd h;obtain⟨xs,_,ha,h⟩:=PR.of_bnd h;cases h;exact iO (operandsP_depth hr ha)
         ·cases h;exact lM
theorem prefixP_depth(hr:∀f i x j,rec f i=.ok (x,j)->cB x<=D){form i j:Nat}{r:Xp×Nat}(h:cL l rec form i=.ok (r,j)):cB r.1<=D+1:=by
 unfold cL at h;split at h
 ·obtain⟨a,_,ha,h⟩:=PR.of_bnd h;obtain⟨_,_,-,h⟩:=PR.of_bnd h;obtain⟨b,_,hb,h⟩:=PR.of_bnd h;obtain⟨_,_,-,h⟩:=PR.of_bnd h;obtain⟨c,_,hc,h⟩:=PR.of_bnd h;cases h
  exact iO fun y hy=>by
   simp only[List.mem_cons,List.not_mem_nil,or_false] at hy;rcases hy with rfl|rfl|rfl
   ·exact hr _ _ _ _ ha
   ·exact hr _ _ _ _ hb
   ·exact hr _ _ _ _ hc
 ·split at h
  ·obtain⟨_,_,-,h⟩:=PR.of_bnd h;obtain⟨_,_,-,h⟩:=PR.of_bnd h;obtain⟨a,_,ha,h⟩:=PR.of_bnd h;obtain⟨_,_,-,h⟩:=PR.of_bnd h;obtain⟨b,_,hb,h⟩:=PR.of_bnd h;cases h
   exact iO fun y hy=>by
    simp only[List.mem_cons,List.not_mem_nil,or_false] at hy;rcases hy with rfl|rfl
    ·exact hr _ _ _ _ ha
    ·exact hr _ _ _ _ hb
  ·split at h
   ·obtain⟨_,_,-,h⟩:=PR.of_bnd h;exact U5
   ·split at h
    ·exact U5
    ·obtain⟨e,_,he,h⟩:=PR.of_bnd h;cases h;exact primaryP_depth hr he
theorem dotsP_depth:∀(F:Nat)(e:Xp)(i:Nat)(x:Xp)(j:Nat),oD l F e i=.ok (x,j)->cB x<=cB e+F
 |0,e,i,x,j,h=>by unfold oD at h;cases h;exact Nat.le_refl _
 |F+1,e,i,x,j,h=>by
  unfold oD at h;split at h
  ·obtain⟨s,j1,-,h⟩:=PR.of_bnd h;have h1:=dotsP_depth F _ _ x j h;(have h2:cB (.mk 14 0 s noB [] [e])<=cB e+1:=iO fun y hy=>by rw[List.mem_singleton.1 hy];exact Nat.le_refl _);omega
  ·cases h;omega
theorem opsP_depth(hr:∀f i x j,rec f i=.ok (x,j)->cB x<=D)(form:Nat):∀(F own:Nat)(e:Xp)(i:Nat)(x:Xp)(j:Nat)(E:Nat),cB e<=E->D<=E->opsP l rec form F own e i=.ok (x,j)->cB x<=E+F
 |0,own,e,i,x,j,E,he,hD,h=>by unfold opsP at h;cases h;exact he
 |F+1,own,e,i,x,j,E,he,hD,h=>by
  unfold opsP at h;split at h
  ·cases h;omega
  ·split at h
   ·cases h;omega
   ·obtain⟨b,j1,hb,h⟩:=PR.of_bnd h
    have h1:=opsP_depth hr form F _ _ _ x j (E+1) (iO fun y hy=>by
     simp only[List.mem_cons,List.not_mem_nil,or_false] at hy;rcases hy with rfl|rfl
     ·exact he
     ·exact Nat.le_trans (hr _ _ _ _ hb) hD) VG h
    omega
theorem expP_depth:∀(f form i:Nat)(x:Xp)(j:Nat),bQ l f form i=.ok (x,j)->cB x<=f*(2*l.length+3)
 |0,form,i,x,j,h=>by unfold bQ at h;cases h
 |f+1,form,i,x,j,h=>by
  unfold bQ at h;obtain⟨r,j1,uW,h⟩:=PR.of_bnd h;obtain⟨e,k,he,h⟩:=PR.of_bnd h;have G8:∀f' i x j,bQ l f f' i=.ok (x,j)->cB x<=f*(2*l.length+3):=fun f' i x j h=>expP_depth f f' i x j h;have h1:=prefixP_depth G8 uW
  have h2:cB e<=f*(2*l.length+3)+1+(l.length+1):=by
   split at he
   ·have:=dotsP_depth _ _ _ _ _ he;omega
   ·cases he;omega
  have h3:=opsP_depth G8 form _ _ _ _ _ _ _ h2 VG h;have e1:(f+1)*(2*l.length+3)=f*(2*l.length+3)+(2*l.length+3):=Nat.succ_mul _ _;omega
theorem expAllP_depth{form i j:Nat}{x:Xp}(h:expAllP l form i=.ok (x,j))(hl:l.length<=8001):cB x<=200000000:=by
 have h1:=expP_depth _ _ _ _ _ h;have h2:(l.length+1)*(2*l.length+3)<=8002*16005:=Nat.mul_le_mul VG VG;omega
end
end Go.Proofs.YtacgopankhpnbaaGreatDoor
