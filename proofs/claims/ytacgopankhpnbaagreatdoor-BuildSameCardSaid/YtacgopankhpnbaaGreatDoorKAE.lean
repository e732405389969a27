/- Texts of this seat, joined. -/
import Derived.Test.YtacgopankhpnbaaGreatDoorKAD
set_option linter.unusedVariables false
set_option linter.unusedSimpArgs false
namespace Go.Proofs.YtacgopankhpnbaaGreatDoor
set_option maxHeartbeats 2000000
set_option maxRecDepth 100000
open Go.RowKit
theorem prim_num(p:Prs)(f:Nat)(hE:gW p f)(hRc:nA p f)(w:World)(i:Nat)(h:p.At w i)(hfu:p.l.length<=f+i)(k1:(aH p.l i).kind=1):Calls Tryz.prog 236 #[.pointer (some ⟨p.pb,0,none⟩)] w
  (Ran p.S w (aY p.l (bZ p.l f) i) fun x j e w'=>pV w.heap.size x e w'/\p.At w' j/\i<=j):=by
 have HE:=zh hE;have HRc:=zh hRc;have HW:=zh h;have HR:Hid (aY p.l (bZ p.l f) i=.ok (.mk 0 (aH p.l i).n noB noB [] [],i+1)):=zh (by unfold aY;rw[if_pos k1];try rfl);have HA0:=zh (h.later (aA w (.cells bS 177)));have HN:=zh (fun W(hW:p.At W i)=>dA p W i hW);have hlen:=h.len;have hbd:=h.bound;have htok:=h.tok;have hlast:=h.last i _ htok;have hne:w.heap.size≠p.pb:=wU;have hpb:=h.blt;have hs0:(w.alloc (.cells bS 177)).heap.size=w.heap.size+1:=vZ;have hl:i+1<p.l.length:=hlast (by rw[k1];decide);generalize htk:aH p.l i=t at *;have HTk:=zh htk;clear h hE hRc htk;have k1':(t.kind==1)=true:=by rw[beq_iff_eq];exact k1
 go_enter Tryz.func236,Tryz.ntmps236;go_wp2_with(first|(go_at_call 145;refine(HN.out _ HA0.out).mono ?_;rintro e w1 ⟨rfl,hb1⟩;have hz1:=hb1.size;have ha0:=HA0.out.later hb1;have ha1:=ha0.later (aA w1 (.cells #[.int .i64 1,.string t.text,.int .i64 t.n,.int .i64 t.pos] 201));have b1:=ha0.box1;have f1:=ha0.froz;have b1':=ha1.box1;have f1':=ha1.froz;have hpb1:=ha0.blt;have hRs:=aD hb1 (heap_alloc_new w (.cells bS 177));obtain⟨⟨r0,r1,r2,r3,r4,r5⟩,g0,g1,g2,g3,g4,g5⟩:=bx6 hRs;have hbl:w.heap.size<w1.heap.size:=vT;have hnt:¬w1.heap.size=p.pb:=vT;have hnt2:¬p.pb=w1.heap.size:=vT;have hnr:¬w.heap.size=p.pb:=hne;have hnr2:¬p.pb=w.heap.size:=(fun e=>hne e.symm);have hnw:¬w.heap.size=w1.heap.size:=vT));have hE:=oZ (N:=fun _=>False) (x:=.mk 0 t.n noB noB [] []) (op:=0) (n:=t.n) (s:=⟨#[]⟩) (m:=⟨#[]⟩) (a1:=none) (n1:=0) (c1:=0) (a2:=none) (n2:=0) (c2:=0) (cs:=#[.int .i64 1,.string t.text,.int .i64 t.n,.int .i64 t.pos]) (T:=201) HW.out (w:=(w1.setCell ⟨p.pb,1,none⟩ (.int .i64 ((i:Int)+1)))) ((Off.of_below (aB (aA _ _) hb1)).trans (ha0.step hl).2) (ha0.step hl).1 (by rw[fK];exact hbl) xJ (fun b hb=>hb.elim);unfold iB at hE;refine bodyPost_ret (v:=.agg #[.int .i64 0,.int .i64 t.n,.string ⟨#[]⟩,.string ⟨#[]⟩,.slice none 0 0,.slice none 0 0]) (by simp[results,Tryz.results236,go_sem,r0,r1,r2,r3,r4,r5,hbl,hnr,hnr2]) rfl ?_;exact Ran.good HR.out ⟨⟨0,t.n,⟨#[]⟩,⟨#[]⟩,none,0,0,none,0,0,rfl,hE.1⟩,hE.2.1,vT⟩ hE.2.2
theorem prim_act_z(p:Prs)(f:Nat)(hE:gW p f)(hRc:nA p f)(w:World)(i:Nat)(h:p.At w i)(hfu:p.l.length<=f+i)(k1:¬(aH p.l i).kind=1)(qt:isP p.l i dW=false)(qf:isP p.l i cY=false)(qg:isP p.l i iZ=false)(k0:(aH p.l i).kind=0)(kb:dH (aH p.l i).text≠0):Calls Tryz.prog 236 #[.pointer (some ⟨p.pb,0,none⟩)] w
  (Ran p.S w (aY p.l (bZ p.l f) i) fun x j e w'=>pV w.heap.size x e w'/\p.At w' j/\i<=j):=by
 have HE:=zh hE;have HRc:=zh hRc;have HW:=zh h;have HR:Hid (aY p.l (bZ p.l f) i=(dM p.l (i+1) cO).bnd fun _ j=>(parenP p.l (bZ p.l f) j).bnd fun e k=>.ok (.mk 16 (dH (aH p.l i).text) noB noB [] [e],k)):=zh (by unfold aY;rw[if_neg k1,if_neg (show ¬isP p.l i dW=true by rw[qt];simp),if_neg (show ¬isP p.l i cY=true by rw[qf];simp),if_neg (show ¬isP p.l i iZ=true by rw[qg];simp),if_pos ⟨k0,kb⟩];try rfl);have HA0:=zh (h.later (aA w (.cells bS 177)));have HN:=zh (fun W(hW:p.At W i)=>dA p W i hW);have hlen:=h.len;have hbd:=h.bound;have htok:=h.tok;have hlast:=h.last i _ htok;have hne:w.heap.size≠p.pb:=wU;have hpb:=h.blt;have hs0:(w.alloc (.cells bS 177)).heap.size=w.heap.size+1:=vZ;have hl:i+1<p.l.length:=hlast (by rw[k0];decide);generalize htk:aH p.l i=t at *;have HTk:=zh htk;clear h hE hRc htk;have k1':(t.kind==1)=false:=wR;have k0':(t.kind==0)=true:=yH;have kb':(dH t.text != 0)=true:=by rw[bne_iff_ne];exact kb
 go_enter Tryz.func236,Tryz.ntmps236;go_wp2_with(first|(go_at_call 131;refine(dF p (w7.alloc (.cells #[.int .i64 opa,.int .i64 na,.string sa,.string ma,.slice pa qa ra,.slice ta ua va] 177)) j7 lL (ha7.later (aA _ _))).mono ?_;rintro e w8 (⟨y8,hx8,rfl,hq8⟩|⟨⟨⟩,j8,hx8,⟨rfl,ha8⟩,hq8⟩)<;>have ho8:=(Off.of_below (aA _ _)).trans hq8<;>have hz8:=ho8.size)|(go_at_call 188;refine(HE.out 0 j6 w6 ha6 vT (by have:=(cX hx6).1;omega)).mono ?_;rintro e w7 (⟨y7,hx7,rfl,ho7⟩|⟨xa,j7,hx7,⟨⟨opa,na,sa,ma,pa,qa,ra,ta,ua,va,rfl,hea⟩,ha7,hij7⟩,ho7⟩)<;>have hz7:=ho7.size)|(go_at_call 131;refine(dF p (w5.setCell ⟨p.pb,1,none⟩ (.int .i64 ((i:Int)+1))) (i+1) cO (ha5.step hl).1).mono ?_;rintro e w6 (⟨y6,hx6,rfl,hq6⟩|⟨⟨⟩,j6,hx6,⟨rfl,ha6⟩,hq6⟩)<;>have ho6:=((ha5.step hl).2).trans hq6<;>have hz6:=ho6.size)|(go_at_call 191;refine(mG t.text w4 ha4.spc).mono ?_;rintro e w5 ⟨rfl,hb5⟩;have hz5:=hb5.size;have ho5:=Off.of_below (S:=p.S) hb5;have ha5:=ha4.later hb5;have b1:=ha5.box1;have f1:=ha5.froz)|(go_at_call 141;refine(bE p w3 i iZ ha3 qg).mono ?_;rintro e w4 ⟨rfl,ha4,ho4⟩;have hz4:=ho4.size;have hT4:=zh (ho4.heap hnt (ho3.heap hnt (ho2.heap hnt (heap_alloc_new w1 _))));obtain⟨t0,t1,t2,t3⟩:=bx4 hT4.out)|(go_at_call 141;refine(bE p w2 i cY ha2 qf).mono ?_;rintro e w3 ⟨rfl,ha3,ho3⟩;have hz3:=ho3.size)|(go_at_call 141;refine(bE p (w1.alloc (.cells #[.int .i64 0,.string t.text,.int .i64 t.n,.int .i64 t.pos] 201)) i dW ha1 qt).mono ?_;rintro e w2 ⟨rfl,ha2,ho2⟩;have hz2:=ho2.size)|(go_at_call 145;refine(HN.out _ HA0.out).mono ?_;rintro e w1 ⟨rfl,hb1⟩;have hz1:=hb1.size;have ho1:=Off.of_below (S:=p.S) (aB hb1 (aA w1 (.cells #[.int .i64 0,.string t.text,.int .i64 t.n,.int .i64 t.pos] 201)));have ha0:=HA0.out.later hb1;have ha1:=ha0.later (aA w1 (.cells #[.int .i64 0,.string t.text,.int .i64 t.n,.int .i64 t.pos] 201));have hnt:w1.heap.size≠p.pb:=vT;have hs1:(w1.alloc (.cells #[.int .i64 0,.string t.text,.int .i64 t.n,.int .i64 t.pos] 201)).heap.size=w1.heap.size+1:=vZ))
 ·exact⟨rfl,Ran.bad' (HR.out.trans (PR.bnd_bad hx6)) ((Off.of_below (aA _ _)).trans (ho1.trans (ho2.trans (ho3.trans (ho4.trans (ho5.trans ho6))))))⟩
 ·exact⟨rfl,Ran.bad' (HR.out.trans ((PR.bnd_ok hx6).trans (PR.bnd_bad (PR.bnd_bad hx7)))) ((Off.of_below (aA _ _)).trans (ho1.trans (ho2.trans (ho3.trans (ho4.trans (ho5.trans (ho6.trans ho7)))))))⟩
 ·exact⟨rfl,Ran.bad' (HR.out.trans ((PR.bnd_ok hx6).trans (PR.bnd_bad ((PR.bnd_ok hx7).trans (PR.bnd_bad hx8))))) ((Off.of_below (aA _ _)).trans (ho1.trans (ho2.trans (ho3.trans (ho4.trans (ho5.trans (ho6.trans (ho7.trans ho8))))))))⟩
 ·have n7:w7.heap.size≠p.pb:=vT;have hs7:(w7.alloc (.cells #[.int .i64 opa,.int .i64 na,.string sa,.string ma,.slice pa qa ra,.slice ta ua va] 177)).heap.size=w7.heap.size+1:=vZ;have hzq:=hq8.size;have hT8:w8.heap[w1.heap.size]? =some (.cells #[.int .i64 0,.string t.text,.int .i64 t.n,.int .i64 t.pos] 201):=ho8.heap hnt (ho7.heap hnt (ho6.heap hnt (ho5.heap hnt hT4.out)));have hB8:w8.heap[w7.heap.size]? =some (.cells #[.int .i64 opa,.int .i64 na,.string sa,.string ma,.slice pa qa ra,.slice ta ua va] 177):=hq8.heap n7 (heap_alloc_new w7 _);have HRs:=zh ((ho8.heap hne (ho7.heap hne (ho6.heap hne (ho5.heap hne (ho4.heap hne (ho3.heap hne (ho2.heap hne (ho1.heap hne (heap_alloc_new w _))))))))));have HXA:=zh (aG.off hea ho8 (fun b hb hn=>by have hb:b=p.pb:=hb;have hn:w6.heap.size<=b:=hn;omega));have HOW:=zh ((Off.of_below (aA _ _)).trans (ho1.trans (ho2.trans (ho3.trans (ho4.trans (ho5.trans (ho6.trans (ho7.trans ho8))))))));have HSp:=zh (HR.out.trans ((PR.bnd_ok hx6).trans (PR.bnd_ok ((PR.bnd_ok hx7).trans (PR.bnd_ok hx8)))));have hj6:=(cX hx6).1;have hj8:=(cX hx8).1;have HA8:=zh ha8;clear hea ho1 ho2 ho3 ho4 ho5 ho6 ho7 ho8 hq6 hq8 hx6 hx7 hx8 HR b1 f1 t0 t1 t2 t3 ha0 ha1 ha2 ha3 ha4 ha5 ha6 ha7 ha8;refine wp_region_held_drew (S:=(fun W=>W.heap[w1.heap.size]? =some (.cells #[.int .i64 0,.string t.text,.int .i64 t.n,.int .i64 t.pos] 201)/\W.heap[w7.heap.size]? =some (.cells #[.int .i64 opa,.int .i64 na,.string sa,.string ma,.slice pa qa ra,.slice ta ua va] 177))) vU ⟨hT8,hB8⟩ fun hS=>?_;refine zt 0 (.pointer (some ⟨w1.heap.size,1,none⟩)) rfl (fun W hW=>vW) hS ?_;try simp only[zn]
  refine zt 1 (.string t.text) rfl (fun W hW=>by obtain⟨t0,t1,t2,t3⟩:=bx4 hW.1;go_simp) hS ?_;try simp only[zn]
  refine zt 3 (.agg #[.int .i64 opa,.int .i64 na,.string sa,.string ma,.slice pa qa ra,.slice ta ua va]) rfl (fun W hW=>by obtain⟨⟨c0,c1,c2,c3,c4,c5⟩,-⟩:=bx6 hW.2;go_simp) hS ?_;try simp only[zn]
  refine wpAnyH_ready (rs:=[2,4]) vU vZ ?_;refine AllReadyH.cons rfl (fun K hK=>?_) (AllReadyH.cons rfl (fun K hK=>?_) AllReadyH.nil)
  ·rw[if_pos vU];go_simp;refine(mG t.text w8.drew (HA8.out.later (aF _)).spc).mono ?_;rintro e w9 ⟨rfl,hb9⟩;have hz9:w8.heap.size<=w9.heap.size:=hb9.size;have hBe:=aB (aF w8) hb9;refine hK.out _ _ ⟨aD hBe hT8,aD hBe hB8⟩ (fun hS=>?_);clear hK K;(try simp only[zn]);refine zr 4 rfl (fun K hK=>?_);go_simp;have hT9:=aD (aA w9 (.cells #[.int .i64 opa,.int .i64 na,.string sa,.string ma,.slice pa qa ra,.slice ta ua va] 177)) (aD hBe hT8);have hB9:=aD (aA w9 (.cells #[.int .i64 opa,.int .i64 na,.string sa,.string ma,.slice pa qa ra,.slice ta ua va] 177)) (aD hBe hB8);refine hK.out _ _ ⟨hT9,hB9⟩ (fun hS=>?_);clear hK K;(try simp only[zn]);have HO9:=HOW.out.trans ((Off.of_below hBe).trans (Off.of_below (aA w9 (.cells #[.int .i64 opa,.int .i64 na,.string sa,.string ma,.slice pa qa ra,.slice ta ua va] 177))))
   have hRow:aK 6 cE (bP w6.heap.size) (w9.alloc (.cells #[.int .i64 opa,.int .i64 na,.string sa,.string ma,.slice pa qa ra,.slice ta ua va] 177)) (.slice (some ⟨w9.heap.size,0,none⟩) 1 1) [xa]:=aK.of_block (css:=[[.int .i64 opa,.int .i64 na,.string sa,.string ma,.slice pa qa ra,.slice ta ua va]]) (heap_alloc_new w9 _) (by show w6.heap.size<=w9.heap.size;omega) rfl vZ (fun i y c hy hc=>by
    match i,hy,hc with
    |0,hy,hc=>cases hy;cases hc;exact aG _ _ _ _ _ _ (bX.later (aB hBe (aA w9 _))) HXA.out) rfl vV
   have hRs9:=aD (aA w9 (.cells #[.int .i64 opa,.int .i64 na,.string sa,.string ma,.slice pa qa ra,.slice ta ua va] 177)) (aD hBe HRs.out);obtain⟨⟨r0,r1,r2,r3,r4,r5⟩,g0,g1,g2,g3,g4,g5⟩:=bx6 hRs9;refine zt 5 (.agg #[.int .i64 16,.int .i64 (dH t.text),.string ⟨#[]⟩,.string ⟨#[]⟩,.slice none 0 0,.slice (some ⟨w9.heap.size,0,none⟩) 1 1]) rfl (fun W hW=>vW) hS ?_;(try simp only[zn]);refine zr 6 rfl (fun K hK=>?_);go_simp;have hE:=iA (N:=bP w6.heap.size) (x:=.mk 16 (dH t.text) noB noB [] [xa]) (op:=16) (n:=dH t.text) (s:=⟨#[]⟩) (m:=⟨#[]⟩) (a1:=none) (n1:=0) (c1:=0) (a2:=some ⟨w9.heap.size,0,none⟩) (n2:=1) (c2:=1) HW.out HO9 (HA8.out.later (aB hBe (aA w9 _))) A5 (fun b hb=>yR);have hOS:=qE (w9.alloc (.cells #[.int .i64 opa,.int .i64 na,.string sa,.string ma,.slice pa qa ra,.slice ta ua va] 177)) w.heap.size (.int .i64 16) (.int .i64 (dH t.text)) (.string ⟨#[]⟩) (.string ⟨#[]⟩) (.slice none 0 0) (.slice (some ⟨w9.heap.size,0,none⟩) 1 1);have hTz:=hOS.heap vT hT9;have hBz:=hOS.heap vT hB9;unfold iB at hE hTz hBz;refine hK.out _ _ ⟨hTz,hBz⟩ (fun hS=>?_);clear hK K;(try simp only[zn]);refine wpAnyH_done vU ?_ _;go_wp2_with fail;refine bodyPost_ret (v:=.agg #[.int .i64 16,.int .i64 (dH t.text),.string ⟨#[]⟩,.string ⟨#[]⟩,.slice none 0 0,.slice (some ⟨w9.heap.size,0,none⟩) 1 1]) wJ rfl ?_;exact Ran.good (by rw[<-HTk.out] at *;exact HSp.out) ⟨⟨16,dH t.text,⟨#[]⟩,⟨#[]⟩,none,0,0,some ⟨w9.heap.size,0,none⟩,1,1,rfl,hE.1⟩,hE.2.1,vT⟩ hE.2.2
  ·rw[if_pos vU];go_simp;have hBe0:Below w8.heap.size w8 ((w8.alloc (.cells #[.int .i64 opa,.int .i64 na,.string sa,.string ma,.slice pa qa ra,.slice ta ua va] 177)).drew):=(aA w8 (.cells #[.int .i64 opa,.int .i64 na,.string sa,.string ma,.slice pa qa ra,.slice ta ua va] 177)).drew;refine hK.out _ _ ⟨aD hBe0 hT8,aD hBe0 hB8⟩ (fun hS=>?_);clear hK K;(try simp only[zn]);refine zr 2 rfl (fun K hK=>?_);go_simp;refine(mG t.text ((w8.alloc (.cells #[.int .i64 opa,.int .i64 na,.string sa,.string ma,.slice pa qa ra,.slice ta ua va] 177)).drew) (HA8.out.later hBe0).spc).mono ?_;rintro e w9 ⟨rfl,hb9⟩;have hBe:=aB hBe0 hb9;have hz9:=hBe.size;have hT9:=aD hBe hT8;have hB9:=aD hBe hB8;refine hK.out _ _ ⟨hT9,hB9⟩ (fun hS=>?_);clear hK K;(try simp only[zn]);have HO9:=HOW.out.trans (Off.of_below hBe);have hb8:w9.heap[w8.heap.size]? =some (.cells #[.int .i64 opa,.int .i64 na,.string sa,.string ma,.slice pa qa ra,.slice ta ua va] 177):=aD hb9 (aD (aF _) (heap_alloc_new w8 _))
   have hRow:aK 6 cE (bP w6.heap.size) w9 (.slice (some ⟨w8.heap.size,0,none⟩) 1 1) [xa]:=aK.of_block (css:=[[.int .i64 opa,.int .i64 na,.string sa,.string ma,.slice pa qa ra,.slice ta ua va]]) hb8 (by show w6.heap.size<=w8.heap.size;omega) rfl vZ (fun i y c hy hc=>by
    match i,hy,hc with
    |0,hy,hc=>cases hy;cases hc;exact aG _ _ _ _ _ _ (bX.later hBe) HXA.out) rfl vV
   have hRs9:=aD hBe HRs.out;obtain⟨⟨r0,r1,r2,r3,r4,r5⟩,g0,g1,g2,g3,g4,g5⟩:=bx6 hRs9;refine zt 5 (.agg #[.int .i64 16,.int .i64 (dH t.text),.string ⟨#[]⟩,.string ⟨#[]⟩,.slice none 0 0,.slice (some ⟨w8.heap.size,0,none⟩) 1 1]) rfl (fun W hW=>vW) hS ?_;(try simp only[zn]);refine zr 6 rfl (fun K hK=>?_);go_simp;have hE:=iA (N:=bP w6.heap.size) (x:=.mk 16 (dH t.text) noB noB [] [xa]) (op:=16) (n:=dH t.text) (s:=⟨#[]⟩) (m:=⟨#[]⟩) (a1:=none) (n1:=0) (c1:=0) (a2:=some ⟨w8.heap.size,0,none⟩) (n2:=1) (c2:=1) HW.out HO9 (HA8.out.later hBe) A5 (fun b hb=>yR);have hOS:=qE w9 w.heap.size (.int .i64 16) (.int .i64 (dH t.text)) (.string ⟨#[]⟩) (.string ⟨#[]⟩) (.slice none 0 0) (.slice (some ⟨w8.heap.size,0,none⟩) 1 1);have hTz:=hOS.heap vT hT9;have hBz:=hOS.heap vT hB9;unfold iB at hE hTz hBz;refine hK.out _ _ ⟨hTz,hBz⟩ (fun hS=>?_);clear hK K;(try simp only[zn]);refine wpAnyH_done vU ?_ _;go_wp2_with fail;refine bodyPost_ret (v:=.agg #[.int .i64 16,.int .i64 (dH t.text),.string ⟨#[]⟩,.string ⟨#[]⟩,.slice none 0 0,.slice (some ⟨w8.heap.size,0,none⟩) 1 1]) wJ rfl ?_;exact Ran.good (by rw[<-HTk.out] at *;exact HSp.out) ⟨⟨16,dH t.text,⟨#[]⟩,⟨#[]⟩,none,0,0,some ⟨w8.heap.size,0,none⟩,1,1,rfl,hE.1⟩,hE.2.1,vT⟩ hE.2.2
theorem primary_ok(p:Prs)(f:Nat)(hE:gW p f)(hRc:nA p f):PrimOk p f:=fun i w h hfu=>by
 by_cases k1:(aH p.l i).kind=1
 ·exact prim_num p f hE hRc w i h hfu k1
 ·cases qt:isP p.l i dW with
  |true=>exact prim_true p f hE hRc w i h hfu k1 qt
  |false=>
   cases qf:isP p.l i cY with
   |true=>exact prim_false p f hE hRc w i h hfu k1 qt qf
   |false=>
    cases qg:isP p.l i iZ with
    |true=>exact prim_get p f hE hRc w i h hfu k1 qt qf qg
    |false=>
     by_cases k0:(aH p.l i).kind=0
     ·by_cases kb:dH (aH p.l i).text=0
      ·cases qb:isP p.l i cJ with
       |true=>exact prim_record_z p f hE hRc w i h hfu k1 qt qf qg k0 kb qb
       |false=>
        cases qo:isP p.l i cO with
        |true=>exact prim_paren_z p f hE hRc w i h hfu k1 qt qf qg qb k0 kb qo
        |false=>
         cases qc:isP p.l (i+1) cO with
         |true=>exact prim_call_z p f hE hRc w i h hfu k1 qt qf qg qb qo k0 kb qc
         |false=>
          cases qd:gV p.l (i+1) with
          |true=>exact prim_method_z p f hE hRc w i h hfu k1 qt qf qg qb qo k0 kb qc qd
          |false=>exact prim_var_z p f hE hRc w i h hfu k1 qt qf qg qb qo k0 kb qc qd
      ·exact prim_act_z p f hE hRc w i h hfu k1 qt qf qg k0 kb
     ·cases qb:isP p.l i cJ with
      |true=>exact prim_record_n p f hE hRc w i h hfu k1 qt qf qg k0 qb
      |false=>
       cases qo:isP p.l i cO with
       |true=>exact prim_paren_n p f hE hRc w i h hfu k1 qt qf qg qb k0 qo
       |false=>
        cases qc:isP p.l (i+1) cO with
        |true=>exact prim_call_n p f hE hRc w i h hfu k1 qt qf qg qb qo k0 qc
        |false=>
         cases qd:gV p.l (i+1) with
         |true=>exact prim_method_n p f hE hRc w i h hfu k1 qt qf qg qb qo k0 qc qd
         |false=>exact prim_var_n p f hE hRc w i h hfu k1 qt qf qg qb qo k0 qc qd
def encXo(o:Option Nat)(N:Nat->Prop)(w:World)(x:Xp)(cs:List Value):Prop:=cE (fun b=>N b/\o≠some b) w x cs
theorem encXo_ok(o:Option Nat):eU (encXo o):=fun _ _ _ _ _ _ hm h=>aG _ _ _ _ _ _ (fun b hb hl=>⟨⟨(hm b hb.1 hl).1,hb.2⟩,(hm b hb.1 hl).2⟩) h
theorem Gro.change{α:Type}{k:Nat}{T:TypeId}{enc enc':(Nat->Prop)->World->α->List Value->Prop}{B:Nat}{l:List α}{css:List (List Value)}{v:Value}{w w':World}(h:Gro k T enc B l css v w)
  (hs:w.heap.size<=w'.heap.size) (ho:∀b,v.ownBlock=some b->w'.heap[b]? =w.heap[b]?) (he:∀x c,enc (mK B v) w x c->enc' (mK B v) w' x c):Gro k T enc' B l css v w':=by
 refine⟨?_,h.len,h.ks,fun i x c hx hc=>he x c (h.enc i x c hx hc),Nat.le_trans h.big hs⟩;obtain⟨h1,h2⟩:=h.own;refine⟨h1,?_⟩;rcases h2 with h2|⟨g,cap,cur,hv,hg,hgg,r⟩
 ·exact .inl h2
 ·exact .inr ⟨g,cap,cur,hv,hg,(ho g (by rw[hv];rfl)).trans hgg,r⟩
structure RecL (p:Prs) (W:World) (b3 B:Nat) (names:List ByteArray) (cn:List (List Value)) (args:List Xp) (ca:List (List Value)) (vn va:Value) (wr:World):Prop where
 off:Off p.S W wr
 res:wr.heap[W.heap.size]? =some (.cells bS 177)
 loc:wr.heap[b3]? =some (.cells #[.int .i64 13,.int .i64 0,.string ⟨#[]⟩,.string ⟨#[]⟩,vn,va] 177)
 nam:Gro 1 9 bM B names cn vn wr
 arg:Gro 6 177 (encXo vn.ownBlock) B args ca va wr
 b3:W.heap.size<b3/\b3<B
 pb:p.pb<W.heap.size
 disj:∀b,vn.ownBlock=some b->va.ownBlock≠some b
section
variable {p:Prs} {W wr w':World} {b3 B:Nat} {names:List ByteArray} {cn ca:List (List Value)} {args:List Xp} {vn va:Value}
theorem RecL.next(h:RecL p W b3 B names cn args ca vn va wr)(ho:Off p.S wr w'):RecL p W b3 B names cn args ca vn va w':=by
 have hpb:=h.pb;have hb:=h.b3;have hs:dK B wr w':=dK.of_off ho fun b hb2=>.inl (by have hb2:b=p.pb:=hb2;omega);exact⟨h.off.trans ho,ho.heap (fun e=>by have e:W.heap.size=p.pb:=e;omega) h.res,ho.heap (fun e=>by have e:b3=p.pb:=e;omega) h.loc,h.nam.stays aV hs,h.arg.stays (encXo_ok _) hs,hb,hpb,h.disj⟩
theorem RecL.addName{w8 w10:World}{g cap n1:Nat}{s:ByteArray}(h:RecL p W b3 B names cn args ca vn va w8)(hs:s.size<=8000)
  (hown:w10.ownsRow B 9 1 (.slice (some ⟨g,0,none⟩) n1 cap) n1 (cn.flatten++[.string s])) (hn:n1=names.length+1) (hgrow:(w8.alloc (.cells #[.string s] 9)).grownBy w10 vn.ownBlock) (hat:vn.ownBlock=some g\/g=w8.heap.size+1):
  w10.heap[b3]? =some (.cells #[.int .i64 13,.int .i64 0,.string ⟨#[]⟩,.string ⟨#[]⟩,vn,va] 177)/\
  RecL p W b3 B (names++[s]) (cn++[[.string s]]) args ca (.slice (some ⟨g,0,none⟩) n1 cap) va (w10.setCell ⟨b3,4,none⟩ (.slice (some ⟨g,0,none⟩) n1 cap))/\
  Off (fun b=>W.heap.size<=b) w8 (w10.setCell ⟨b3,4,none⟩ (.slice (some ⟨g,0,none⟩) n1 cap)):=by
 subst hn;have hb:=h.b3;have hpb:=h.pb;have h9:=h.next (Off.of_below (aA w8 (.cells #[.string s] 9)));have hlt:=h9.nam.lt;have hlta:=h9.arg.lt;have hz9:(w8.alloc (.cells #[.string s] 9)).heap.size=w8.heap.size+1:=vZ;have hbig9:=h9.nam.big;have o10:Off (fun b=>vn.ownBlock=some b) (w8.alloc (.cells #[.string s] 9)) w10:=⟨hgrow.os,hgrow.tape,hgrow.output,hgrow.size,fun b hb hn=>hgrow.block b hb (fun e=>hn e.symm)⟩;have o11:Off (fun b=>b=b3) w10 (w10.setCell ⟨b3,4,none⟩ (.slice (some ⟨g,0,none⟩) (names.length+1) cap)):=Off.setCell (S:=fun b=>b=b3) w10 rfl;have nb3:¬vn.ownBlock=some b3:=fun e=>by have:=(hlt b3 e).1;omega
 have hloc:w10.heap[b3]? =_:=o10.heap nb3 h9.loc;have oa:Off (fun b=>vn.ownBlock=some b\/b=b3) (w8.alloc (.cells #[.string s] 9)) (w10.setCell ⟨b3,4,none⟩ (.slice (some ⟨g,0,none⟩) (names.length+1) cap)):=(o10.mono fun b h=>.inl h).trans (o11.mono fun b h=>.inr h)
 have obig:Off (fun b=>W.heap.size<=b) (w8.alloc (.cells #[.string s] 9)) (w10.setCell ⟨b3,4,none⟩ (.slice (some ⟨g,0,none⟩) (names.length+1) cap)):=oa.mono fun b h=>by
  rcases h with h|h
  ·have:=(hlt b h).1;omega
  ·omega
 have hg:∀b,b<w8.heap.size+1->vn.ownBlock≠some b->b≠g:=fun b hb hn e=>by
  subst e;rcases hat with h1|h1
  ·exact hn h1
  ·omega
 have hA:=h9.nam.added aV (x:=s) ⟨rfl,vT⟩ rfl hown hgrow AM;refine⟨hloc,⟨?_,?_,?_,hA.stays aV (dK.of_off o11 fun b hb2=>.inl vT),?_,hb,hpb,fun b hb2 e=>?_⟩,(Off.of_below (aA _ _)).trans obig⟩
 ·exact Off.fresh ((h9.off.or _).trans (obig.mono fun b h=>.inr h)) (Nat.le_refl _)
 ·exact oa.heap (fun h=>h.elim (fun h=>by have:=(hlt _ h).1;omega) (fun h=>vT)) h9.res
 ·rw[aU hloc];rfl
 ·refine h9.arg.change (by have:=hgrow.size;rw[fK];exact this) (fun b hb2=>oa.block b (hlta b hb2).2 (fun h=>?_)) (fun x c hx=>?_)
  ·rcases h with h|h
   ·exact h9.disj b h hb2
   ·have:=(hlta b hb2).1;omega
  ·refine aG _ _ _ _ _ _ (fun b hb2 hl=>⟨⟨hb2.1,fun e=>?_⟩,fun o u hu=>oa.cell (fun h=>?_) hu⟩) hx
   ·have e:g=b:=zP;exact hg b (by rw[<-hz9];exact hl) hb2.2 e.symm
   ·rcases h with h|h
    ·exact hb2.2 h
    ·have:=hb2.1.1;omega
 ·have hb2:g=b:=by simpa[Value.ownBlock] using hb2
  subst hb2;rcases hat with h1|h1
  ·exact h9.disj g h1 e
  ·have:=(hlta g e).2;have:=(h.arg.lt g e).2;omega
theorem RecL.addArg{w11 w12 w13:World}{g cap n1:Nat}{x:Xp}{cs:List Value}(h:RecL p W b3 B names cn args ca vn va w11)(ho:Off p.S w11 w12)(hx:cE (bP w11.heap.size) w12 x cs)(hl:cs.length=6)
  (hown:w13.ownsRow B 177 6 (.slice (some ⟨g,0,none⟩) n1 cap) n1 (ca.flatten++cs)) (hn:n1=args.length+1) (hgrow:(w12.alloc (.cells cs.toArray 177)).grownBy w13 va.ownBlock) (hat:va.ownBlock=some g\/g=w12.heap.size+1):
  w13.heap[b3]? =some (.cells #[.int .i64 13,.int .i64 0,.string ⟨#[]⟩,.string ⟨#[]⟩,vn,va] 177)/\
  RecL p W b3 B names cn (args++[x]) (ca++[cs]) vn (.slice (some ⟨g,0,none⟩) n1 cap) (w13.setCell ⟨b3,5,none⟩ (.slice (some ⟨g,0,none⟩) n1 cap))/\
  Off (fun b=>W.heap.size<=b) w12 (w13.setCell ⟨b3,5,none⟩ (.slice (some ⟨g,0,none⟩) n1 cap)):=by
 subst hn;have hb:=h.b3;have hpb:=h.pb;have h12:=h.next ho;have h9:=h12.next (Off.of_below (aA w12 (.cells cs.toArray 177)));have hlt:=h9.arg.lt;have hltn:=h9.nam.lt;have hlt11:=h.arg.lt;have hltn11:=h.nam.lt;have hz9:(w12.alloc (.cells cs.toArray 177)).heap.size=w12.heap.size+1:=vZ;have hz12:=ho.size;have hbig11:=h.nam.big;have o10:Off (fun b=>va.ownBlock=some b) (w12.alloc (.cells cs.toArray 177)) w13:=⟨hgrow.os,hgrow.tape,hgrow.output,hgrow.size,fun b hb hn=>hgrow.block b hb (fun e=>hn e.symm)⟩;have o11:Off (fun b=>b=b3) w13 (w13.setCell ⟨b3,5,none⟩ (.slice (some ⟨g,0,none⟩) (args.length+1) cap)):=Off.setCell (S:=fun b=>b=b3) w13 rfl;have nb3:¬va.ownBlock=some b3:=fun e=>by have:=(hlt b3 e).1;omega
 have hloc:w13.heap[b3]? =_:=o10.heap nb3 h9.loc;have oa:Off (fun b=>va.ownBlock=some b\/b=b3) (w12.alloc (.cells cs.toArray 177)) (w13.setCell ⟨b3,5,none⟩ (.slice (some ⟨g,0,none⟩) (args.length+1) cap)):=(o10.mono fun b h=>.inl h).trans (o11.mono fun b h=>.inr h)
 have obig:Off (fun b=>W.heap.size<=b) (w12.alloc (.cells cs.toArray 177)) (w13.setCell ⟨b3,5,none⟩ (.slice (some ⟨g,0,none⟩) (args.length+1) cap)):=oa.mono fun b h=>by
  rcases h with h|h
  ·have:=(hlt b h).1;omega
  ·omega
 have hxo:encXo vn.ownBlock (mK B va) (w12.alloc (.cells cs.toArray 177)) x cs:=aG _ _ _ _ _ _ (fun b hb2 hl=>⟨⟨⟨by have hb2:w11.heap.size<=b:=hb2;omega,fun e=>by have hb2:w11.heap.size<=b:=hb2;have:=(hlt11 b e).2;omega⟩,fun e=>by have hb2:w11.heap.size<=b:=hb2;have:=(hltn11 b e).2;omega⟩,fun o u hu=>aC (aA _ _) hu⟩) hx;have hA:=h9.arg.added (encXo_ok _) hxo hl hown hgrow AM;refine⟨hloc,⟨?_,?_,?_,?_,hA.stays (encXo_ok _) (dK.of_off o11 fun b hb2=>.inl vT),hb,hpb,fun b hb2 e=>?_⟩,(Off.of_below (aA _ _)).trans obig⟩
 ·exact Off.fresh ((h9.off.or _).trans (obig.mono fun b h=>.inr h)) (Nat.le_refl _)
 ·exact oa.heap (fun h=>h.elim (fun h=>by have:=(hlt _ h).1;omega) (fun h=>vT)) h9.res
 ·rw[aU hloc];rfl
 ·refine h9.nam.change (by have:=hgrow.size;rw[fK];exact this) (fun b hb2=>oa.block b (hltn b hb2).2 (fun h=>?_)) (fun x c hx=>hx);rcases h with h|h
  ·exact h9.disj b hb2 h
  ·have:=(hltn b hb2).1;omega
 ·have e:g=b:=zP;subst e;rcases hat with h1|h1
  ·exact h9.disj g hb2 h1
  ·have:=(hltn11 g hb2).2;omega
theorem RecL.exp(h:RecL p W b3 B names cn args ca vn va wr):cE (bP B) wr (.mk 13 0 noB noB names args) [.int .i64 13,.int .i64 0,.string ⟨#[]⟩,.string ⟨#[]⟩,vn,va]:=by
 rw[bF];refine⟨vn,va,rfl,vV,vV,h.nam.row aV,?_⟩;obtain⟨a,c,h1,h2,h3,h4⟩:=h.arg.row (encXo_ok _);refine⟨a,c,h1,h2,h3,fun hne=>?_⟩;obtain⟨b,o,hb1,hb2,hb3⟩:=h4 hne;refine⟨b,o,hb1,hb2,fun i x hx=>?_⟩;obtain⟨cs,e1,e2,e3⟩:=hb3 i x hx;exact⟨cs,aG.wide e1 (fun b hb _=>hb.1),e2,e3⟩
end
end Go.Proofs.YtacgopankhpnbaaGreatDoor
namespace Go.Proofs.YtacgopankhpnbaaGreatDoor
set_option maxHeartbeats 12000000
set_option maxRecDepth 100000
open Go.RowKit
theorem qX{p:Prop}(h:p:=by
 refine hK.out _ _ trivial (fun hS=>?_);clear hK K;try simp only[zn]
 have hLd:=HL11.out.next (Off.of_below (aF w11));have hL13:=HL12.out.next (Off.of_below (aA w12 (.cells #[.int .i64 opc,.int .i64 nc,.string sc,.string mc,.slice pc qc rc,.slice tc uc vc] 177)));have hbig13:=hL13.arg.big;refine wpAnyH_ready (rs:=[5]) vU vZ ?_;refine AllReadyH.cons rfl (fun K hK=>?_) AllReadyH.nil;refine step_append_lies (w12.alloc (.cells #[.int .i64 opc,.int .i64 nc,.string sc,.string mc,.slice pc qc rc,.slice tc uc vc] 177)) rfl _ _ 127 rfl B 177 i0 (.agg #[.int .i64 0,.int .i64 0,.string ByteArray.empty,.string ByteArray.empty,.slice none 0 0,.slice none 0 0]) 6 96 Tryz.underlying127 hi0 hz0 hz1 hz2 rfl vT (.slice a2 args.length c2) args.length ca.flatten xK hL13.arg.own ⟨w12.heap.size,0,none⟩ 1 1 [.int .i64 opc,.int .i64 nc,.string sc,.string mc,.slice pc qc rc,.slice tc uc vc] xK rfl (World.news_of_block (cs:=#[.int .i64 opc,.int .i64 nc,.string sc,.string mc,.slice pc qc rc,.slice tc uc vc]) (t:=177) (fr:=(0,0)) (heap_alloc_new w12 _)) wN vT wK vT hbig13 (w12.heap.size+1) vZ ?_;intro g' cap' w13 hown hgrow hat _;obtain⟨h13,hL14,oB⟩:=hLd.addArg ho12 hec rfl hown rfl hgrow hat;have HA14:=zh (HW.out.above ha12 oB);have HL14:=zh hL14;have HSp12:=zh (HSp8.out.trans (PR.bnd_ok hx12));clear hown hgrow hat hL14 oB hL13 hbig13 hLd ha12 ho12 hec hx12 HL12;refine hK.out _ _ trivial (fun hS=>?_);clear hK K;try simp only[zn]
 refine zt 6 (.pointer (some ⟨w.heap.size+1,5,none⟩)) rfl (fun W hW=>vW) hS ?_;try simp only[zn]
 refine zr 7 rfl (fun K hK=>?_);try simp only[z1,z2,z3]
 obtain⟨⟨c0,c1,c2,c3,c4,c5⟩,h0,h1,h2,h3,h4,h5⟩:=bx6 h13;go_simp;clear c0 c1 c2 c3 c4 c5 h0 h1 h2 h3 h4 h5 h13;refine hK.out _ _ trivial (fun hS=>?_);clear hK K;try simp only[zn]
 refine wpAnyH_done vU ?_ _;clear hS HL11 HA11 HE;generalize w13.setCell ⟨w.heap.size+1,5,none⟩ (.slice (some ⟨g',0,none⟩) (args.length+1) cap')=w14 at *;have hjl:=HA14.out.lt;go_wp2_with(first|(go_at_call 131;refine(dF p w15 j12 iK (by have h:=ha15;rw[if_neg AK] at h;exact h)).mono ?_;rintro e w16 (⟨x16,hx16,rfl,ho16⟩|⟨⟨⟩,k16,hx16,⟨rfl,ha16⟩,ho16⟩)<;>have HL16:=zh (HL14.out.next (ho15.trans ho16))<;>obtain⟨⟨c0,c1,c2,c3,c4,c5⟩,h0,h1,h2,h3,h4,h5⟩:=bx6 HL16.out.loc<;>obtain⟨⟨r0,r1,r2,r3,r4,r5⟩,g0,g1,g2,g3,g4,g5⟩:=bx6 HL16.out.res)|(go_at_call 141;refine(nP p w14 j12 bW HA14.out).mono ?_;rintro e w15 ⟨rfl,ha15,ho15⟩))
 ·have hc2:¬isP p.l j12 bW=true:=AK;exact⟨rfl,Ran.bad' (HSp12.out.trans ((if_neg hc2).trans (PR.bnd_bad hx16))) HL16.out.off⟩
 ·have hc2:¬isP p.l j12 bW=true:=AK;have hk16:=(cX hx16).1;have hE:=iA HW.out HL16.out.off ha16 HL16.out.exp (fun b hb=>AP);unfold iB at hE;refine bodyPost_ret (v:=.agg #[.int .i64 13,.int .i64 0,.string ⟨#[]⟩,.string ⟨#[]⟩,.slice (some ⟨g,0,none⟩) (names.length+1) cap,.slice (some ⟨g',0,none⟩) (args.length+1) cap']) (by simp[results,Tryz.results242,go_sem,r0,r1,r2,r3,r4,r5]) rfl ?_;exact Ran.good (HSp12.out.trans ((if_neg hc2).trans (PR.bnd_ok hx16))) ⟨⟨13,0,⟨#[]⟩,⟨#[]⟩,_,_,_,_,_,_,rfl,hE.1⟩,hE.2.1,vT⟩ hE.2.2
 ·have hc2:isP p.l j12 bW=true:=by simpa using ‹(!isP p.l j12 bW)=false›
  rw[if_pos hc2] at ha15;have hj1:=ha15.lt;have HL15:=zh (HL14.out.next ho15);have HA15:=zh ha15;have HSp3:=zh (HSp12.out.trans (if_pos hc2));obtain⟨F',hF'⟩:∃F',F=F'+1:=⟨F-1,vT⟩;clear ha15 ho15 hc2;go_roundw
  case rel=>
   subst hF';exact⟨j12+1,F',s,names++[s],_,_,args++[xc],some ⟨g,0,none⟩,cap,some ⟨g',0,none⟩,cap',rfl,by simpa using HL15,HA15,HSp3,zh ⟨vT,vT,wQ,by have:=HB.out.2.2.2;simp;omega⟩⟩
  case measure=>
   rw[HA15.out.pos,HA.out.pos];omega):p:=h
theorem vA{p:Prop}(h:p:=by
 go_wp2_with fail
 exact⟨rfl,Ran.bad' (HSp8.out.trans (PR.bnd_bad hx12)) (HL11.out.off.trans ((Off.of_below (aF w11)).trans ho12))⟩):p:=h
theorem strInfo1:(Tryz.prog.info? 9).map (fun i=>(i.zero,i.size,i.bytes))=some (some (.string ByteArray.empty),1,16):=vU
section
variable {l:List Tok} {rec:RecP} {F q:Nat} {names:List ByteArray} {args:List Xp} {last:ByteArray}
theorem recFrom_step(hq:dJ l q=true)(hr:iI l q names.length 8=.ok ((),q)):dY l rec (F+1) names args last q=
  (gN l q last (decide (0<names.length))).bnd fun s j=>(dM l j kEq).bnd fun _ j2=>(rec 0 j2).bnd fun e j3=>
   if isP l j3 bW then dY l rec F (names++[s]) (args++[e]) s (j3+1) else(dM l j3 iK).bnd fun _ k=>.ok (.mk 13 0 noB noB (names++[s]) (args++[e]),k):=by
 rw[dY,if_pos hq,hr];rfl
theorem recFrom_full(hq:dJ l q=true){x:Int×Int}(hr:iI l q names.length 8=.error x):dY l rec (F+1) names args last q=.error x:=by
 rw[dY,if_pos hq,hr];rfl
theorem recFrom_noname(hq:dJ l q=false):dY l rec (F+1) names args last q=.error ((aH l q).pos,11):=by
 rw[dY,if_neg zY];unfold gN;rw[hq];rfl
end
theorem record_any(p:Prs)(f:Nat)(hE:gW p f):nA p f:=fun i w h hfu=>by
 obtain⟨i0,hi0,hz0,hz1,hz2⟩:=info_parts xpInfo;obtain⟨i1,hi1,hy0,hy1,hy2⟩:=info_parts strInfo1;have HE:=zh hE;have HW:=zh h;have hlen:=h.len;have hpb:=h.blt;have hne:w.heap.size≠p.pb:=vT;have hne1:w.heap.size+1≠p.pb:=vT;have hs0:(w.alloc (.cells bS 177)).heap.size=w.heap.size+1:=vZ;have hs1:((w.alloc (.cells bS 177)).alloc (.cells #[.int .i64 13,.int .i64 0,.string ⟨#[]⟩,.string ⟨#[]⟩,.slice none 0 0,.slice none 0 0] 177)).heap.size=w.heap.size+2:=vZ;have BA:Below w.heap.size w ((w.alloc (.cells bS 177)).alloc (.cells #[.int .i64 13,.int .i64 0,.string ⟨#[]⟩,.string ⟨#[]⟩,.slice none 0 0,.slice none 0 0] 177)):=aB (aA _ _) (aA _ _);have HBA:=zh BA;have HAa:=zh (h.later BA);have HRa:=zh (aD (aA (w.alloc (.cells bS 177)) (.cells #[.int .i64 13,.int .i64 0,.string ⟨#[]⟩,.string ⟨#[]⟩,.slice none 0 0,.slice none 0 0] 177)) (heap_alloc_new w (.cells bS 177)));have hLa:=heap_alloc_new (w.alloc (.cells bS 177)) (.cells #[.int .i64 13,.int .i64 0,.string ⟨#[]⟩,.string ⟨#[]⟩,.slice none 0 0,.slice none 0 0] 177);rw[hs0] at hLa;have HLa:=zh hLa;clear h hE BA hLa
 cases hq0:isP p.l i iK with
 |true=>
  have HH:=zh (fR p ((w.alloc (.cells bS 177)).alloc (.cells #[.int .i64 13,.int .i64 0,.string ⟨#[]⟩,.string ⟨#[]⟩,.slice none 0 0,.slice none 0 0] 177)) i iK HAa.out hq0);have HR:Hid (lX p.l (bZ p.l f) i=.ok (.mk 13 0 noB noB [] [],i+1)):=zh (by unfold lX;rw[if_pos hq0]);clear hq0;go_enter Tryz.func242,Tryz.ntmps242;go_wp2_with(go_at_call 141;refine HH.out.mono ?_;rintro e w2 ⟨rfl,ha2,ho2⟩;have hR2:=ho2.heap hne HRa.out;have hL2:=ho2.heap hne1 HLa.out;obtain⟨⟨r0,r1,r2,r3,r4,r5⟩,g0,g1,g2,g3,g4,g5⟩:=bx6 hR2;obtain⟨⟨c0,c1,c2,c3,c4,c5⟩,h0,h1,h2,h3,h4,h5⟩:=bx6 hL2);have hE:=iA (N:=fun _=>False) (x:=.mk 13 0 noB noB [] []) (op:=13) (n:=0) (s:=⟨#[]⟩) (m:=⟨#[]⟩) (a1:=none) (n1:=0) (c1:=0) (a2:=none) (n2:=0) (c2:=0) HW.out ((Off.of_below HBA.out).trans ho2) ha2 xJ (fun b hb=>hb.elim);unfold iB at hE;refine bodyPost_ret (v:=.agg #[.int .i64 13,.int .i64 0,.string ⟨#[]⟩,.string ⟨#[]⟩,.slice none 0 0,.slice none 0 0]) (by simp[results,Tryz.results242,go_sem,r0,r1,r2,r3,r4,r5]) rfl ?_;exact Ran.good HR.out ⟨⟨13,0,⟨#[]⟩,⟨#[]⟩,none,0,0,none,0,0,rfl,hE.1⟩,hE.2.1,vT⟩ hE.2.2
 |false=>
  have HH:=zh (bE p ((w.alloc (.cells bS 177)).alloc (.cells #[.int .i64 13,.int .i64 0,.string ⟨#[]⟩,.string ⟨#[]⟩,.slice none 0 0,.slice none 0 0] 177)) i iK HAa.out hq0);have HR:Hid (lX p.l (bZ p.l f) i=dY p.l (bZ p.l f) (p.l.length+1) [] [] noB i):=zh (by unfold lX;rw[if_neg (by rw[hq0];simp)]);clear hq0;go_enter Tryz.func242,Tryz.ntmps242;go_wp2_with(go_at_call 141;refine HH.out.mono ?_;rintro e w2 ⟨rfl,ha2,ho2⟩);have hz2':=ho2.size;have HLs:Hid (RecL p w (w.heap.size+1) w2.heap.size [] [] [] [] (.slice none 0 0) (.slice none 0 0) w2):=zh ⟨(Off.of_below HBA.out).trans ho2,ho2.heap hne HRa.out,ho2.heap hne1 HLa.out,Gro.first _ _ _ _,Gro.first _ _ _ _,⟨vT,vT⟩,hpb,fun b hb=>by cases hb⟩;have HA2:=zh ha2;have hb3B:w.heap.size+1<w2.heap.size:=vT;clear ha2 ho2 HH HRa HLa HAa HBA hs1 hz2';generalize w2.heap.size=B at *;go_loopw [4] (fun sl wr=>∃(q F:Nat)(last:ByteArray)(names:List ByteArray)(cn ca:List (List Value))(args:List Xp)(a1:Option Addr)(c1:Nat)(a2:Option Addr)(c2:Nat),sl=.string last/\Hid (RecL p w (w.heap.size+1) B names cn args ca (.slice a1 names.length c1) (.slice a2 args.length c2) wr)/\Hid (p.At wr q)/\Hid (lX p.l (bZ p.l f) i=dY p.l (bZ p.l f) (F+1) names args last q)/\Hid (p.l.length<=F+q/\i<=q/\names.length<=8/\args.length=names.length)) (fun _ wr=>p.l.length-posOf wr p.pb)
  case atStart=>exact⟨i,p.l.length,_,[],[],[],[],none,0,none,0,rfl,HLs,HA2,HR,zh ⟨vT,Nat.le_refl _,vV,rfl⟩⟩
  case round=>
   obtain⟨q,F,last,names,cn,ca,args,a1,c1,a2,c2,rfl,HL,HA,HSp,HB⟩:=hrel;(rename World=>wr);have hq1:=HB.out.1;have hq2:=HB.out.2.1;have hq3:=HB.out.2.2.1;(have hq5:args.length<=8:=by have:=HB.out.2.2.2;omega);have hql:=HA.out.lt
   cases hqn:dJ p.l q with
   |false=>
    ·skip;go_wp2_with(first|(go_at_call 186;refine(nV p w5 q last _ HA5.out).mono ?_;rintro e w6 (⟨x,hx,rfl,ho6⟩|⟨s,j6,hx,⟨rfl,ha6,hs6⟩,ho6⟩))|(go_at_call 185;refine(iP p wr q HA.out).mono ?_;rintro e w5 ⟨rfl,hb5⟩;rw[hqn];have HA5:=zh (HA.out.later hb5);have HL5:=zh (HL.out.next (Off.of_below hb5));obtain⟨⟨c0,c1',c2',c3,c4,c5⟩,h0,h1,h2,h3,h4,h5⟩:=bx6 HL5.out.loc))
     ·exact⟨rfl,Ran.bad' (by have e:=(jK hqn).symm.trans hx;cases e;exact HSp.out.trans (recFrom_noname hqn)) (HL5.out.off.trans ho6)⟩
     ·rw[jK hqn] at hx;cases hx
   |true=>
    ·skip;go_wp2_with(first|(go_at_call 131;have hj7:=laterP_ok hx7;refine(dF p w7 j7 kEq ha7).mono ?_;rintro e w8 (⟨x8,hx8,rfl,ho8⟩|⟨⟨⟩,j8,hx8,⟨rfl,ha8⟩,ho8⟩)<;>have HL8:=zh (HL7.out.next ho8)<;>obtain⟨⟨k0,k1,k2,k3,k4,k5⟩,-⟩:=bx6 HL8.out.loc)|(go_at_call 186;have hj6:=qG hx6;subst hj6;refine(nV p w6 j6 last _ ha6).mono ?_;rintro e w7 (⟨x7,hx7,rfl,ho7⟩|⟨s,j7,hx7,⟨rfl,ha7,hs7⟩,ho7⟩)<;>have HL7:=zh (HL6.out.next ho7))|(go_at_call 134;refine(qF p w5 q names.length 8 HA5.out).mono ?_;rintro e w6 (⟨x6,hx6,rfl,ho6⟩|⟨⟨⟩,j6,hx6,⟨rfl,ha6⟩,ho6⟩)<;>have HL6:=zh (HL5.out.next ho6)<;>obtain⟨⟨e0,e1,e2,e3,e4,e5⟩,-⟩:=bx6 HL6.out.loc)|(go_at_call 185;refine(iP p wr q HA.out).mono ?_;rintro e w5 ⟨rfl,hb5⟩;rw[hqn];have HA5:=zh (HA.out.later hb5);have HL5:=zh (HL.out.next (Off.of_below hb5));obtain⟨⟨d0,d1,d2,d3,d4,d5⟩,-⟩:=bx6 HL5.out.loc)|(at_builtin;have hL9:=HL8.out.next (Off.of_below (aA w8 (.cells #[.string s] 9)));have hbig9:=hL9.nam.big;refine wpList_append_lies _ rfl _ _ 22 rfl B 9 i1 (.string ByteArray.empty) 1 16 Tryz.underlying22 hi1 hy0 hy1 hy2 rfl vT (.slice a1 names.length c1) names.length cn.flatten xK hL9.nam.own ⟨w8.heap.size,0,none⟩ 1 1 [.string s] xK rfl (World.news_of_block (cs:=#[.string s]) (t:=9) (fr:=(0,0)) (heap_alloc_new w8 _)) wN vT wK vT hbig9 (w8.heap.size+1) vZ ?_))
     ·exact⟨rfl,Ran.bad' (HSp.out.trans (recFrom_full hqn hx6)) HL6.out.off⟩
     ·exact⟨rfl,Ran.bad' (HSp.out.trans ((recFrom_step hqn hx6).trans (PR.bnd_bad hx7))) HL7.out.off⟩
     ·exact⟨rfl,Ran.bad' (HSp.out.trans ((recFrom_step hqn hx6).trans ((PR.bnd_ok hx7).trans (PR.bnd_bad hx8)))) HL8.out.off⟩
     ·intro g cap w10 hown hgrow hat _;obtain⟨h10,hL11,oB⟩:=HL8.out.addName hs7 hown rfl hgrow hat;have hj8:=(cX hx8).1
      have hlr:names.length<8:=by
       have h:=hx6;unfold iI at h;split at h
       ·assumption
       ·cases h
      have HA11:=zh (HW.out.above ha8 oB);have HL11:=zh hL11;have HSp8:=zh (HSp.out.trans ((recFrom_step hqn hx6).trans ((PR.bnd_ok hx7).trans (PR.bnd_ok hx8))));obtain⟨⟨c0,c1',c2',c3,c4,c5⟩,h0,h1,h2,h3,h4,h5⟩:=bx6 h10;clear hown hgrow hat h10 hL11 oB hL9 hbig9 ha6 ha7 ha8 ho6 ho7 ho8 hx6 hx7 hx8 d0 d1 d2 d3 d4 d5 e0 e1 e2 e3 e4 e5 k0 k1 k2 k3 k4 k5 HL5 HL6 HL7 HL8;go_wp2_with fail;clear c0 c1' c2' c3 c4 c5 h0 h1 h2 h3 h4 h5;generalize w10.setCell ⟨w.heap.size+1,4,none⟩ (.slice (some ⟨g,0,none⟩) (names.length+1) cap)=w11 at *;refine wp_region_held_drew (S:=(fun _=>True)) vU trivial fun hS=>?_;refine zt 0 (.pointer (some ⟨w.heap.size+1,5,none⟩)) rfl (fun W hW=>vW) hS ?_;(try simp only[zn]);refine zt 2 (.pointer (some ⟨p.pb,0,none⟩)) rfl (fun W hW=>vW) hS ?_;(try simp only[zn]);refine wpAnyH_ready (rs:=[1,3]) vU vZ ?_;refine AllReadyH.cons rfl (fun K hK=>?_) (AllReadyH.cons rfl (fun K hK=>?_) AllReadyH.nil)
      ·have hl11:=aD (aF w11) HL11.out.loc;rw[if_pos vU];(try simp only[z1,z2,z3]);obtain⟨⟨c0,c1,c2,c3,c4,c5⟩,h0,h1,h2,h3,h4,h5⟩:=bx6 hl11;go_simp;clear c0 c1 c2 c3 c4 c5 h0 h1 h2 h3 h4 h5;refine hK.out _ _ trivial (fun hS=>?_);clear hK K;(try simp only[zn]);refine zr 3 rfl (fun K hK=>?_);(try simp only[z1,z2,z3]);go_simp;refine(HE.out 0 j8 w11.drew (HA11.out.later (aF _)) vT vT).mono ?_;rintro e w12 (⟨x12,hx12,rfl,ho12⟩|⟨xc,j12,hx12,⟨⟨opc,nc,sc,mc,pc,qc,rc,tc,uc,vc,rfl,hec⟩,ha12,hij12⟩,ho12⟩)
       ·exact vA
       ·have HL12:=zh (HL11.out.next ((Off.of_below (aF w11)).trans ho12));refine hK.out _ _ trivial (fun hS=>?_);clear hK K;(try simp only[zn]);refine zr 4 rfl (fun K hK=>?_);(try simp only[z1,z2,z3]);go_simp;exact qX
      ·rw[if_pos vU];(try simp only[z1,z2,z3]);go_simp;refine(HE.out 0 j8 w11.drew (HA11.out.later (aF _)) vT vT).mono ?_;rintro e w12 (⟨x12,hx12,rfl,ho12⟩|⟨xc,j12,hx12,⟨⟨opc,nc,sc,mc,pc,qc,rc,tc,uc,vc,rfl,hec⟩,ha12,hij12⟩,ho12⟩)
       ·exact vA
       ·have HL12:=zh (HL11.out.next ((Off.of_below (aF w11)).trans ho12));refine hK.out _ _ trivial (fun hS=>?_);clear hK K;(try simp only[zn]);refine wpAnyH_ready (rs:=[1,4]) vU vZ ?_;refine AllReadyH.cons rfl (fun K hK=>?_) (AllReadyH.cons rfl (fun K hK=>?_) AllReadyH.nil)
        ·have hl12:=HL12.out.loc;rw[if_pos vU];(try simp only[z1,z2,z3]);obtain⟨⟨c0,c1,c2,c3,c4,c5⟩,h0,h1,h2,h3,h4,h5⟩:=bx6 hl12;go_simp;clear c0 c1 c2 c3 c4 c5 h0 h1 h2 h3 h4 h5;refine hK.out _ _ trivial (fun hS=>?_);clear hK K;(try simp only[zn]);refine zr 4 rfl (fun K hK=>?_);(try simp only[z1,z2,z3]);go_simp;exact qX
        ·rw[if_pos vU];(try simp only[z1,z2,z3]);go_simp;refine hK.out _ _ trivial (fun hS=>?_);clear hK K;(try simp only[zn]);refine wpAnyH_ready (rs:=[1]) vU vZ ?_;refine AllReadyH.cons rfl (fun K hK=>?_) AllReadyH.nil;have hl13:=aD (aA w12 (.cells #[.int .i64 opc,.int .i64 nc,.string sc,.string mc,.slice pc qc rc,.slice tc uc vc] 177)) HL12.out.loc;rw[if_pos vU];(try simp only[z1,z2,z3]);obtain⟨⟨c0,c1,c2,c3,c4,c5⟩,h0,h1,h2,h3,h4,h5⟩:=bx6 hl13;go_simp;clear c0 c1 c2 c3 c4 c5 h0 h1 h2 h3 h4 h5;exact qX
end Go.Proofs.YtacgopankhpnbaaGreatDoor
namespace Go.Proofs.YtacgopankhpnbaaGreatDoor
theorem vL{p:Prop}(h:p:=by
 obtain⟨a,_,ha,h⟩:=PR.of_bnd h;cases h
 exact jH fun y hy=>by rw[List.mem_singleton.1 hy];exact hr _ _ _ _ ha):p:=h
theorem vR{p:Prop}(h:p:=by
 rcases List.mem_append.1 hx with hx|hx
 ·exact ho x hx
 ·rw[List.mem_singleton.1 hx];exact hr _ _ _ _ he):p:=h
section
variable {l:List Tok} {rec:RecP} {D:Nat}
theorem depthXs_le_of{l:List Xp}{D:Nat}(h:∀x,x∈l->cP x<=D):eS l<=D:=by
 induction l with
 |nil=>simp[eS]
 |cons x r ih=>
  rw[eS];exact Nat.max_le.2 ⟨h x vZ,ih fun y hy=>h y (by simp[hy])⟩
theorem jH{op n:Int}{s m:ByteArray}{names:List ByteArray}{args:List Xp}(h:∀x,x∈args->cP x<=D):cP (.mk op n s m names args)<=D+1:=by
 rw[cP];have:=depthXs_le_of h;omega
theorem oM(hr:∀f i x j,rec f i=.ok (x,j)->cP x<=D):∀(F:Nat)(out:List Xp)(i:Nat)(xs:List Xp)(j:Nat),(∀x,x∈out->cP x<=D)->cT l rec F out i=.ok (xs,j)->∀x,x∈xs->cP x<=D
 |0,out,i,xs,j,ho,h=>by unfold cT at h;cases h;exact ho
 |F+1,out,i,xs,j,ho,h=>by
  unfold cT at h;obtain⟨_,_,-,h⟩:=PR.of_bnd h;obtain⟨e,j1,he,h⟩:=PR.of_bnd h
  have hn:∀x,x∈out++[e]->cP x<=D:=fun x hx=>by
   exact vR
  split at h
  ·exact oM hr F _ _ xs j hn h
  ·obtain⟨_,_,-,h⟩:=PR.of_bnd h;cases h;exact hn
theorem operandsP_depth(hr:∀f i x j,rec f i=.ok (x,j)->cP x<=D){i j:Nat}{xs:List Xp}(h:kF l rec i=.ok (xs,j)):∀x,x∈xs->cP x<=D:=by
 unfold kF at h;obtain⟨_,_,-,h⟩:=PR.of_bnd h;split at h
 ·cases h;intro x hx;cases hx
 ·exact oM hr _ _ _ _ _ (fun x hx=>by cases hx) h
theorem qH(hr:∀f i x j,rec f i=.ok (x,j)->cP x<=D):∀(F:Nat)(names:List ByteArray)(args:List Xp)(last:ByteArray)(i:Nat)(x:Xp)(j:Nat),(∀x,x∈args->cP x<=D)->dY l rec F names args last i=.ok (x,j)->cP x<=D+1
 |0,names,args,last,i,x,j,ho,h=>by unfold dY at h;cases h;exact jH ho
 |F+1,names,args,last,i,x,j,ho,h=>by
  unfold dY at h;obtain⟨_,_,-,h⟩:=PR.of_bnd h;obtain⟨_,_,-,h⟩:=PR.of_bnd h;obtain⟨_,_,-,h⟩:=PR.of_bnd h;obtain⟨e,j1,he,h⟩:=PR.of_bnd h
  have hn:∀x,x∈args++[e]->cP x<=D:=fun x hx=>by
   exact vR
  split at h
  ·exact qH hr F _ _ _ _ x j hn h
  ·obtain⟨_,_,-,h⟩:=PR.of_bnd h;cases h;exact jH hn
theorem mR{op n:Int}{s m:ByteArray}:cP (.mk op n s m [] [])<=D+1:=jH fun x hx=>by cases hx
theorem primaryP_depth(hr:∀f i x j,rec f i=.ok (x,j)->cP x<=D){i j:Nat}{x:Xp}(h:aY l rec i=.ok (x,j)):cP x<=D+1:=by
 have hp:∀{i x j},parenP l rec i=.ok (x,j)->cP x<=D:=fun h=>by
  unfold parenP at h;obtain⟨e,j1,he,h⟩:=PR.of_bnd h;obtain⟨_,_,-,h⟩:=PR.of_bnd h;cases h;exact hr _ _ _ _ he
 unfold aY at h;split at h
 ·cases h;exact mR
 ·split at h
  ·cases h;exact mR
  ·split at h
   ·cases h;exact mR
   ·split at h
    ·obtain⟨_,_,-,h⟩:=PR.of_bnd h;cases h;exact mR
    ·split at h
     ·obtain⟨_,_,-,h⟩:=PR.of_bnd h;obtain⟨e,_,he,h⟩:=PR.of_bnd h;cases h;exact jH fun y hy=>by rw[List.mem_singleton.1 hy];exact hp he
     ·split at h
      ·unfold lX at h;split at h
       ·cases h;exact mR
       ·exact qH hr _ _ _ _ _ _ _ (fun x hx=>by cases hx) h
      ·split at h
       ·exact Nat.le_succ_of_le (hp h)
       ·obtain⟨s,j1,-,h⟩:=PR.of_bnd h;unfold callP at h;split at h
        ·obtain⟨xs,_,ha,h⟩:=PR.of_bnd h;cases h;exact jH (operandsP_depth hr ha)
        ·split at h
         ·obtain⟨_,_,-,h⟩:=PR.of_bnd h;obtain⟨xs,_,ha,h⟩:=PR.of_bnd h;cases h;exact jH (operandsP_depth hr ha)
         ·cases h;exact mR
theorem prefixP_depth(hr:∀f i x j,rec f i=.ok (x,j)->cP x<=D){form i j:Nat}{r:Xp×Nat}(h:cZ l rec form i=.ok (r,j)):cP r.1<=D+1:=by
 unfold cZ at h;split at h
 ·obtain⟨a,_,ha,h⟩:=PR.of_bnd h;obtain⟨_,_,-,h⟩:=PR.of_bnd h;obtain⟨b,_,hb,h⟩:=PR.of_bnd h;obtain⟨_,_,-,h⟩:=PR.of_bnd h;obtain⟨c,_,hc,h⟩:=PR.of_bnd h;cases h
  exact jH fun y hy=>by
   simp only[List.mem_cons,List.not_mem_nil,or_false] at hy;rcases hy with rfl|rfl|rfl
   ·exact hr _ _ _ _ ha
   ·exact hr _ _ _ _ hb
   ·exact hr _ _ _ _ hc
 ·split at h
  ·obtain⟨_,_,-,h⟩:=PR.of_bnd h;obtain⟨_,_,-,h⟩:=PR.of_bnd h;obtain⟨a,_,ha,h⟩:=PR.of_bnd h;obtain⟨_,_,-,h⟩:=PR.of_bnd h;obtain⟨b,_,hb,h⟩:=PR.of_bnd h;cases h
   exact jH fun y hy=>by
    simp only[List.mem_cons,List.not_mem_nil,or_false] at hy;rcases hy with rfl|rfl
    ·exact hr _ _ _ _ ha
    ·exact hr _ _ _ _ hb
  ·split at h
   ·obtain⟨_,_,-,h⟩:=PR.of_bnd h;exact vL
   ·split at h
    ·exact vL
    ·obtain⟨e,_,he,h⟩:=PR.of_bnd h;cases h;exact primaryP_depth hr he
theorem dotsP_depth:∀(F:Nat)(e:Xp)(i:Nat)(x:Xp)(j:Nat),pO l F e i=.ok (x,j)->cP x<=cP e+F
 |0,e,i,x,j,h=>by unfold pO at h;cases h;exact Nat.le_refl _
 |F+1,e,i,x,j,h=>by
  unfold pO at h;split at h
  ·obtain⟨s,j1,-,h⟩:=PR.of_bnd h;have h1:=dotsP_depth F _ _ x j h;(have h2:cP (.mk 14 0 s noB [] [e])<=cP e+1:=jH fun y hy=>by rw[List.mem_singleton.1 hy];exact Nat.le_refl _);omega
  ·cases h;omega
theorem opsP_depth(hr:∀f i x j,rec f i=.ok (x,j)->cP x<=D)(form:Nat):∀(F own:Nat)(e:Xp)(i:Nat)(x:Xp)(j:Nat)(E:Nat),cP e<=E->D<=E->opsP l rec form F own e i=.ok (x,j)->cP x<=E+F
 |0,own,e,i,x,j,E,he,hD,h=>by unfold opsP at h;cases h;exact he
 |F+1,own,e,i,x,j,E,he,hD,h=>by
  unfold opsP at h;split at h
  ·cases h;omega
  ·split at h
   ·cases h;omega
   ·obtain⟨b,j1,hb,h⟩:=PR.of_bnd h
    have h1:=opsP_depth hr form F _ _ _ x j (E+1) (jH fun y hy=>by
     simp only[List.mem_cons,List.not_mem_nil,or_false] at hy;rcases hy with rfl|rfl
     ·exact he
     ·exact Nat.le_trans (hr _ _ _ _ hb) hD) vT h
    omega
theorem expP_depth:∀(f form i:Nat)(x:Xp)(j:Nat),bZ l f form i=.ok (x,j)->cP x<=f*(2*l.length+3)
 |0,form,i,x,j,h=>by unfold bZ at h;cases h
 |f+1,form,i,x,j,h=>by
  unfold bZ at h;obtain⟨r,j1,hr1,h⟩:=PR.of_bnd h;obtain⟨e,k,he,h⟩:=PR.of_bnd h;have hrec:∀f' i x j,bZ l f f' i=.ok (x,j)->cP x<=f*(2*l.length+3):=fun f' i x j h=>expP_depth f f' i x j h;have h1:=prefixP_depth hrec hr1
  have h2:cP e<=f*(2*l.length+3)+1+(l.length+1):=by
   split at he
   ·have:=dotsP_depth _ _ _ _ _ he;omega
   ·cases he;omega
  have h3:=opsP_depth hrec form _ _ _ _ _ _ _ h2 vT h;have e1:(f+1)*(2*l.length+3)=f*(2*l.length+3)+(2*l.length+3):=Nat.succ_mul _ _;omega
theorem expAllP_depth{form i j:Nat}{x:Xp}(h:expAllP l form i=.ok (x,j))(hl:l.length<=8001):cP x<=200000000:=by
 have h1:=expP_depth _ _ _ _ _ h;have h2:(l.length+1)*(2*l.length+3)<=8002*16005:=Nat.mul_le_mul vT vT;omega
end
end Go.Proofs.YtacgopankhpnbaaGreatDoor
namespace Go.Proofs.YtacgopankhpnbaaGreatDoor
set_option maxHeartbeats 2000000
set_option maxRecDepth 100000
open Go.RowKit
def ExpAll(p:Prs):Prop:=∀(form i:Nat)(w:World),p.At w i->form<=9->Calls Tryz.prog 188 #[.pointer (some ⟨p.pb,0,none⟩),.int .i64 (form:Int)] w
 (Ran p.S w (expAllP p.l form i) fun x j e w'=>pV w.heap.size x e w'/\p.At w' j/\i<=j)
theorem ExpAll.of{p:Prs}(h:∀f,gW p f):ExpAll p:=fun form i w hA hf=>h (p.l.length+1) form i w hA hf (by have:=hA.lt;omega)
def RowV{α:Type}(p:Prs)(k:Nat)(enc:(Nat->Prop)->World->α->List Value->Prop)(w:World)(i:Nat)(xs:List α)(j:Nat)(e:Ending)(w':World):Prop:=
 ∃a n c,e=.returned (.slice a n c)/\aK k enc (bP w.heap.size) w' (.slice a n c) xs/\p.At w' j/\i<=j
theorem nT(p:Prs)(hX:ExpAll p)(w:World)(i:Nat)(s:ByteArray)(h:p.At w i):Calls Tryz.prog 139 #[.pointer (some ⟨p.pb,0,none⟩),.string s] w
  (Ran p.S w (nB p.l i s) fun x j e w'=>pV w.heap.size x e w'/\p.At w' j/\i<j):=by
 have HW:=zh h;have HX:=zh (hX 0 i (w.alloc (.cells bS 177)) (h.later (aA _ _)) vV);have hlen:=h.len;have hpb:=h.blt;have hne:w.heap.size≠p.pb:=vT;have hs0:(w.alloc (.cells bS 177)).heap.size=w.heap.size+1:=vZ;have HR:Hid (nB p.l i s=(expAllP p.l 0 i).bnd fun x j=>(nE p.l j (decide (cP x<=12)) s).bnd fun _ k=>.ok (x,k)):=zh rfl;clear h hX;go_enter Tryz.func139,Tryz.ntmps139;go_wp2_with(first|(go_at_call 137;refine(end_any p w3 j2 _ s HA3.out).mono ?_;rintro e w4 (⟨x4,hx4,rfl,ho4⟩|⟨⟨⟩,j4,hx4,⟨rfl,ha4⟩,ho4⟩)<;>have HL4:=zh (ho4.heap hneL HL3.out)<;>have HR4:=zh (ho4.heap hne HR3.out)<;>obtain⟨⟨d0,d1,d2,d3,d4,d5⟩,h0,h1,h2,h3,h4,h5⟩:=bx6 HL4.out<;>obtain⟨⟨r0,r1,r2,r3,r4,r5⟩,g0,g1,g2,g3,g4,g5⟩:=bx6 HR4.out)|(go_at_call 189;refine(depth_any _ x _ op n s1 m _ _ _ (Nat.le_refl _) (by have:=expAllP_depth hx2 hlen;omega) (aG _ _ _ _ _ _ (bX.later (aA w2 _)) hex)).mono ?_;rintro e w3 ⟨rfl,hb3⟩;have HA3:=zh ((ha2.later (aA w2 _)).later hb3);have HL3:=zh (aD hb3 (heap_alloc_new w2 (.cells #[.int .i64 op,.int .i64 n,.string s1,.string m,.slice a1 n1 c1,.slice a2 n2 c2] 177)));have HR3:=zh (aD (aB (aA w2 (.cells #[.int .i64 op,.int .i64 n,.string s1,.string m,.slice a1 n1 c1,.slice a2 n2 c2] 177)) hb3) (ho2.heap hne (heap_alloc_new w (.cells bS 177))));have hz2:=ho2.size;have hneL:w2.heap.size≠p.pb:=vT;have HD:Hid (decide ((cP x:Int)<=12)=decide (cP x<=12)):=zh xE)|(go_at_call 188;refine HX.out.mono ?_;rintro e w2 (⟨x2,hx2,rfl,ho2⟩|⟨x,j2,hx2,⟨⟨op,n,s1,m,a1,n1,c1,a2,n2,c2,rfl,hex⟩,ha2,hij⟩,ho2⟩)))
 ·exact⟨rfl,Ran.bad' (HR.out.trans (PR.bnd_bad hx2)) ((Off.of_below (aA _ _)).trans ho2)⟩
 ·rw[HD.out] at hx4;exact⟨rfl,Ran.bad' (HR.out.trans ((PR.bnd_ok hx2).trans (PR.bnd_bad hx4))) ((Off.of_below (aA _ _)).trans (ho2.trans ((Off.of_below (aB (aA w2 _) hb3)).trans ho4)))⟩
 ·rw[HD.out] at hx4;have hj4:=endP_ok hx4;have hE:=iA HW.out ((Off.of_below (aA _ _)).trans (ho2.trans ((Off.of_below (aB (aA w2 _) hb3)).trans ho4))) ha4 (aG.off (aG _ _ _ _ _ _ (bX.later (aB (aA w2 _) hb3)) hex) ho4 (fun b hb hn=>by have hb:b=p.pb:=hb;have hn:(w.alloc (.cells bS 177)).heap.size<=b:=hn;omega)) (fun b hb=>by have hb:(w.alloc (.cells bS 177)).heap.size<=b:=hb;omega);unfold iB at hE;refine bodyPost_ret (v:=.agg #[.int .i64 op,.int .i64 n,.string s1,.string m,.slice a1 n1 c1,.slice a2 n2 c2]) (by simp[results,Tryz.results139,go_sem,r0,r1,r2,r3,r4,r5]) rfl ?_;exact Ran.good (HR.out.trans ((PR.bnd_ok hx2).trans (PR.bnd_ok hx4))) ⟨⟨op,n,s1,m,a1,n1,c1,a2,n2,c2,rfl,hE.1⟩,hE.2.1,vT⟩ hE.2.2
structure GrL {α:Type} (k:Nat) (T:TypeId) (enc:(Nat->Prop)->World->α->List Value->Prop) (p:Prs) (W:World) (out:List α) (css:List (List Value)) (v:Value) (q:Nat) (wr:World):Prop where
 off:Off p.S W wr
 acc:Gro k T enc W.heap.size out css v wr
 at_:p.At wr q
section
variable {α:Type} {k:Nat} {T:TypeId} {enc:(Nat->Prop)->World->α->List Value->Prop} {p:Prs} {W w5 w9 w10:World} {out:List α} {css:List (List Value)} {v:Value} {q j i0:Nat} {x:α} {cs:List Value}
theorem GrL.next(he:eU enc)(hW:p.At W i0)(h:GrL k T enc p W out css v q w5)(ho:Off p.S w5 w9)(ha:p.At w9 j):GrL k T enc p W out css v j w9:=
 ⟨h.off.trans ho,h.acc.stays he (dK.of_off ho fun b hb=>.inl AC),ha⟩
theorem GrL.fresh_enc(he:eU enc)(h:GrL k T enc p W out css v q w5)(hex:enc (bP w5.heap.size) w9 x cs):enc (mK W.heap.size v) w9 x cs:=
 he.wide hex fun b hb _=>⟨by have hb:w5.heap.size<=b:=hb;have:=h.acc.big;omega,fun e=>by have hb:w5.heap.size<=b:=hb;have:=h.acc.lt b e;omega⟩
theorem GrL.step{g cap n1:Nat}(he:eU enc)(hW:p.At W i0)(h5:GrL k T enc p W out css v q w5)(o9:Off p.S w5 w9)(ha9:p.At w9 j)(hx:enc (mK W.heap.size v) w9 x cs)(hl:cs.length=k)
  (hown:w10.ownsRow W.heap.size T k (.slice (some ⟨g,0,none⟩) n1 cap) n1 (css.flatten++cs)) (hn:n1=out.length+1) (hgrow:w9.grownBy w10 v.ownBlock) (hat:v.ownBlock=some g\/g=w9.heap.size):
  GrL k T enc p W (out++[x]) (css++[cs]) (.slice (some ⟨g,0,none⟩) n1 cap) j w10/\Off (fun b=>W.heap.size<=b) w9 w10:=by
 subst hn;have hlt:=h5.acc.lt;have hbig:=h5.acc.big;have hA9:=h5.acc.stays he (dK.of_off o9 fun b hb=>.inl AC);have o10:Off (fun b=>W.heap.size<=b) w9 w10:=⟨hgrow.os,hgrow.tape,hgrow.output,hgrow.size,fun b hb hn=>hgrow.block b hb (fun e=>hn (hlt b e.symm).1)⟩;exact⟨⟨Off.fresh (((h5.off.trans o9).or _).trans (o10.mono fun b hb=>.inr hb)) (Nat.le_refl _),hA9.added he hx hl hown hgrow hat,hW.above ha9 o10⟩,o10⟩
end
end Go.Proofs.YtacgopankhpnbaaGreatDoor
namespace Go.Proofs.YtacgopankhpnbaaGreatDoor
set_option maxHeartbeats 4000000
set_option maxRecDepth 100000
open Go.RowKit
theorem wholes_any(p:Prs)(hX:ExpAll p)(n:Nat)(hn:n<=1000)(w:World)(i:Nat)(s:ByteArray)(h:p.At w i):Calls Tryz.prog 143 #[.pointer (some ⟨p.pb,0,none⟩),.int .i64 (n:Int),.string s] w
  (Ran p.S w (iU p.l n i s) (RowV p 6 cE w i)):=by
 obtain⟨i0,hi0,hz0,hz1,hz2⟩:=info_parts xpInfo;have HW:=zh h;have hlen:=h.len
 cases n with
 |zero=>
  have HR:Hid (iU p.l 0 i s=(dM p.l i s).bnd fun _ j=>.ok ([],j)):=zh rfl;clear h hX;go_enter Tryz.func143,Tryz.ntmps143;go_wp2_with(go_at_call 131;refine(dF p w i s HW.out).mono ?_;rintro e w1 (⟨x,hx,rfl,ho1⟩|⟨⟨⟩,j,hx,⟨rfl,ha1⟩,ho1⟩))
  ·exact vP
  ·have hj:=(cX hx).1;go_ret;exact Ran.good (HR.out.trans (PR.bnd_ok hx)) ⟨none,0,0,rfl,aK.nil _ _ _ _,ha1,vT⟩ ho1
 |succ n=>
  have HX:=zh hX;have HR:Hid (iU p.l (n+1) i s=jQ p.l s n [] i):=zh rfl;have hcast:((n+1:Nat):Int)=(n:Int)+1:=vT;rw[hcast];have hn2:(n:Int)+1<=1000:=vT;have hn3:((n:Int)+1==0)=false:=wC;clear h hX hcast;go_enter Tryz.func143,Tryz.ntmps143;go_wp2_with fail;have HLs:Hid (GrL 6 177 cE p w [] [] (.slice none 0 0) i w):=zh ⟨Off.refl _ _,Gro.first _ _ _ _,HW.out⟩;go_loopw [7,15] (fun v c wr=>∃(k:Nat)(a:Option Addr)(cc q:Nat)(out:List Xp)(css:List (List Value)),k<=n/\c=.int .i64 (k:Int)/\v=.slice a out.length cc/\Hid (GrL 6 177 cE p w out css v q wr)/\Hid (iU p.l (n+1) i s=jQ p.l s (n-k) out q)/\Hid (i<=q/\out.length=k)) (fun _ c _=>n-(intOf c).toNat)
  case atStart=>exact⟨0,none,0,i,[],[],vT,rfl,rfl,HLs,HR,zh ⟨Nat.le_refl _,rfl⟩⟩
  case round=>
   obtain⟨k,a,cc,q,out,css,hk,rfl,rfl,HL,HSp,HB⟩:=hrel;(rename World=>wr);have hq1:=HB.out.1;(have hq2:out.length<=1000:=by have:=HB.out.2;omega);by_cases hlt:k<n
   ·have HSp1:Hid (iU p.l (n+1) i s=(nB p.l q bW).bnd fun x j=>jQ p.l s (n-(k+1)) (out++[x]) j):=zh (by rw[HSp.out,show n-k=(n-(k+1))+1 by omega];rfl);go_wp2_with(first|(at_builtin;have HL9:=HL.out.next aG HW.out (ho7.trans (Off.of_below (aA w7 (.cells #[.int .i64 op,.int .i64 n1,.string s1,.string m,.slice a1 m1 c1,.slice a2 m2 c2] 177)))) (ha7.later (aA _ _));have hown9:=HL9.acc;have hbig9:=hown9.big;refine wpList_append_lies _ rfl _ _ 127 rfl w.heap.size 177 i0 (.agg #[.int .i64 0,.int .i64 0,.string ByteArray.empty,.string ByteArray.empty,.slice none 0 0,.slice none 0 0]) 6 96 Tryz.underlying127 hi0 hz0 hz1 hz2 rfl vT (.slice a out.length cc) out.length css.flatten xK hown9.own ⟨w7.heap.size,0,none⟩ 1 1 [.int .i64 op,.int .i64 n1,.string s1,.string m,.slice a1 m1 c1,.slice a2 m2 c2] xK rfl (World.news_of_block (cs:=#[.int .i64 op,.int .i64 n1,.string s1,.string m,.slice a1 m1 c1,.slice a2 m2 c2]) (t:=177) (fr:=(0,0)) (heap_alloc_new w7 _)) wN vT wK vT hbig9 (w7.heap.size+1) vZ ?_)|(go_at_call 139;refine(nT p HX.out wr q bW HL.out.at_).mono ?_;rintro e w7 (⟨x7,hx7,rfl,ho7⟩|⟨x,j,hx7,⟨⟨op,n1,s1,m,a1,m1,c1,a2,m2,c2,rfl,hex⟩,ha7,hqj⟩,ho7⟩)))
    ·exact⟨rfl,Ran.bad' (HSp1.out.trans (PR.bnd_bad hx7)) (HL.out.off.trans ho7)⟩
    ·intro g cap w10 hown hgrow hat _;have HL10:=zh (HL.out.step aG HW.out (ho7.trans (Off.of_below (aA w7 (.cells #[.int .i64 op,.int .i64 n1,.string s1,.string m,.slice a1 m1 c1,.slice a2 m2 c2] 177)))) (ha7.later (aA _ _)) (HL.out.fresh_enc aG (aG _ _ _ _ _ _ (bX.later (aA w7 (.cells #[.int .i64 op,.int .i64 n1,.string s1,.string m,.slice a1 m1 c1,.slice a2 m2 c2] 177))) hex)) rfl hown rfl hgrow zL).1;have HSp2:=zh (HSp1.out.trans (PR.bnd_ok hx7));have HJ:Hid (i<=j/\(out++[x]).length=k+1):=zh ⟨vT,by simp[HB.out.2]⟩;clear hown hgrow hat hex ha7 ho7 hx7 HL HSp HSp1;go_wp2_with fail;go_roundw;(case rel=>exact⟨k+1,some ⟨g,0,none⟩,cap,j,out++[x],_,vT,wH,vZ,HL10,HSp2,HJ⟩);case measure=>simp[intOf];omega
   ·have hkn:k=n:=vT;have HSp1:Hid (iU p.l (n+1) i s=(nB p.l q s).bnd fun x j=>.ok (out++[x],j)):=zh (by rw[HSp.out,hkn,Nat.sub_self];rfl);subst hkn;go_wp2_with(first|(at_builtin;have HL9:=HL.out.next aG HW.out (ho7.trans (Off.of_below (aA w7 (.cells #[.int .i64 op,.int .i64 n1,.string s1,.string m,.slice a1 m1 c1,.slice a2 m2 c2] 177)))) (ha7.later (aA _ _));have hown9:=HL9.acc;have hbig9:=hown9.big;refine wpList_append_lies _ rfl _ _ 127 rfl w.heap.size 177 i0 (.agg #[.int .i64 0,.int .i64 0,.string ByteArray.empty,.string ByteArray.empty,.slice none 0 0,.slice none 0 0]) 6 96 Tryz.underlying127 hi0 hz0 hz1 hz2 rfl vT (.slice a out.length cc) out.length css.flatten xK hown9.own ⟨w7.heap.size,0,none⟩ 1 1 [.int .i64 op,.int .i64 n1,.string s1,.string m,.slice a1 m1 c1,.slice a2 m2 c2] xK rfl (World.news_of_block (cs:=#[.int .i64 op,.int .i64 n1,.string s1,.string m,.slice a1 m1 c1,.slice a2 m2 c2]) (t:=177) (fr:=(0,0)) (heap_alloc_new w7 _)) wN vT wK vT hbig9 (w7.heap.size+1) vZ ?_)|(go_at_call 139;refine(nT p HX.out wr q s HL.out.at_).mono ?_;rintro e w7 (⟨x7,hx7,rfl,ho7⟩|⟨x,j,hx7,⟨⟨op,n1,s1,m,a1,m1,c1,a2,m2,c2,rfl,hex⟩,ha7,hqj⟩,ho7⟩)))
    ·exact⟨rfl,Ran.bad' (HSp1.out.trans (PR.bnd_bad hx7)) (HL.out.off.trans ho7)⟩
    ·intro g cap w10 hown hgrow hat _;have HL10:=zh (HL.out.step aG HW.out (ho7.trans (Off.of_below (aA w7 (.cells #[.int .i64 op,.int .i64 n1,.string s1,.string m,.slice a1 m1 c1,.slice a2 m2 c2] 177)))) (ha7.later (aA _ _)) (HL.out.fresh_enc aG (aG _ _ _ _ _ _ (bX.later (aA w7 (.cells #[.int .i64 op,.int .i64 n1,.string s1,.string m,.slice a1 m1 c1,.slice a2 m2 c2] 177))) hex)) rfl hown rfl hgrow zL).1;have hR:=HSp1.out.trans (PR.bnd_ok hx7);clear hown hgrow hat hex ha7 ho7 hx7;go_wp2_with fail;go_ret;exact Ran.good hR ⟨_,_,_,rfl,by simpa using HL10.out.acc.row aG,HL10.out.at_,vT⟩ HL10.out.off
theorem tO{p:Prop}(h:p:=by
 refine congrArg eK (funext fun z=>?_);simp only[List.any_append,List.any_cons,List.any_nil,Bool.or_false];rw[Bool.or_comm];by_cases h:a=z
 ·subst h;rfl
 ·have h2:¬z=a:=fun e=>h e.symm
  simp only[decide_eq_false h,decide_eq_false h2]):p:=h
theorem Gro.cells{α:Type}{k:Nat}{T:TypeId}{enc:(Nat->Prop)->World->α->List Value->Prop}{B:Nat}{l:List α}{css:List (List Value)}{v:Value}{w:World}(h:Gro k T enc B l css v w){b:Nat}(hb:v.ownBlock=some b):∃cs t fr,w.heap[b]? =some (.cells cs t fr):=by
 rcases h.own.2 with⟨rfl,-⟩|⟨g,cap,cur,rfl,-,hgg,-⟩
 ·cases hb
 ·have e:g=b:=zO;subst e;exact⟨_,_,_,hgg⟩
theorem Gro.nemap{α:Type}{k:Nat}{T:TypeId}{enc:(Nat->Prop)->World->α->List Value->Prop}{B:Nat}{l:List α}{css:List (List Value)}{v:Value}{w:World}(h:Gro k T enc B l css v w){km:Nat}(hm:dE w km):v.ownBlock≠some km:=fun e=>by
 obtain⟨cs,t,fr,h1⟩:=h.cells e;obtain⟨es,c,h2⟩:=hm;rw[h1] at h2;cases h2
section
variable {α:Type} {k:Nat} {T:TypeId} {enc:(Nat->Prop)->World->α->List Value->Prop} {p:Prs} {W w5 w9 w10:World} {out:List α} {css:List (List Value)} {v:Value} {q j i0 km:Nat}
theorem GrL.fresh(he:eU enc)(hW:p.At W i0)(h:GrL k T enc p W out css v q w5)(hm:dE w5 km)(hk:W.heap.size<=km)(ho:Off (p.S2 km) w5 w9)(ha:p.At w9 j):GrL k T enc p W out css v j w9:=
 ⟨Off.fresh ((h.off.or _).trans (ho.mono fun b hb=>hb.elim (fun e=>.inl e) (fun e=>.inr vT))) (Nat.le_refl _),
  h.acc.stays he (dK.of_off ho fun b hb=>hb.elim (fun e=>.inl (by have:=hW.blt;omega)) (fun e=>.inr (by rw[e];exact hm))),ha⟩
end
theorem GrL.field{p:Prs}{W w6 w7 w10:World}{g cap n1 i0 j2 q:Nat}{fs:List Fld}{css:List (List Value)}{v:Value}{a:ByteArray}{t:Ty}{k:Int}{sa:Option Addr}{sn sc:Nat}(hW:p.At W i0)(h6:GrL 3 184 gP p W fs css v q w6)
  (ho7:Off p.S (w6.alloc (.cells #[.string a,.int .i64 0,.slice none 0 0] 184)) w7) (ha7:p.At w7 j2) (het:jG (bP (w6.alloc (.cells #[.string a,.int .i64 0,.slice none 0 0] 184)).heap.size) w7 t [.int .i64 k,.slice sa sn sc]) (hs:a.size<=8000)
  (hown:w10.ownsRow W.heap.size 184 3 (.slice (some ⟨g,0,none⟩) n1 cap) n1 (css.flatten++[.string a,.int .i64 k,.slice sa sn sc])) (hn:n1=fs.length+1) (hgrow:(((w7.setCell ⟨w6.heap.size,1,none⟩ (.int .i64 k)).setCell ⟨w6.heap.size,2,none⟩ (.slice sa sn sc)).alloc (.cells #[.string a,.int .i64 k,.slice sa sn sc] 184)).grownBy w10 v.ownBlock) (hat:v.ownBlock=some g\/g=w7.heap.size+1):
  GrL 3 184 gP p W (fs++[(a,t)]) (css++[[.string a,.int .i64 k,.slice sa sn sc]]) (.slice (some ⟨g,0,none⟩) n1 cap) j2 w10/\jG (bP (w6.heap.size+1)) w10 t [.int .i64 k,.slice sa sn sc]/\
  w10.heap[w6.heap.size]? =some (.cells #[.string a,.int .i64 k,.slice sa sn sc] 184)/\Off (fun b=>b=w6.heap.size\/v.ownBlock=some b) w7 w10:=by
 have hbig:=h6.acc.big;have hpb:=hW.blt;have hlt:=h6.acc.lt;have hsz:(w6.alloc (.cells #[.string a,.int .i64 0,.slice none 0 0] 184)).heap.size=w6.heap.size+1:=vZ;have o7:Off p.S w6 w7:=(Off.of_below (aA w6 (.cells #[.string a,.int .i64 0,.slice none 0 0] 184))).trans ho7;have hz7:w6.heap.size+1<=w7.heap.size:=by have:=ho7.size;omega
 have o8:Off (fun b=>b=w6.heap.size) w7 ((w7.setCell ⟨w6.heap.size,1,none⟩ (.int .i64 k)).setCell ⟨w6.heap.size,2,none⟩ (.slice sa sn sc)):=(Off.setCell (S:=fun b=>b=w6.heap.size) w7 rfl).trans (Off.setCell (S:=fun b=>b=w6.heap.size) _ rfl);have o9:Off (fun b=>b=w6.heap.size) w7 (((w7.setCell ⟨w6.heap.size,1,none⟩ (.int .i64 k)).setCell ⟨w6.heap.size,2,none⟩ (.slice sa sn sc)).alloc (.cells #[.string a,.int .i64 k,.slice sa sn sc] 184)):=o8.trans (Off.of_below (aA _ _));have O9:Off p.S w6 (((w7.setCell ⟨w6.heap.size,1,none⟩ (.int .i64 k)).setCell ⟨w6.heap.size,2,none⟩ (.slice sa sn sc)).alloc (.cells #[.string a,.int .i64 k,.slice sa sn sc] 184)):=Off.fresh ((o7.or w6.heap.size).trans (o9.mono fun b hb=>.inr vT)) (Nat.le_refl _);have ha9:=hW.above ha7 (o9.mono (S':=fun b=>W.heap.size<=b) fun b hb=>vT)
 have hx:gP (mK W.heap.size v) (((w7.setCell ⟨w6.heap.size,1,none⟩ (.int .i64 k)).setCell ⟨w6.heap.size,2,none⟩ (.slice sa sn sc)).alloc (.cells #[.string a,.int .i64 k,.slice sa sn sc] 184)) (a,t) [.string a,.int .i64 k,.slice sa sn sc]:=by
  exact tG
 have hz9:(((w7.setCell ⟨w6.heap.size,1,none⟩ (.int .i64 k)).setCell ⟨w6.heap.size,2,none⟩ (.slice sa sn sc)).alloc (.cells #[.string a,.int .i64 k,.slice sa sn sc] 184)).heap.size=w7.heap.size+1:=vZ;have hT:=h6.step bA hW O9 ha9 hx rfl hown hn hgrow AM;have hf7:w7.heap[w6.heap.size]? =some (.cells #[.string a,.int .i64 0,.slice none 0 0] 184):=ho7.heap (fun e=>by have e:w6.heap.size=p.pb:=e;omega) (heap_alloc_new w6 (.cells #[.string a,.int .i64 0,.slice none 0 0] 184))
 have hf8:(((w7.setCell ⟨w6.heap.size,1,none⟩ (.int .i64 k)).setCell ⟨w6.heap.size,2,none⟩ (.slice sa sn sc)).alloc (.cells #[.string a,.int .i64 k,.slice sa sn sc] 184)).heap[w6.heap.size]? =some (.cells #[.string a,.int .i64 k,.slice sa sn sc] 184):=by
  refine aD (aA _ _) ?_;rw[aU (aU hf7 _) _];rfl
 have o10:Off (fun b=>v.ownBlock=some b) (((w7.setCell ⟨w6.heap.size,1,none⟩ (.int .i64 k)).setCell ⟨w6.heap.size,2,none⟩ (.slice sa sn sc)).alloc (.cells #[.string a,.int .i64 k,.slice sa sn sc] 184)) w10:=⟨hgrow.os,hgrow.tape,hgrow.output,hgrow.size,fun b hb hn=>hgrow.block b hb (fun e=>hn e.symm)⟩;refine⟨hT.1,?_,?_,(o9.mono fun b hb=>.inl hb).trans (o10.mono fun b hb=>.inr hb)⟩
 ·rw[hsz] at het;exact fL.off het ((o9.mono (S':=fun b=>b<=w6.heap.size) fun b hb=>vT).trans (o10.mono fun b hb=>by have:=(hlt b hb).2;omega)) (fun b hb hn=>by have hn:w6.heap.size+1<=b:=hn;omega)
 ·exact o10.heap (fun e=>by have:=(hlt _ e).2;omega) hf8
section
variable {l:List Tok} {F q most:Nat} {fs:List Fld}
theorem pM(hq:dJ l q=false):eI l most (F+1) fs q=.error ((aH l q).pos,11):=by
 rw[eI,if_neg zY];unfold iQ;rw[hq];rfl
theorem fieldsFrom_full(hq:dJ l q=true)(hm:¬fs.length<most):eI l most (F+1) fs q=.error ((aH l q).pos,6):=by
 rw[eI,if_pos hq];unfold iI;rw[if_neg hm];rfl
theorem kT(hq:dJ l q=true)(hm:fs.length<most):eI l most (F+1) fs q=
  (iQ l q (fun s=>fs.any fun x=>decide (x.1=s))).bnd fun s j=>(lG l j).bnd fun t j2=>(moreP l j2 t lL).bnd fun q j3=>if q then .ok (fs++[(s,t)],j3) else eI l most F (fs++[(s,t)]) j3:=by
 rw[eI,if_pos hq];unfold iI;rw[if_pos hm];rfl
theorem any_push(fs:List Fld)(a:ByteArray)(t:Ty):(eK fun z=>decide (z=a)||fs.any fun x=>decide (x.1=z))=eK fun s=>(fs++[(a,t)]).any fun x=>decide (x.1=s):=by
 exact tO
theorem freshP_noname{aO:ByteArray->Bool}(hq:dJ l q=false):iQ l q aO=.error ((aH l q).pos,11):=by unfold iQ;rw[hq];rfl
end
theorem off_S2{p:Prs}{W w5 w9:World}{km:Nat}(h:Off p.S W w5)(ho:Off (p.S2 km) w5 w9)(hk:W.heap.size<=km):Off p.S W w9:=
 Off.fresh ((h.or _).trans (ho.mono fun b hb=>hb.elim (fun e=>.inl e) (fun e=>.inr vT))) (Nat.le_refl _)
end Go.Proofs.YtacgopankhpnbaaGreatDoor
