/- Texts of this seat, joined. -/
import Derived.Test.YtmpopphjaggeoaaGreatDoorKAN
set_option maxHeartbeats 64000000
set_option maxRecDepth 100000
set_option linter.unusedVariables false
set_option linter.unusedSimpArgs false
set_option linter.constructorNameAsVariable false
namespace Go.Proofs.YtmpopphjaggeoaaGreatDoor
open Go.RowKit Go.Shelf
theorem AZ{p:Prop}(h:p:=by
 generalize w.alloc (.cells A 37)=W0 at *;have x0:=cfA HX.out nK.out;have x1:=cfA HX.out pP.out;have x5:=cfA HX.out AG.out;have x15:=cfA HX.out uV.out;generalize f.kind=k at *;by_cases h0:k=0
 ·have lC:=HE.out;rw[if_pos h0] at lC;have oU:=zh lC;subst h0;clear lC;go_wp2_with fail;go_ret;exact⟨bF oU.out.symm,jD.out⟩
 have g0:(k==0)=false:=beq_eq_false_iff_ne.2 h0;by_cases h3:k=3
 ·have lC:=HE.out;rw[if_neg h0,if_pos h3] at lC;have oU:=zh lC;subst h3;clear lC;go_wp2_with fail;go_ret;exact⟨bF oU.out.symm,jD.out⟩
 have g3:(k==3)=false:=beq_eq_false_iff_ne.2 h3;have lC:=HE.out;rw[if_neg h0,if_neg h3] at lC;have oU:=zh lC;clear lC;go_wp2_with fail;go_ret
 exact⟨bF oU.out.symm,jD.out⟩):p:=h
theorem BI{p:Prop}(h:p:=by
 go_wp2_with fail;go_ret
 exact⟨aQ oU.out.symm,jD.out⟩):p:=h
theorem name11_any(f:Fc)(p:FcP)(w:World):Calls Tryz.prog 37 #[.agg (fcC f p).toArray] w fun e w'=>e=.returned (.string (dZ f))/\Below w.heap.size w w':=by
 obtain⟨A,HA⟩:∃c:Array Value,Hid (c=(fcC f p).toArray):=⟨_,zh rfl⟩;have kA:Hid (A.size=29):=zh CW;rw[<-HA.out];have nK:Hid (A[0]? =some (.int .i64 f.kind)):=zh CW;have pP:Hid (A[1]? =some (.string f.name)):=zh CW;have AG:Hid (A[5]? =some (.string f.rel.name)):=zh CW;have uV:Hid (A[15]? =some (.string f.adv.name)):=zh CW;have HX:=zh (bY w (.cells A 37));have jD:=zh (aB w (.cells A 37));have HE:Hid (dZ f=if f.kind=0 then f.rel.name else if f.kind=3 then f.adv.name else f.name):=zh rfl;go_enter Tryz.func37,Tryz.ntmps37
 go_upto_region 1 with(fail)
 exact AZ
theorem name24_any(f:Fc)(p:FcP)(w:World):Calls Tryz.prog 11 #[.agg (fcC f p).toArray] w fun e w'=>e=.returned (.string (dZ f))/\Below w.heap.size w w':=by
 obtain⟨A,HA⟩:∃c:Array Value,Hid (c=(fcC f p).toArray):=⟨_,zh rfl⟩;have kA:Hid (A.size=29):=zh CW;rw[<-HA.out];have HX:=zh (bY w (.cells A 37));have jD:=zh (aB w (.cells A 37));have HN:=zh (name11_any f p (w.alloc (.cells A 37)));rw[<-HA.out] at HN;go_enter Tryz.func11,Tryz.ntmps11
 go_upto_region 1 with(fail)
 generalize w.alloc (.cells A 37)=W0 at *;go_wp2_with(refine aN (x:=.tmp 1) rfl CQ w.heap.size rfl A HX.out kA.out ?_);go_at_call 37;refine HN.out.mono ?_;rintro e w1 ⟨rfl,hb⟩;have jL:=zh (aA jD.out hb);clear hb;go_wp2_with fail;go_ret;exact⟨rfl,jL.out⟩
theorem group_any(f:Fc)(p:FcP)(w:World):Calls Tryz.prog 10 #[.agg (fcC f p).toArray] w fun e w'=>e=.returned (.int .i64 (eN f))/\Below w.heap.size w w':=by
 obtain⟨A,HA⟩:∃c:Array Value,Hid (c=(fcC f p).toArray):=⟨_,zh rfl⟩;have kA:Hid (A.size=29):=zh CW;rw[<-HA.out];have nK:Hid (A[0]? =some (.int .i64 f.kind)):=zh CW;have HX:=zh (bY w (.cells A 37));have jD:=zh (aB w (.cells A 37));have HE:Hid (eN f=if f.kind=0 then 0 else if f.kind=1\/f.kind=2 then 1 else if f.kind=3 then 2 else if f.kind=7 then 3 else 4):=zh rfl;go_enter Tryz.func10,Tryz.ntmps10
 go_upto_region 1 with(fail)
 generalize w.alloc (.cells A 37)=W0 at *;have x0:=cfA HX.out nK.out;generalize f.kind=k at *;by_cases h0:k=0
 ·have lC:=HE.out;rw[if_pos h0] at lC;have oU:=zh lC;clear lC;subst h0;exact BI
 have gh0:(k==0)=false:=beq_eq_false_iff_ne.2 h0;by_cases h1:k=1
 ·have lC:=HE.out;rw[if_neg h0,if_pos (Or.inl h1)] at lC;have oU:=zh lC;clear lC;subst h1;exact BI
 have gh1:(k==1)=false:=beq_eq_false_iff_ne.2 h1;by_cases h2:k=2
 ·have lC:=HE.out;rw[if_neg h0,if_pos (Or.inr h2)] at lC;have oU:=zh lC;clear lC;subst h2;exact BI
 have gh2:(k==2)=false:=beq_eq_false_iff_ne.2 h2;by_cases h3:k=3
 ·have lC:=HE.out;rw[if_neg h0,if_neg (fun e=>e.elim h1 h2),if_pos h3] at lC;have oU:=zh lC;clear lC;subst h3;exact BI
 have gh3:(k==3)=false:=beq_eq_false_iff_ne.2 h3;by_cases h7:k=7
 ·have lC:=HE.out;rw[if_neg h0,if_neg (fun e=>e.elim h1 h2),if_neg h3,if_pos h7] at lC;have oU:=zh lC;clear lC;subst h7;exact BI
 have gh7:(k==7)=false:=beq_eq_false_iff_ne.2 h7;have lC:=HE.out;rw[if_neg h0,if_neg (fun e=>e.elim h1 h2),if_neg h3,if_neg h7] at lC;have oU:=zh lC;clear lC;exact BI
theorem number24_any(f:Fc)(p:FcP)(w:World):Calls Tryz.prog 12 #[.agg (fcC f p).toArray] w fun e w'=>e=.returned (.agg #[.int .i64 (fJ f).a,.int .i64 (fJ f).b,.int .i64 (fJ f).c])/\Below w.heap.size w w':=by
 obtain⟨A,HA⟩:∃c:Array Value,Hid (c=(fcC f p).toArray):=⟨_,zh rfl⟩;have kA:Hid (A.size=29):=zh CW;rw[<-HA.out];have nK:Hid (A[0]? =some (.int .i64 f.kind)):=zh CW;have qB:Hid (A[2]? =some (.int .i64 f.ver.a)):=zh CW;have tS:Hid (A[3]? =some (.int .i64 f.ver.b)):=zh CW;have uT:Hid (A[4]? =some (.int .i64 f.ver.c)):=zh CW;have lO:Hid (A[6]? =some (.int .i64 f.rel.ver.a)):=zh CW;have lG:Hid (A[7]? =some (.int .i64 f.rel.ver.b)):=zh CW;have lA:Hid (A[8]? =some (.int .i64 f.rel.ver.c)):=zh CW;have HX:=zh (bY w (.cells A 37));have jD:=zh (aB w (.cells A 37));have HE:Hid (fJ f=if f.kind=0 then f.rel.ver else if f.kind=3 then dI else f.ver):=zh rfl;have jI:=zh (aC (aB (w.alloc (.cells A 37)) (.cells #[.int .i64 0,.int .i64 0,.int .i64 0] 23)) HX.out);have HR:=zh (bY (w.alloc (.cells A 37)) (.cells #[.int .i64 0,.int .i64 0,.int .i64 0] 23));have jL:=zh (aA jD.out (aB (w.alloc (.cells A 37)) (.cells #[.int .i64 0,.int .i64 0,.int .i64 0] 23)));have hz:(w.alloc (.cells A 37)).heap.size=w.heap.size+1:=C0;rw[hz] at HR;go_enter Tryz.func12,Tryz.ntmps12
 go_upto_region 1 with(fail)
 generalize (w.alloc (.cells A 37)).alloc (.cells #[.int .i64 0,.int .i64 0,.int .i64 0] 23)=W0 at *;have x0:=cfA jI.out nK.out;have x2:=cfA jI.out qB.out;have x3:=cfA jI.out tS.out;have x4:=cfA jI.out uT.out;have x6:=cfA jI.out lO.out;have x7:=cfA jI.out lG.out;have x8:=cfA jI.out lA.out;obtain⟨⟨y0,y1,y2⟩,z0,z1,z2⟩:=bx3 HR.out;clear hz HX jD;generalize f.kind=k at *;by_cases h0:k=0
 ·have lC:=HE.out;rw[if_pos h0] at lC;have oU:=zh lC;clear lC;subst h0;have HH:=zh (aG (aG (aG HR.out 0 (.int .i64 f.rel.ver.a)) 1 (.int .i64 f.rel.ver.b)) 2 (.int .i64 f.rel.ver.c));have HBB:=zh (((jL.out.setCell (p:=⟨w.heap.size+1,0,none⟩) C7 (.int .i64 f.rel.ver.a)).setCell (p:=⟨w.heap.size+1,1,none⟩) C7 (.int .i64 f.rel.ver.b)).setCell (p:=⟨w.heap.size+1,2,none⟩) C7 (.int .i64 f.rel.ver.c));go_wp2_with fail;refine bodyPost_ret (v:=.agg #[.int .i64 f.rel.ver.a,.int .i64 f.rel.ver.b,.int .i64 f.rel.ver.c]) (results_cell_row (p:=2) rfl _ _ (w.heap.size+1) 23 #[.int .i64 f.rel.ver.a,.int .i64 f.rel.ver.b,.int .i64 f.rel.ver.c] (0,0) _ rfl HH.out Tryz.underlying23 rfl CQ) rfl ?_;exact⟨by rw[oU.out],HBB.out⟩
 have g0:(k==0)=false:=beq_eq_false_iff_ne.2 h0;by_cases h3:k=3
 ·have lC:=HE.out;rw[if_neg h0,if_pos h3] at lC;have oU:=zh lC;clear lC;subst h3;have HH:=zh (aG (aG (aG HR.out 0 (.int .i64 0)) 1 (.int .i64 0)) 2 (.int .i64 0));have HBB:=zh (((jL.out.setCell (p:=⟨w.heap.size+1,0,none⟩) C7 (.int .i64 0)).setCell (p:=⟨w.heap.size+1,1,none⟩) C7 (.int .i64 0)).setCell (p:=⟨w.heap.size+1,2,none⟩) C7 (.int .i64 0));go_wp2_with fail;refine bodyPost_ret (v:=.agg #[.int .i64 0,.int .i64 0,.int .i64 0]) (results_cell_row (p:=2) rfl _ _ (w.heap.size+1) 23 #[.int .i64 0,.int .i64 0,.int .i64 0] (0,0) _ rfl HH.out Tryz.underlying23 rfl CQ) rfl ?_;exact⟨by rw[oU.out];rfl,HBB.out⟩
 have g3:(k==3)=false:=beq_eq_false_iff_ne.2 h3;have lC:=HE.out;rw[if_neg h0,if_neg h3] at lC;have oU:=zh lC;clear lC;have HH:=zh (aG (aG (aG HR.out 0 (.int .i64 f.ver.a)) 1 (.int .i64 f.ver.b)) 2 (.int .i64 f.ver.c));have HBB:=zh (((jL.out.setCell (p:=⟨w.heap.size+1,0,none⟩) C7 (.int .i64 f.ver.a)).setCell (p:=⟨w.heap.size+1,1,none⟩) C7 (.int .i64 f.ver.b)).setCell (p:=⟨w.heap.size+1,2,none⟩) C7 (.int .i64 f.ver.c));go_wp2_with fail;refine bodyPost_ret (v:=.agg #[.int .i64 f.ver.a,.int .i64 f.ver.b,.int .i64 f.ver.c]) (results_cell_row (p:=2) rfl _ _ (w.heap.size+1) 23 #[.int .i64 f.ver.a,.int .i64 f.ver.b,.int .i64 f.ver.c] (0,0) _ rfl HH.out Tryz.underlying23 rfl CQ) rfl ?_;exact⟨by rw[oU.out],HBB.out⟩
theorem AV{p:Prop}(h:p:=by
 refine zq 18 (.bool false) rfl ?_;refine zq 19 (.bool true) rfl ?_;refine zq 20 (.bool true) rfl ?_;refine zq 21 (.bool true) rfl ?_;try simp only[zn]
 refine wpAnyH_take (i:=22) (v:=.agg C) rfl CQ CQ CQ (fun _ _ _ h=>h) (yF CQ (x:=.tmp 9) rfl rfl pK.out (fun W hW=>aC hW tE.out)) hS ?_;try simp only[zn]
 refine zr 23 rfl (fun K hK=>?_);try simp only[z1,z2,z3]
 go_simp;have iM:=nV;refine(tG.out _ (aA qU.out iM)).mono ?_;rintro e c4 ⟨rfl,jT⟩;have oJ:=aA iM jT;clear iM jT;refine hK.out _ _ oJ (fun hS=>?_);clear hK K;refine zq 24 (.bool true) rfl ?_;refine zq 25 (.bool true) rfl ?_;refine zu 26 rfl ?_;refine zu 28 rfl ?_;refine zu 27 rfl ?_;refine zu 29 rfl ?_;refine zu 30 rfl ?_;refine zq 31 (.bool true) rfl ?_;refine zq 32 (.bool true) rfl ?_;refine zq 33 (.bool true) rfl ?_;try simp only[zn]
 refine wpAnyH_done CQ ?_ _;go_wp2_with fail;go_ret
 exact⟨rfl,aA qU.out oJ⟩):p:=h
theorem factKeys_any(f g:Fc)(time:Int){N N':Nat->Prop}{p q:FcP}(w:World)(hG:bC w)(hE:ErrV w)(hf:FcV N w f p)(hg:FcV N' w g q)(ht:aO time):
  Calls Tryz.prog 3 #[.agg (fcC f p).toArray,.agg (fcC g q).toArray,.int .i64 time] w fun e w'=>e=.returned (.bool true)/\Below w.heap.size w w':=by
 obtain⟨A,HA⟩:∃c:Array Value,Hid (c=(fcC f p).toArray):=⟨_,zh rfl⟩;obtain⟨B,HB⟩:∃c:Array Value,Hid (c=(fcC g q).toArray):=⟨_,zh rfl⟩;obtain⟨C,HC⟩:∃c:Array Value,Hid (c=(fcC {f with time:=time} p).toArray):=⟨_,zh rfl⟩;have kA:Hid (A.size=29):=zh CW;have xY:Hid (B.size=29):=zh (by rw[HB.out];rfl);have pK:Hid (C.size=29):=zh (by rw[HC.out];rfl);have rR:Hid (A.all (fun x=>x.oneCell')=true):=zh (by rw[HA.out];exact gZ hf);have qT:Hid (A.setIfInBounds 28 (.int .i64 time)=C):=zh (by rw[HA.out,HC.out];rfl);have HA28:Hid (A[28]? =some (.int .i64 f.time)):=zh CW;rw[<-HA.out,<-HB.out];have pL:Hid (∀W,Below w.heap.size w W->Calls Tryz.prog 7 #[] W fun e w'=>e=.returned (.bool true)/\Below W.heap.size W w'):=zh (fun W hb=>small24_any W (hG.later hb) (hE.later hb));have HFf:Hid (∀W,Below w.heap.size w W->Calls Tryz.prog 8 #[.agg A] W fun e w'=>SayB (f.rel.feats.length<=14) e/\Below W.heap.size W w'):=zh (fun W hb=>by rw[HA.out];exact few24_any f W (hf.later hb));have HFg:Hid (∀W,Below w.heap.size w W->Calls Tryz.prog 8 #[.agg B] W fun e w'=>SayB (g.rel.feats.length<=14) e/\Below W.heap.size W w'):=zh (fun W hb=>by rw[HB.out];exact few24_any g W (hg.later hb));have HRf:Hid (f.rel.feats.length<=14->∀W,Below w.heap.size w W->Calls Tryz.prog 9 #[.agg A] W fun e w'=>e=.returned (.bool (aJ f))/\Below W.heap.size W w'):=zh (fun hz W hb=>FJ);have uR:Hid (g.rel.feats.length<=14->∀W,Below w.heap.size w W->Calls Tryz.prog 9 #[.agg B] W fun e w'=>e=.returned (.bool (aJ g))/\Below W.heap.size W w'):=zh (fun hz W hb=>by rw[HB.out];exact bU g W (hG.later hb) (hg.later hb) CR);have hfc:FcV N w {f with time:=time} p:=⟨hf.name,hf.rel,hf.adv,hf.keys⟩;have HRc:Hid (f.rel.feats.length<=14->∀W,Below w.heap.size w W->Calls Tryz.prog 9 #[.agg C] W fun e w'=>e=.returned (.bool (aJ {f with time:=time}))/\Below W.heap.size W w'):=zh (fun hz W hb=>by rw[HC.out];exact bU {f with time:=time} W (hG.later hb) (hfc.later hb) (by show f.rel.feats.length<=_;omega));have HKf:Hid (f.rel.feats.length<=14->aJ f=true->∀W,Below w.heap.size w W->Calls Tryz.prog 13 #[.agg A] W fun e w'=>e=.returned (.string (bM f))/\Below W.heap.size W w'):=zh (fun hz ho W hb=>by rw[HA.out];exact key_any f W (hG.later hb) (hf.later hb) CR ho);have HKg:Hid (g.rel.feats.length<=14->aJ g=true->∀W,Below w.heap.size w W->Calls Tryz.prog 13 #[.agg B] W fun e w'=>e=.returned (.string (bM g))/\Below W.heap.size W w'):=zh (fun hz ho W hb=>by rw[HB.out];exact key_any g W (hG.later hb) (hg.later hb) CR ho);have HKc:Hid (f.rel.feats.length<=14->aJ f=true->aJ {f with time:=time}=true->∀W,Below w.heap.size w W->Calls Tryz.prog 13 #[.agg C] W fun e w'=>e=.returned (.string (bM f))/\Below W.heap.size W w'):=zh (fun hz h0 ho W hb=>by have h9:=key_any {f with time:=time} (p:=p) W (hG.later hb) (hfc.later hb) (by show f.rel.feats.length<=_;omega) ho;rw[key_time h0 time ho] at h9;rw[HC.out];exact h9);have HGf:Hid (∀W,Below w.heap.size w W->Calls Tryz.prog 10 #[.agg A] W fun e w'=>e=.returned (.int .i64 (eN f))/\Below W.heap.size W w'):=zh (fun W hb=>by rw[HA.out];exact group_any f p W);have HGg:Hid (∀W,Below w.heap.size w W->Calls Tryz.prog 10 #[.agg B] W fun e w'=>e=.returned (.int .i64 (eN g))/\Below W.heap.size W w'):=zh (fun W hb=>by rw[HB.out];exact group_any g q W);have HNf:Hid (∀W,Below w.heap.size w W->Calls Tryz.prog 11 #[.agg A] W fun e w'=>e=.returned (.string (dZ f))/\Below W.heap.size W w'):=zh (fun W hb=>by rw[HA.out];exact name24_any f p W);have HNg:Hid (∀W,Below w.heap.size w W->Calls Tryz.prog 11 #[.agg B] W fun e w'=>e=.returned (.string (dZ g))/\Below W.heap.size W w'):=zh (fun W hb=>by rw[HB.out];exact name24_any g q W);have HVf:Hid (∀W,Below w.heap.size w W->Calls Tryz.prog 12 #[.agg A] W fun e w'=>e=.returned (.agg #[.int .i64 (fJ f).a,.int .i64 (fJ f).b,.int .i64 (fJ f).c])/\Below W.heap.size W w'):=zh (fun W hb=>by rw[HA.out];exact number24_any f p W);have HVg:Hid (∀W,Below w.heap.size w W->Calls Tryz.prog 12 #[.agg B] W fun e w'=>e=.returned (.agg #[.int .i64 (fJ g).a,.int .i64 (fJ g).b,.int .i64 (fJ g).c])/\Below W.heap.size W w'):=zh (fun W hb=>by rw[HB.out];exact number24_any g q W);have HLaw:Hid (aJ f=true->aJ g=true->((bM f).toList==(bM g).toList)=(decide (eN f=eN g)&&decide (dZ f=dZ g)&&decide (fJ f=fJ g))):=zh (fun h1 h2=>by rw[dR,Bool.eq_iff_iff];simp only[Bool.and_eq_true,decide_eq_true_eq];rw[key_law h1 h2,and_assoc]);have HTm:Hid (aJ f=true->aJ {f with time:=time}=(decide (0<=time)&&decide (time<=1073741824))):=zh (fun h=>right_time h time);clear hG hE hf hg hfc HA HB HC;have iN:=zh (aC (aB (w.alloc (.cells A 37)) (.cells B 37)) (bY w (.cells A 37)));have jE:=bY (w.alloc (.cells A 37)) (.cells B 37);rw[show(w.alloc (.cells A 37)).heap.size=w.heap.size+1 by simp] at jE;have jI:=zh jE;clear jE;have jD:=zh (aA (aB w (.cells A 37)) (aB (w.alloc (.cells A 37)) (.cells B 37)));go_enter Tryz.func3,Tryz.ntmps3
 go_upto_region 1 with(fail)
 generalize (w.alloc (.cells A 37)).alloc (.cells B 37)=W0 at *;go_wp2_with fail;go_at_call 7;refine(pL.out _ jD.out).mono ?_;rintro e w1 ⟨rfl,hb⟩;have jL:=zh (aA jD.out hb);have jK:=zh (aC hb iN.out);clear iN;have iN:=zh jK.out;clear jK;have jE:=zh (aC hb jI.out);clear jI;have jI:=zh jE.out;clear jE;clear hb;go_wp2_with(first|(refine aN (x:=.tmp 3) rfl CQ w.heap.size rfl A iN.out kA.out ?_)|(refine aN (x:=.tmp 4) rfl CQ (w.heap.size+1) rfl B jI.out xY.out ?_));go_at_call 8;refine(HFf.out _ jL.out).mono ?_;rintro e w2 ⟨⟨bf,rfl,hbf⟩,hb⟩;have HFf2:=zh hbf;clear hbf;have jF:=zh (aA jL.out hb);have jK:=zh (aC hb iN.out);clear iN;have iN:=zh jK.out;clear jK;have jE:=zh (aC hb jI.out);clear jI;have jI:=zh jE.out;clear jE;clear hb
 cases bf with
 |false=>
  go_wp2_with fail;go_ret;exact⟨rfl,jF.out⟩
 |true=>
  go_wp2_with(first|(refine aN (x:=.tmp 3) rfl CQ w.heap.size rfl A iN.out kA.out ?_)|(refine aN (x:=.tmp 4) rfl CQ (w.heap.size+1) rfl B jI.out xY.out ?_));go_at_call 8;refine(HFg.out _ jF.out).mono ?_;rintro e w3 ⟨⟨bg,rfl,hbg⟩,hb⟩;have HFg2:=zh hbg;clear hbg;have kH:=zh (aA jF.out hb);have jK:=zh (aC hb iN.out);clear iN;have iN:=zh jK.out;clear jK;have jE:=zh (aC hb jI.out);clear jI;have jI:=zh jE.out;clear jE;clear hb
  cases bg with
  |false=>
   go_wp2_with fail;go_ret;exact⟨rfl,kH.out⟩
  |true=>
   have yR:=HFf2.out (by first|rfl|trivial);have hzg:=HFg2.out (by first|rfl|trivial);go_wp2_with(first|(refine aN (x:=.tmp 3) rfl CQ w.heap.size rfl A iN.out kA.out ?_)|(refine aN (x:=.tmp 4) rfl CQ (w.heap.size+1) rfl B jI.out xY.out ?_));go_at_call 9;refine(HRf.out yR _ kH.out).mono ?_;rintro e w4 ⟨rfl,hb⟩;have oZ:=zh (aA kH.out hb);have jK:=zh (aC hb iN.out);clear iN;have iN:=zh jK.out;clear jK;have jE:=zh (aC hb jI.out);clear jI;have jI:=zh jE.out;clear jE;clear hb
   cases of_:aJ f with
   |false=>
    go_wp2_with fail;go_ret;exact⟨rfl,oZ.out⟩
   |true=>
    go_wp2_with(first|(refine aN (x:=.tmp 3) rfl CQ w.heap.size rfl A iN.out kA.out ?_)|(refine aN (x:=.tmp 4) rfl CQ (w.heap.size+1) rfl B jI.out xY.out ?_));go_at_call 9;refine(uR.out hzg _ oZ.out).mono ?_;rintro e w5 ⟨rfl,hb⟩;have oG:=zh (aA oZ.out hb);have jK:=zh (aC hb iN.out);clear iN;have iN:=zh jK.out;clear jK;have jE:=zh (aC hb jI.out);clear jI;have jI:=zh jE.out;clear jE;clear hb
    cases og:aJ g with
    |false=>
     skip;go_wp2_with fail;go_ret;exact⟨rfl,oG.out⟩
    |true=>
     have HKK:=zh (HLaw.out of_ og);have HTT:=zh (HTm.out of_);have HKf2:=zh (HKf.out yR of_);have HKg2:=zh (HKg.out hzg og);have tG:=zh (HRc.out yR);have HKc2:=zh (HKc.out yR of_);clear HLaw HTm HKf HKg HRc HKc HRf uR HFf HFg HFf2 HFg2 pL;generalize aJ {f with time:=time}=rt at *;generalize bM f=kf at *;generalize bM g=kg at *;generalize hsm:(decide (eN f=eN g)&&decide (dZ f=dZ g)&&decide (fJ f=fJ g))=sm at *;have HSM:=zh hsm;clear hsm;generalize eN f=gf at *;generalize eN g=gg at *;generalize dZ f=nf at *;generalize dZ g=ng at *;generalize fJ f=vf at *;generalize fJ g=vg at *;have nD:=fun W=>eqVer vf vg W
     go_upto_region 4 with(fail)
     go_cut [8] from 30 to 48 (fun sv wx=>sv=.bool sm/\Hid (Below w5.heap.size w5 wx))
     case first=>
      skip;refine wp_region_held_drew (S:=fun W=>Below w5.heap.size w5 W) CQ (aL w5) fun hS=>?_;refine wpAnyH_take (i:=0) (v:=.agg A) rfl CQ CQ CQ (fun _ _ _ h=>h) (yF CQ (x:=.tmp 3) rfl rfl kA.out (fun W hW=>aC hW iN.out)) hS ?_;(try simp only[zn]);refine wpAnyH_take (i:=2) (v:=.agg B) rfl CQ CQ CQ (fun _ _ _ h=>h) (yF CQ (x:=.tmp 4) rfl rfl xY.out (fun W hW=>aC hW jI.out)) hS ?_;(try simp only[zn]);refine zr 1 rfl (fun K hK=>?_);(try simp only[z1,z2,z3]);go_simp;have iM:=(aL w5);refine(HGf.out _ (aA oG.out iM)).mono ?_;rintro e c1 ⟨rfl,jT⟩;have jH:=aA iM jT;clear iM jT;refine hK.out _ _ jH (fun hS=>?_);clear hK K;(try simp only[zn]);refine zr 3 rfl (fun K hK=>?_);(try simp only[z1,z2,z3]);go_simp;have iM:=jH;refine(HGg.out _ (aA oG.out iM)).mono ?_;rintro e c2 ⟨rfl,jT⟩;have mG:=aA iM jT;clear iM jT;refine hK.out _ _ mG (fun hS=>?_);clear hK K;(try simp only[zn]);by_cases h1:gf=gg
      ·subst h1;refine zq 4 (.bool true) rfl ?_;refine zq 5 (.bool true) rfl ?_;(try simp only[zn]);refine wpAnyH_take (i:=6) (v:=.agg A) rfl CQ CQ CQ (fun _ _ _ h=>h) (yF CQ (x:=.tmp 3) rfl rfl kA.out (fun W hW=>aC hW iN.out)) hS ?_;(try simp only[zn]);refine wpAnyH_take (i:=8) (v:=.agg B) rfl CQ CQ CQ (fun _ _ _ h=>h) (yF CQ (x:=.tmp 4) rfl rfl xY.out (fun W hW=>aC hW jI.out)) hS ?_;(try simp only[zn]);refine zr 7 rfl (fun K hK=>?_);(try simp only[z1,z2,z3]);go_simp;have iM:=mG;refine(HNf.out _ (aA oG.out iM)).mono ?_;rintro e c3 ⟨rfl,jT⟩;have nV:=aA iM jT;clear iM jT;refine hK.out _ _ nV (fun hS=>?_);clear hK K;(try simp only[zn]);refine zr 9 rfl (fun K hK=>?_);(try simp only[z1,z2,z3]);go_simp;have iM:=nV;refine(HNg.out _ (aA oG.out iM)).mono ?_;rintro e c4 ⟨rfl,jT⟩;have oJ:=aA iM jT;clear iM jT;refine hK.out _ _ oJ (fun hS=>?_);clear hK K;(try simp only[zn]);by_cases h2:nf=ng
       ·(have g2:(nf.toList==ng.toList)=true:=by rw[dR];exact decide_eq_true h2);have nX:=zh h2;clear h2;refine zq 10 (.bool true) rfl ?_;refine zq 11 (.bool true) rfl ?_;refine zq 12 (.bool true) rfl ?_;(try simp only[zn]);refine wpAnyH_take (i:=13) (v:=.agg A) rfl CQ CQ CQ (fun _ _ _ h=>h) (yF CQ (x:=.tmp 3) rfl rfl kA.out (fun W hW=>aC hW iN.out)) hS ?_;(try simp only[zn]);refine wpAnyH_take (i:=15) (v:=.agg B) rfl CQ CQ CQ (fun _ _ _ h=>h) (yF CQ (x:=.tmp 4) rfl rfl xY.out (fun W hW=>aC hW jI.out)) hS ?_;(try simp only[zn]);refine zr 14 rfl (fun K hK=>?_);(try simp only[z1,z2,z3]);go_simp;have iM:=oJ;refine(HVf.out _ (aA oG.out iM)).mono ?_;rintro e c5 ⟨rfl,jT⟩;have xT:=aA iM jT;clear iM jT;refine hK.out _ _ xT (fun hS=>?_);clear hK K;(try simp only[zn]);refine zr 16 rfl (fun K hK=>?_);(try simp only[z1,z2,z3]);go_simp;have iM:=xT;refine(HVg.out _ (aA oG.out iM)).mono ?_;rintro e c6 ⟨rfl,jT⟩;have hc6:=aA iM jT;clear iM jT;refine hK.out _ _ hc6 (fun hS=>?_);clear hK K;refine zq 17 (.bool (decide (vf=vg))) rfl ?_;refine zq 18 (.bool (decide (vf=vg))) rfl ?_;refine zq 19 (.bool (decide (vf=vg))) rfl ?_;(try simp only[zn]);refine wpAnyH_done CQ ?_ _;go_wp2_with fail
        go_meet
        exact⟨by rw[<-HSM.out,decide_eq_true nX.out];simp,zh hc6⟩
       have g2:(nf.toList==ng.toList)=false:=cO h2;refine zq 10 (.bool false) rfl ?_;refine zq 11 (.bool false) rfl ?_;refine zq 12 (.bool false) rfl ?_;refine zu 13 rfl ?_;refine zu 15 rfl ?_;refine zu 14 rfl ?_;refine zu 16 rfl ?_;refine zu 17 rfl ?_;refine zq 18 (.bool false) rfl ?_;refine zq 19 (.bool false) rfl ?_;(try simp only[zn]);refine wpAnyH_done CQ ?_ _;go_wp2_with fail
       go_meet
       exact⟨by rw[<-HSM.out];simp[h2],zh oJ⟩
      have g1:(gf==gg)=false:=beq_eq_false_iff_ne.2 h1;refine zq 4 (.bool false) rfl ?_;refine zq 5 (.bool false) rfl ?_;refine zu 6 rfl ?_;refine zu 8 rfl ?_;refine zu 7 rfl ?_;refine zu 9 rfl ?_;refine zu 10 rfl ?_;refine zq 11 (.bool false) rfl ?_;refine zq 12 (.bool false) rfl ?_;refine zu 13 rfl ?_;refine zu 15 rfl ?_;refine zu 14 rfl ?_;refine zu 16 rfl ?_;refine zu 17 rfl ?_;refine zq 18 (.bool false) rfl ?_;refine zq 19 (.bool false) rfl ?_;(try simp only[zn]);refine wpAnyH_done CQ ?_ _;go_wp2_with fail
      go_meet
      exact⟨by rw[<-HSM.out];simp[h1],zh mG⟩
     case rest=>
      obtain⟨rfl,hd⟩:=hcut;(rename World=>w6);have rD:=zh (aA oG.out hd.out);have jK:=zh (aC hd.out iN.out);have jE:=zh (aC hd.out jI.out);clear iN jI nD HGf HGg HNf HNg HVf HVg HSM;have iN:=zh jK.out;have jI:=zh jE.out;clear jK jE hd;have nQ:=zh (bY w6 (.cells aI 37));have nW:Below w6.heap.size w6 ((w6.alloc (.cells aI 37)).setRow w6.heap.size A):=below_setRow (aB w6 _) (Nat.le_refl _) _;have lD:Hid (((w6.alloc (.cells aI 37)).setRow w6.heap.size A).heap[w6.heap.size]? =some (.cells A 37)):=zh (setRow_heap _ _ _ _ _ _ nQ.out);have tE:Hid ((((w6.alloc (.cells aI 37)).setRow w6.heap.size A).setCell ⟨w6.heap.size,28,none⟩ (.int .i64 time)).heap[w6.heap.size]? =some (.cells C 37)):=zh ((aG lD.out 28 _).trans (by rw[qT.out]));have wN:Below w6.heap.size w6 (((w6.alloc (.cells aI 37)).setRow w6.heap.size A).setCell ⟨w6.heap.size,28,none⟩ (.int .i64 time)):=nW.setCell (p:=⟨w6.heap.size,28,none⟩) (Nat.le_refl _) _;have jK:=zh (aC wN iN.out);have jE:=zh (aC wN jI.out);have qU:=zh (aA rD.out wN);have x28:=cfA lD.out HA28.out;have z28:=cfZ lD.out HA28.out
      go_upto_region 7 with(first|(refine aN (x:=.tmp 3) rfl CQ w.heap.size rfl A iN.out kA.out ?_)|(refine Go.Great.wpList_allocTo rfl (some 9) rfl (.pointer (some ⟨w6.heap.size,0,none⟩)) (.cells aI 37) ?ha ?_;(case ha=>exact eM rfl _ _ rfl))|(refine wpList_store_rowTo rfl 37 (.tmp 9) (.tmp 49) rfl rfl w6.heap.size A rfl rfl 37 aI ?hg DU EG rR.out ?_;(case hg=>exact nQ.out)))
      (try simp only[zn]);clear nQ nW wN iN jI lD x28 z28;generalize (((w6.alloc (.cells aI 37)).setRow w6.heap.size A).setCell ⟨w6.heap.size,28,none⟩ (.int .i64 time))=w7 at *;have iN:=zh jK.out;have jI:=zh jE.out;clear jK jE;obtain⟨b9,nW⟩:∃n,n=w6.heap.size:=⟨_,rfl⟩;rw[<-nW] at tE ⊢;clear nW;have tQ:=HKK.out;refine wp_region_held_drew (S:=fun W=>Below w7.heap.size w7 W) CQ (aL w7) fun hS=>?_;refine zq 0 (.bool true) rfl ?_;refine zq 1 (.bool true) rfl ?_;(try simp only[zn]);refine wpAnyH_take (i:=2) (v:=.agg A) rfl CQ CQ CQ (fun _ _ _ h=>h) (yF CQ (x:=.tmp 3) rfl rfl kA.out (fun W hW=>aC hW iN.out)) hS ?_;(try simp only[zn]);refine wpAnyH_take (i:=4) (v:=.agg B) rfl CQ CQ CQ (fun _ _ _ h=>h) (yF CQ (x:=.tmp 4) rfl rfl xY.out (fun W hW=>aC hW jI.out)) hS ?_;refine zq 7 (.bool sm) rfl ?_;(try simp only[zn]);refine zr 3 rfl (fun K hK=>?_);(try simp only[z1,z2,z3]);go_simp;have iM:=(aL w7);refine(HKf2.out _ (aA qU.out iM)).mono ?_;rintro e c1 ⟨rfl,jT⟩;have jH:=aA iM jT;clear iM jT;refine hK.out _ _ jH (fun hS=>?_);clear hK K;(try simp only[zn]);refine zr 5 rfl (fun K hK=>?_);(try simp only[z1,z2,z3]);go_simp;have iM:=jH;refine(HKg2.out _ (aA qU.out iM)).mono ?_;rintro e c2 ⟨rfl,jT⟩;have mG:=aA iM jT;clear iM jT;refine hK.out _ _ mG (fun hS=>?_);clear hK K;refine zq 6 (.bool sm) rfl ?_;refine zq 8 (.bool true) rfl ?_;refine zq 9 (.bool true) rfl ?_;refine zq 10 (.bool true) rfl ?_;(try simp only[zn]);refine wpAnyH_take (i:=11) (v:=.agg C) rfl CQ CQ CQ (fun _ _ _ h=>h) (yF CQ (x:=.tmp 9) rfl rfl pK.out (fun W hW=>aC hW tE.out)) hS ?_;refine zq 13 (.int .i64 time) rfl ?_;(try simp only[zn]);by_cases ht0:0<=time
      ·by_cases pI:time<=1073741824
       ·(have hrt:rt=true:=by rw[HTT.out,decide_eq_true ht0,decide_eq_true pI];rfl);subst hrt;have HKc3:=zh (HKc2.out rfl);have gt0:decide (0<=time)=true:=decide_eq_true ht0;have gt1:decide (time<=1073741824)=true:=decide_eq_true pI;refine zq 14 (.bool true) rfl ?_;(try simp only[zn]);refine zr 12 rfl (fun K hK=>?_);(try simp only[z1,z2,z3]);go_simp;have iM:=mG;refine(tG.out _ (aA qU.out iM)).mono ?_;rintro e c3 ⟨rfl,jT⟩;have nV:=aA iM jT;clear iM jT;refine hK.out _ _ nV (fun hS=>?_);clear hK K;refine zq 15 (.bool true) rfl ?_;refine zq 16 (.int .i64 time) rfl ?_;refine zq 17 (.bool true) rfl ?_;refine zq 18 (.bool true) rfl ?_;refine zq 19 (.bool true) rfl ?_;refine zq 20 (.bool true) rfl ?_;refine zq 21 (.bool true) rfl ?_;(try simp only[zn]);refine wpAnyH_take (i:=22) (v:=.agg C) rfl CQ CQ CQ (fun _ _ _ h=>h) (yF CQ (x:=.tmp 9) rfl rfl pK.out (fun W hW=>aC hW tE.out)) hS ?_;(try simp only[zn]);refine zr 23 rfl (fun K hK=>?_);(try simp only[z1,z2,z3]);go_simp;have iM:=nV;refine(tG.out _ (aA qU.out iM)).mono ?_;rintro e c4 ⟨rfl,jT⟩;have oJ:=aA iM jT;clear iM jT;refine hK.out _ _ oJ (fun hS=>?_);clear hK K;refine zq 24 (.bool false) rfl ?_;refine zq 25 (.bool false) rfl ?_;(try simp only[zn]);refine wpAnyH_take (i:=26) (v:=.agg C) rfl CQ CQ CQ (fun _ _ _ h=>h) (yF CQ (x:=.tmp 9) rfl rfl pK.out (fun W hW=>aC hW tE.out)) hS ?_;(try simp only[zn]);refine wpAnyH_take (i:=28) (v:=.agg A) rfl CQ CQ CQ (fun _ _ _ h=>h) (yF CQ (x:=.tmp 3) rfl rfl kA.out (fun W hW=>aC hW iN.out)) hS ?_;(try simp only[zn]);refine zr 27 rfl (fun K hK=>?_);(try simp only[z1,z2,z3]);go_simp;have iM:=oJ;refine(HKc3.out _ (aA qU.out iM)).mono ?_;rintro e c5 ⟨rfl,jT⟩;have xT:=aA iM jT;clear iM jT;refine hK.out _ _ xT (fun hS=>?_);clear hK K;(try simp only[zn]);refine zr 29 rfl (fun K hK=>?_);(try simp only[z1,z2,z3]);go_simp;have iM:=xT;refine(HKf2.out _ (aA qU.out iM)).mono ?_;rintro e c6 ⟨rfl,jT⟩;have hc6:=aA iM jT;clear iM jT;refine hK.out _ _ hc6 (fun hS=>?_);clear hK K;refine zq 30 (.bool true) rfl ?_;refine zq 31 (.bool true) rfl ?_;refine zq 32 (.bool true) rfl ?_;refine zq 33 (.bool true) rfl ?_;(try simp only[zn]);refine wpAnyH_done CQ ?_ _;go_wp2_with fail;go_ret;exact⟨rfl,aA qU.out hc6⟩
       (have hrt:rt=false:=by rw[HTT.out,decide_eq_false pI];simp);have gt0:decide (0<=time)=true:=decide_eq_true ht0;have gt1:decide (time<=1073741824)=false:=decide_eq_false pI;clear pI;subst hrt;refine zq 14 (.bool true) rfl ?_;(try simp only[zn]);refine zr 12 rfl (fun K hK=>?_);(try simp only[z1,z2,z3]);go_simp;have iM:=mG;refine(tG.out _ (aA qU.out iM)).mono ?_;rintro e c3 ⟨rfl,jT⟩;have nV:=aA iM jT;clear iM jT;refine hK.out _ _ nV (fun hS=>?_);clear hK K;refine zq 15 (.bool true) rfl ?_;refine zq 16 (.int .i64 time) rfl ?_;refine zq 17 (.bool false) rfl ?_;exact AV
      (have hrt:rt=false:=by rw[HTT.out,decide_eq_false ht0];rfl);have gt0:decide (0<=time)=false:=decide_eq_false ht0;clear ht0;subst hrt;refine zq 14 (.bool false) rfl ?_;(try simp only[zn]);refine zr 12 rfl (fun K hK=>?_);(try simp only[z1,z2,z3]);go_simp;have iM:=mG;refine(tG.out _ (aA qU.out iM)).mono ?_;rintro e c3 ⟨rfl,jT⟩;have nV:=aA iM jT;clear iM jT;refine hK.out _ _ nV (fun hS=>?_);clear hK K;refine zq 15 (.bool false) rfl ?_;refine zu 16 rfl ?_;refine zu 17 rfl ?_;exact AV
theorem CL{p:Prop}(h:p:=by
 go_wp2_with fail;go_roundw;case rel=>exact⟨k+1,CR,C5,trivial⟩
 case measure=>simp[intOf];omega):p:=h
theorem below_dQ{B:Nat}{a b:World}(h:Below B a b)(n:Nat):Below B a (b.drewN n):=⟨h.os,h.tape,h.output,h.size,h.block⟩
theorem range_later{w w':World}{b o:Nat}{cs:List Value}(hb:Below w.heap.size w w')(h:w.rangeAt b o cs):w'.rangeAt b o cs:=fun j u hu=>aD hb (h j u hu)
theorem key_from:∀(l:List Int)(before:Option Int),bK before l=true->∀k x,l[k]? =some x->0<=x/\x<200/\(∀y,(if k=0 then before else l[k-1]?)=some y->y<x)
 |[],_,_,k,x,hx=>by simp at hx
 |a::r,before,h,k,x,hx=>by
  unfold bK at h;simp only[Bool.and_eq_true,decide_eq_true_eq] at h
  cases k with
  |zero=>
   simp at hx;subst hx;refine⟨h.1.1.1,h.1.1.2,fun y hy=>?_⟩;rw[if_pos rfl] at hy;have h3:=h.1.2;rw[hy] at h3;simpa using h3
  |succ k=>
   obtain⟨i1,i2,i3⟩:=key_from r (some a) h.2 k x (by simpa using hx);refine⟨i1,i2,fun y hy=>?_⟩;rw[if_neg CR] at hy
   cases k with
   |zero=>exact i3 y ED
   |succ k=>exact i3 y (by rw[if_neg CR];simpa using hy)
theorem kset_any(l:List Int)(n:Int){N:Nat->Prop}{vk:Value}(w:World)(hr:aK 1 cQ N w vk l)(hk:bK none l=true)(h12:l.length<=12)(h1:1<=n)(h2:n<=l.length):
  Calls Tryz.prog 65 #[vk,.int .i64 n] w fun e w'=>e=.returned (.bool true)/\Below w.heap.size w w':=by
 obtain⟨ka,kc,rfl,w3,w4,HK0⟩:=hr.ints;have HK:=zh HK0;have HA:=zh (Below.refl w.heap.size w);have HF:=zh (key_from l none hk);have m1:(l.length:Int)<=12:=CR;clear HK0 hr hk h12;go_enter Tryz.func65,Tryz.ntmps65;go_wp2_with fail;go_loopw [22] (fun iv wr=>∃k:Nat,k<=l.length/\iv=.int .i64 (k:Int)/\wr=w) (fun iv _=>l.length-(intOf iv).toNat)
 case atStart=>exact⟨0,Nat.zero_le _,rfl,rfl⟩
 case round=>
  obtain⟨k,hk,rfl,rfl⟩:=hrel;by_cases jM:k<l.length
  ·obtain⟨x,hx,-⟩:=getElem?_of_lt jM;have nN:(0:Int)<=(k:Int)/\(k:Int)<(l.length:Int):=CR;obtain⟨b,o,wP,uA⟩:=HK.out EM;subst wP
   have hj:∀i y,l[i]? =some y->wr.cell? ⟨b,o+i,none⟩=some (.int .i64 y):=fun i y hy=>by
    exact CO
   clear uA;have c1:=hj k x hx;obtain⟨n1,n2,n3⟩:=HF.out k x hx;by_cases hz:k=0
   ·have hkp:¬(0:Int)<(k:Int):=CR;clear hj hx hz n3;exact CL
   obtain⟨y,hy,-⟩:=getElem?_of_lt (show k-1<l.length by omega);have hyx:=n3 y (by rw[if_neg hz];exact hy);have c3:=hj (k-1) y hy;have qH:(0:Int)<=(k:Int)-1/\(k:Int)-1<(l.length:Int):=CR;have hkp:(0:Int)<(k:Int):=CR;have rJ:IntKind.i64.wrap ((k:Int)-1)=(k:Int)-1:=bN CR CR;have hkn:((k:Int)-1).toNat=k-1:=CR;clear hj hx hy n3;exact CL
  go_wp2_with fail;go_ret;exact⟨rfl,HA.out⟩
theorem ksign_none(a:Option Addr)(m c:Nat)(n:Int)(w:World)(h1:1<=n):
  Calls Tryz.prog 66 #[.slice none 0 0,.slice a m c,.int .i64 n] w fun e w'=>e=.returned (.bool false)/\Below w.heap.size w w':=by
 have HA:=zh (Below.refl w.heap.size w);have hn:¬n<=0:=CR;go_enter Tryz.func66,Tryz.ntmps66;go_wp2_with fail;go_loopw [7,12] (fun lv iv wr=>lv=.slice none 0 0/\iv=.int .i64 0/\wr=w) (fun _ _ _=>0)
 case atStart=>exact⟨rfl,rfl,rfl⟩
 case round=>
  obtain⟨rfl,rfl,rfl⟩:=hrel;go_wp2_with fail;go_ret;exact⟨aF (decide_eq_false CR),HA.out⟩
theorem klast_none(fv:Value)(w:World):
  Calls Tryz.prog 118 #[.slice none 0 0,fv] w fun e w'=>e=.returned (.int .i64 (-1))/\Below w.heap.size w w':=by
 have HA:=zh (Below.refl w.heap.size w);have rJ:IntKind.i64.wrap ((0:Int)-1)= -1:=CX;go_enter Tryz.func118,Tryz.ntmps118;go_wp2_with fail;go_loopw [5] (fun iv wr=>iv=.int .i64 (-1)/\wr=w) (fun _ _=>0)
 case atStart=>exact⟨rfl,rfl⟩
 case round=>
  obtain⟨rfl,rfl⟩:=hrel;go_wp2_with fail;go_ret;exact⟨rfl,HA.out⟩
theorem kowner_none(s:bA)(w:World):
  Calls Tryz.prog 67 #[.slice none 0 0,.string s] w fun e w'=>e=.returned (.tuple #[.slice none 0 0,.int .i64 0,.bool false])/\Below w.heap.size w w':=by
 have jD:=zh (aB w (.cells #[.string s] 9));have HL:=zh (fun fv=>klast_none fv (w.alloc (.cells #[.string s] 9)));go_enter Tryz.func67,Tryz.ntmps67
 go_upto_region 1 with(fail)
 generalize w.alloc (.cells #[.string s] 9)=W0 at *;go_wp2_with fail;go_at_call 118;refine(HL.out _).mono ?_;rintro e w1 ⟨rfl,hb⟩;have jL:=zh (aA jD.out hb);clear hb;go_wp2_with fail
 go_ret3
 exact⟨rfl,jL.out⟩
theorem kname_any(f:Fc)(p:FcP)(w:World):Calls Tryz.prog 68 #[.agg (fcC f p).toArray] w fun e w'=>e=.returned (.string (dZ f))/\Below w.heap.size w w':=by
 obtain⟨A,HA⟩:∃c:Array Value,Hid (c=(fcC f p).toArray):=⟨_,zh rfl⟩;have kA:Hid (A.size=29):=zh CW;rw[<-HA.out];have nK:Hid (A[0]? =some (.int .i64 f.kind)):=zh CW;have pP:Hid (A[1]? =some (.string f.name)):=zh CW;have AG:Hid (A[5]? =some (.string f.rel.name)):=zh CW;have uV:Hid (A[15]? =some (.string f.adv.name)):=zh CW;have HX:=zh (bY w (.cells A 37));have jD:=zh (aB w (.cells A 37));have HE:Hid (dZ f=if f.kind=0 then f.rel.name else if f.kind=3 then f.adv.name else f.name):=zh rfl;go_enter Tryz.func68,Tryz.ntmps68
 go_upto_region 1 with(fail)
 exact AZ
def mayF(k:Int):Int:=if k=3\/k=7 then 22 else if k=5 then 23 else 24
theorem may_none(f:Fc){N:Nat->Prop}(p:FcP)(w:World)(hf:FcV N w f p)(ho:aJ f=true):
  Calls Tryz.prog 27 #[.slice none 0 0,.slice none 0 0,.agg (fcC f p).toArray,.slice none 0 0] w fun e w'=>e=.returned (.int .i64 (mayF f.kind))/\Below w.heap.size w w':=by
 obtain⟨A,HA⟩:∃c:Array Value,Hid (c=(fcC f p).toArray):=⟨_,zh rfl⟩;have kA:Hid (A.size=29):=zh CW;rw[<-HA.out];obtain⟨vk,hvk⟩:∃v,v=p.vk:=⟨_,rfl⟩;have hkr:aK 1 cQ N w vk f.keys:=by rw[hvk];exact hf.keys
 have nK:Hid (A[0]? =some (.int .i64 f.kind)):=zh CW;have pX:Hid (A[24]? =some vk):=zh (by rw[HA.out,hvk];rfl);have qN:Hid (A[25]? =some (.int .i64 f.need)):=zh CW;have HX:=zh (bY w (.cells A 37));have jD:=zh (aB w (.cells A 37));have vU:=zh (fun W=>kname_any f p W);rw[<-HA.out] at vU;obtain⟨k0,k7⟩:=right_kind ho;have HKs:=zh (right_keys ho);have HM:Hid (mayF f.kind=if f.kind=3\/f.kind=7 then 22 else if f.kind=5 then 23 else 24):=zh rfl;have rA:=zh (fun(h:bL f=true)W(hb:Below w.heap.size w W)=>kset_any f.keys f.need (N:=N) (vk:=vk) W (hkr.moves bH (aM.later hb) CX) (by unfold bL at h;simp only[Bool.and_eq_true,decide_eq_true_eq] at h;exact h.1.1.1) (by unfold bL at h;simp only[Bool.and_eq_true,decide_eq_true_eq] at h;exact h.1.1.2) E1 (by unfold bL at h;simp only[Bool.and_eq_true,decide_eq_true_eq] at h;exact h.2));have AI:Hid (bL f=true->1<=f.need):=zh (fun h=>E1);have w2:aK 1 cQ N w vk f.keys:=hkr;obtain⟨ka,kc,rfl,-,-,-⟩:=w2.ints;have HSg:=zh (fun n(hn:1<=n)a m c W=>ksign_none a m c n W hn);have HOw:=zh (fun s W=>kowner_none s W);clear w2 hkr hvk hf ho HA;go_enter Tryz.func27,Tryz.ntmps27
 go_upto_region 1 with(fail)
 generalize w.alloc (.cells A 37)=W0 at *;have x0:=cfA HX.out nK.out;have x24:=cfA HX.out pX.out;have x25:=cfA HX.out qN.out;generalize tQ:f.kind=k at *;have HK:=zh tQ;clear tQ;have g0:(k==0)=decide (k=0):=rfl;by_cases zS:k=3\/k=7
 ·have vV:Hid (22=mayF f.kind):=zh (by rw[HK.out,HM.out,if_pos zS]);clear HM vU rA HOw HKs AI g0 HK;rcases zS with rfl|rfl
  all_goals
   go_wp2_with fail;go_at_call 66;refine(HSg.out 1 CX _ _ _ _).mono ?_;rintro e w1 ⟨rfl,hb⟩;have jL:=zh (aA jD.out hb);clear hb;go_wp2_with fail;go_ret;exact⟨aQ vV.out,jL.out⟩
 by_cases h5:k=5
 ·have vV:Hid (23=mayF f.kind):=zh (by rw[HK.out,HM.out,if_neg zS,if_pos h5]);have HKt:=HKs.out CR;have uY:=AI.out HKt;have mQ:=zh (rA.out HKt);clear HM rA HKs AI g0 HK zS HKt;subst h5;go_wp2_with fail;go_at_call 65;refine(mQ.out _ jD.out).mono ?_;rintro e w1 ⟨rfl,hb⟩;have iN:=zh (aC hb HX.out);have x0:=cfA iN.out nK.out;have x24:=cfA iN.out pX.out;have x25:=cfA iN.out qN.out;have jL:=zh (aA jD.out hb);clear hb HX;go_wp2_with(refine aN (x:=.tmp 6) rfl CQ w.heap.size rfl A iN.out kA.out ?_);go_at_call 68;refine(vU.out _).mono ?_;rintro e w2 ⟨rfl,hb⟩;have jI:=zh (aC hb iN.out);have jF:=zh (aA jL.out hb);clear hb iN x0 x24 x25;go_wp2_with fail;go_at_call 67;refine(HOw.out _ _).mono ?_;rintro e w3 ⟨rfl,hb⟩;have nP:=zh (aC hb jI.out);have kH:=zh (aA jF.out hb);have x0:=cfA nP.out nK.out;have x24:=cfA nP.out pX.out;have x25:=cfA nP.out qN.out;clear hb jI
  go_upto_region 20 with(fail)
  go_quiet(fail)
  go_wp2_with fail;go_at_call 66;refine(HSg.out _ uY _ _ _ _).mono ?_;rintro e w4 ⟨rfl,hb⟩;have oZ:=zh (aA (below_dQ kH.out _) hb);have sI:=zh (aC hb (nP.out));have x0:=cfA sI.out nK.out;clear hb;go_wp2_with fail;go_ret;exact⟨aQ vV.out,oZ.out⟩
 have vV:Hid (24=mayF f.kind):=zh (by rw[HK.out,HM.out,if_neg zS,if_neg h5]);by_cases h46:k=4\/k=6
 ·have HKt:=HKs.out CR;have mQ:=zh (rA.out HKt);clear HM rA HKs AI g0 HK zS HKt h5;rcases h46 with rfl|rfl
  all_goals
   go_wp2_with fail;go_at_call 65;refine(mQ.out _ jD.out).mono ?_;rintro e w1 ⟨rfl,hb⟩;have iN:=zh (aC hb HX.out);have jL:=zh (aA jD.out hb);clear hb HX x0 x24 x25;go_wp2_with(refine aN (x:=.tmp 6) rfl CQ w.heap.size rfl A iN.out kA.out ?_);go_at_call 68;refine(vU.out _).mono ?_;rintro e w2 ⟨rfl,hb⟩;have jI:=zh (aC hb iN.out);have jF:=zh (aA jL.out hb);clear hb iN;go_wp2_with fail;go_at_call 67;refine(HOw.out _ _).mono ?_;rintro e w3 ⟨rfl,hb⟩;have nP:=zh (aC hb jI.out);have kH:=zh (aA jF.out hb);have x0:=cfA nP.out nK.out;clear hb jI;go_wp2_with fail;go_ret;exact⟨aQ vV.out,kH.out⟩
 have h012:k=0\/k=1\/k=2:=CR;clear HM rA HKs AI g0 HK zS h46 h5;rcases h012 with rfl|rfl|rfl
 all_goals
  go_wp2_with(refine aN (x:=.tmp 6) rfl CQ w.heap.size rfl A HX.out kA.out ?_);go_at_call 68;refine(vU.out _).mono ?_;rintro e w2 ⟨rfl,hb⟩;have jI:=zh (aC hb HX.out);have jF:=zh (aA jD.out hb);clear hb HX x0 x24 x25;go_wp2_with fail;go_at_call 67;refine(HOw.out _ _).mono ?_;rintro e w3 ⟨rfl,hb⟩;have nP:=zh (aC hb jI.out);have kH:=zh (aA jF.out hb);have x0:=cfA nP.out nK.out;clear hb jI;go_wp2_with fail;go_ret;exact⟨aQ vV.out,kH.out⟩
theorem loadFd{ops:Array Oper}{rest:List Oper}{o:Oper}{a:Act}{w:World}{Q:Exit->Act->World->Prop}{n:Nat}(hd:o.dst=some n){x:Operand}(ho:o.op=.load 37 x)(hw:Region.wanted o (yielded ops a.tmps)=true)
  (g:Nat) (hx:a.eval x=.pointer (some ⟨g,0,none⟩)) (cs:Array Value) (hg:w.heap[g]? =some (.cells cs 37)) (mO:cs.size=29)
  (h:wpList Tryz.prog ops Q rest (a.put o.dst (.agg cs)) w):wpList Tryz.prog ops Q (o::rest) a w:=aN ho hw g hx cs hg mO h
theorem may_ok(k:Int):(mayF k==1)=false:=beq_eq_false_iff_ne.2 (by
 unfold mayF;split
 ·decide
 split<;>decide)
theorem chg_feats(m:Int)(f:Fc):(chgF m f).rel.feats=f.rel.feats:=by
 unfold chgF
 repeat' split
 all_goals rfl
theorem chg_same(m:Int)(f:Fc):bQ f (chgF m f)=false:=by
 cases h:bQ f (chgF m f) with
 |false=>rfl
 |true=>exact absurd ((sameFc_iff _ _).1 h) (chg_ne m f)
theorem chg_v(m:Int){f:Fc}{N:Nat->Prop}{w:World}{p:FcP}(hf:FcV N w f p)(ho:aJ f=true):FcV N w (chgF m f) p:=by
 obtain⟨hn,-,-,-,hl,-,-⟩:=right_bounds ho;have e1:xB.size=1:=rfl;unfold chgF
 repeat' split
 ·exact⟨by show(f.name++xB).size<=_;rw[ByteArray.size_append];omega,hf.rel,hf.adv,hf.keys⟩
 ·exact⟨hf.name,hf.rel,hf.adv,hf.keys⟩
 ·exact⟨hf.name,hf.rel,hf.adv,hf.keys⟩
 ·exact⟨hf.name,hf.rel,hf.adv,hf.keys⟩
 ·exact⟨hf.name,⟨hf.rel.name,hf.rel.source,by show(f.rel.lic++xB).size<=_;rw[ByteArray.size_append];omega,hf.rel.needs,hf.rel.feats,hf.rel.plats⟩,hf.adv,hf.keys⟩
 ·exact⟨hf.name,hf.rel,⟨hf.adv.name,hf.adv.fn,hf.adv.ranges,hf.adv.cond⟩,hf.keys⟩
 exact⟨hf.name,hf.rel,hf.adv,hf.keys⟩
theorem factAdmits_any(f:Fc)(which:Int){N:Nat->Prop}{p:FcP}(w:World)(hG:bC w)(hE:ErrV w)(hf:FcV N w f p)(h0:0<=which)(h1:which<=255):
  Calls Tryz.prog 6 #[.agg (fcC f p).toArray,.int .u8 which] w fun e w'=>e=.returned (.bool true)/\Below w.heap.size w w':=by
 obtain⟨A,HA⟩:∃c:Array Value,Hid (c=(fcC f p).toArray):=⟨_,zh rfl⟩;have kA:Hid (A.size=29):=zh CW;have rR:Hid (A.all (fun x=>x.oneCell')=true):=zh (by rw[HA.out];exact gZ hf);rw[<-HA.out];have nK:Hid (A[0]? =some (.int .i64 f.kind)):=zh CW;have pP:Hid (A[1]? =some (.string f.name)):=zh CW;have uT:Hid (A[4]? =some (.int .i64 f.ver.c)):=zh CW;have xA:Hid (A[13]? =some (.string f.rel.lic)):=zh CW;have wZ:Hid (A[14]? =some (.int .i64 f.adv.id)):=zh CW;have qN:Hid (A[25]? =some (.int .i64 f.need)):=zh CW;have tI:Hid (A[26]? =some (.int .i64 f.til)):=zh CW;have tH:Hid (A[27]? =some (.int .i64 f.print)):=zh CW;have pL:Hid (∀W,Below w.heap.size w W->Calls Tryz.prog 7 #[] W fun e w'=>e=.returned (.bool true)/\Below W.heap.size W w'):=zh (fun W hb=>small24_any W (hG.later hb) (hE.later hb));have HFf:Hid (∀W,Below w.heap.size w W->Calls Tryz.prog 8 #[.agg A] W fun e w'=>SayB (f.rel.feats.length<=14) e/\Below W.heap.size W w'):=zh (fun W hb=>by rw[HA.out];exact few24_any f W (hf.later hb));have HRf:Hid (f.rel.feats.length<=14->∀W,Below w.heap.size w W->Calls Tryz.prog 9 #[.agg A] W fun e w'=>e=.returned (.bool (aJ f))/\Below W.heap.size W w'):=zh (fun hz W hb=>FJ);have HMy:Hid (aJ f=true->∀W,Below w.heap.size w W->Calls Tryz.prog 27 #[.slice none 0 0,.slice none 0 0,.agg A,.slice none 0 0] W fun e w'=>e=.returned (.int .i64 (mayF f.kind))/\Below W.heap.size W w'):=zh (fun ho W hb=>by rw[HA.out];exact may_none f p W (hf.later hb) ho);have HV:Hid (∀m,aJ f=true->FcV N w (chgF m f) p):=zh (fun m ho=>chg_v m hf ho);have uR:Hid (∀m,f.rel.feats.length<=14->aJ f=true->usedF m f.kind=false->∀W,Below w.heap.size w W->Calls Tryz.prog 9 #[.agg (fcC (chgF m f) p).toArray] W fun e w'=>e=.returned (.bool false)/\Below W.heap.size W w'):=zh (fun m hz ho hu W hb=>by have h9:=bU (chgF m f) W (hG.later hb) ((HV.out m ho).later hb) (by rw[chg_feats];omega);rw[chg_right ho hu] at h9;exact h9);have HSa:Hid (∀m,aJ f=true->∀W,Below w.heap.size w W->Calls Tryz.prog 28 #[.agg A,.agg (fcC (chgF m f) p).toArray] W fun e w'=>e=.returned (.bool false)/\Below W.heap.size W w'):=zh (fun m ho W hb=>by have h9:=dB f (chgF m f) (w:=W) (hf.later hb) ((HV.out m ho).later hb);rw[chg_same m f] at h9;rw[HA.out];exact h9);have HX:=zh (bY w (.cells A 37));have jD:=zh (aB w (.cells A 37));clear hG hE hf HV;go_enter Tryz.func6,Tryz.ntmps6
 go_upto_region 1 with(fail)
 generalize w.alloc (.cells A 37)=W0 at *;go_wp2_with fail;go_at_call 7;refine(pL.out _ jD.out).mono ?_;rintro e w1 ⟨rfl,hb⟩;have jL:=zh (aA jD.out hb);have rX:=zh (aC hb HX.out);clear HX;have HX:=zh rX.out;clear rX hb;go_wp2_with(refine aN (x:=.tmp 2) rfl CQ w.heap.size rfl A HX.out kA.out ?_);go_at_call 8;refine(HFf.out _ jL.out).mono ?_;rintro e w2 ⟨⟨bf,rfl,hbf⟩,hb⟩;have HF2:=zh hbf;clear hbf;have jF:=zh (aA jL.out hb);have rX:=zh (aC hb HX.out);clear HX;have HX:=zh rX.out;clear rX hb
 cases bf with
 |false=>
  go_wp2_with fail;go_ret;exact⟨rfl,jF.out⟩
 |true=>
  have yR:=HF2.out (by first|rfl|trivial);go_wp2_with(refine aN (x:=.tmp 2) rfl CQ w.heap.size rfl A HX.out kA.out ?_);go_at_call 9;refine(HRf.out yR _ jF.out).mono ?_;rintro e w3 ⟨rfl,hb⟩;have kH:=zh (aA jF.out hb);have rX:=zh (aC hb HX.out);clear HX;have HX:=zh rX.out;clear rX hb
  cases of_:aJ f with
  |false=>
   skip;go_wp2_with fail;go_ret;exact⟨rfl,kH.out⟩
  |true=>
   obtain⟨zB,hpr,hti,kQ,hli,hai,hvc⟩:=right_bounds of_;have HMy2:=zh (HMy.out of_);have HRg2:=zh (fun m=>uR.out m yR of_);have HSa2:=zh (fun m=>HSa.out m of_);have gM:=may_ok f.kind;clear HMy uR HSa pL HFf HRf HF2;generalize mayF f.kind=mk at *;go_wp2_with(refine aN (x:=.tmp 2) rfl CQ w.heap.size rfl A HX.out kA.out ?_);go_at_call 27;refine(HMy2.out _ kH.out).mono ?_;rintro e w4 ⟨rfl,hb⟩;have oZ:=zh (aA kH.out hb);have rX:=zh (aC hb HX.out);clear HX;have HX:=zh rX.out;clear rX hb;have nQ:=zh (bY w4 (.cells aI 37));have nW:Below w4.heap.size w4 ((w4.alloc (.cells aI 37)).setRow w4.heap.size A):=below_setRow (aB w4 _) (Nat.le_refl _) _;have lD:Hid (((w4.alloc (.cells aI 37)).setRow w4.heap.size A).heap[w4.heap.size]? =some (.cells A 37)):=zh (setRow_heap _ _ _ _ _ _ nQ.out);have rX:=zh (aC nW HX.out);have oG:=zh (aA oZ.out nW);have hle:=oZ.out.size;have jM:=(Array.getElem?_eq_some_iff.1 HX.out).1
   go_upto_region 7 with(first|(refine aN (x:=.tmp 2) rfl CQ w.heap.size rfl A HX.out kA.out ?_)|(refine Go.Great.wpList_allocTo rfl (some 6) rfl (.pointer (some ⟨w4.heap.size,0,none⟩)) (.cells aI 37) ?ha ?_;(case ha=>exact eM rfl _ _ rfl))|(refine wpList_store_rowTo rfl 37 (.tmp 6) (.tmp 22) rfl rfl w4.heap.size A rfl rfl 37 aI ?hg DU EG rR.out ?_;(case hg=>exact nQ.out)))
   (try simp only[zn]);clear nQ nW HX;have HX:=zh rX.out;clear rX;have yI:Hid (w.heap.size≠w4.heap.size):=zh CR;have yK:Hid (w.heap.size<=w4.heap.size):=zh hle;clear hle jM;generalize ((w4.alloc (.cells aI 37)).setRow w4.heap.size A)=w7 at *;obtain⟨b9,nW⟩:∃n,n=w4.heap.size:=⟨_,rfl⟩;rw[<-nW] at lD yI yK ⊢;clear nW;have x0:=cfA HX.out nK.out;generalize tQ:f.kind=k at *;have HK:=zh tQ;clear tQ;go_cut [7] from 23 to 35 (fun sv wx=>sv=.bool (decide (k=4)||decide (k=5)||decide (k=6))/\wx=w7)
   case first=>
    skip;by_cases h4:k=4
    ·subst h4;go_wp2_with fail
     go_meet
     exact⟨rfl,rfl⟩
    have g4:(k==4)=false:=beq_eq_false_iff_ne.2 h4;by_cases h5:k=5
    ·subst h5;go_wp2_with fail
     go_meet
     exact⟨rfl,rfl⟩
    have g5:(k==5)=false:=beq_eq_false_iff_ne.2 h5;by_cases h6:k=6
    ·subst h6;go_wp2_with fail
     go_meet
     exact⟨rfl,rfl⟩
    have g6:(k==6)=false:=beq_eq_false_iff_ne.2 h6;go_wp2_with fail
    go_meet
    exact⟨by simp[h4,h5,h6],rfl⟩
   case rest=>
    obtain⟨rfl,rfl⟩:=hcut;generalize hoo:(decide (k=4)||decide (k=5)||decide (k=6))=ow at *;have HOw:=zh hoo;clear hoo
    go_upto_block 0 with(fail)
    (try simp only[zn]);obtain⟨C,HC⟩:∃c:Array Value,Hid (c=(fcC (chgF (which % 7) f) p).toArray):=⟨_,zh rfl⟩;have AF:=zh (HRg2.out (which % 7));have wY:=zh (HSa2.out (which % 7));rw[<-HC.out] at AF wY;clear HRg2 HSa2;have pK:Hid (C.size=29):=zh (by rw[HC.out];rfl);go_cut [8] from 36 to 117 (fun sv wx=>sv=.bool (usedF (which % 7) k)/\Hid (wx.heap[b9]? =some (.cells C 37))/\Hid (wx.heap[w.heap.size]? =some (.cells A 37))/\Hid (Below w.heap.size w wx))
    case first=>
     go_upto_region 12 with(fail)
     (try simp only[zn]);have rE:0<=which % 7/\which % 7<7:=CR;generalize hmm:which % 7=m at *;have HMm:=zh hmm;clear hmm;have hmc:m=0\/m=1\/m=2\/m=3\/m=4\/m=5\/m=6:=CR;clear AF wY HMy2;rcases hmc with rfl|rfl|rfl|rfl|rfl|rfl|rfl
     ·have qT:Hid (A.setIfInBounds 1 (.string (f.name++xB))=C):=zh D2;obtain⟨s1,s2,s3⟩:=stA lD.out 1 (.string (f.name++xB));rw[qT.out] at s1;have nC:=zh s1;have mQ:=zh (s2 _ _ yI.out HX.out);have oF:=zh (s3 _ _ yK.out oG.out);clear s1 s2 s3;have y1:=cfA lD.out pP.out;have z1:=cfZ lD.out pP.out;have x0b:=cfA mQ.out nK.out;(have mO:(f.name++({data:=#[120]}:bA)).size=f.name.size+1:=by rw[ByteArray.size_append];rfl);by_cases h0:k=0
      ·subst h0;go_wp2_with fail
       go_meet
       exact⟨rfl,nC,mQ,oF⟩
      have g0:(k==0)=false:=beq_eq_false_iff_ne.2 h0;by_cases h3:k=3
      ·subst h3;go_wp2_with fail
       go_meet
       exact⟨rfl,nC,mQ,oF⟩
      have g3:(k==3)=false:=beq_eq_false_iff_ne.2 h3;go_wp2_with fail
      go_meet
      exact⟨by simp[usedF,h0,h3],nC,mQ,oF⟩
     ·have qT:Hid (A.setIfInBounds 27 (.int .i64 (f.print+1))=C):=zh D2;obtain⟨s1,s2,s3⟩:=stA lD.out 27 (.int .i64 (f.print+1));rw[qT.out] at s1;have nC:=zh s1;have mQ:=zh (s2 _ _ yI.out HX.out);have oF:=zh (s3 _ _ yK.out oG.out);clear s1 s2 s3;have y1:=cfA lD.out tH.out;have z1:=cfZ lD.out tH.out;have x0b:=cfA mQ.out nK.out;have rJ:IntKind.i64.wrap (f.print+1)=f.print+1:=bN CR CR;by_cases h7:k=7
      ·subst h7;go_wp2_with fail
       go_meet
       exact⟨rfl,nC,mQ,oF⟩
      have g7:(k==7)=false:=beq_eq_false_iff_ne.2 h7;go_wp2_with fail
      go_meet
      exact⟨by simp[usedF,h7],nC,mQ,oF⟩
     ·have qT:Hid (A.setIfInBounds 26 (.int .i64 (f.til+1))=C):=zh D2;obtain⟨s1,s2,s3⟩:=stA lD.out 26 (.int .i64 (f.til+1));rw[qT.out] at s1;have nC:=zh s1;have mQ:=zh (s2 _ _ yI.out HX.out);have oF:=zh (s3 _ _ yK.out oG.out);clear s1 s2 s3;have y1:=cfA lD.out tI.out;have z1:=cfZ lD.out tI.out;have x0b:=cfA mQ.out nK.out;have rJ:IntKind.i64.wrap (f.til+1)=f.til+1:=bN CR CR;by_cases h6:k=6
      ·subst h6;go_wp2_with fail
       go_meet
       exact⟨rfl,nC,mQ,oF⟩
      have g6:(k==6)=false:=beq_eq_false_iff_ne.2 h6;go_wp2_with fail
      go_meet
      exact⟨by simp[usedF,h6],nC,mQ,oF⟩
     ·have qT:Hid (A.setIfInBounds 25 (.int .i64 (f.need+1))=C):=zh D2;obtain⟨s1,s2,s3⟩:=stA lD.out 25 (.int .i64 (f.need+1));rw[qT.out] at s1;have nC:=zh s1;have mQ:=zh (s2 _ _ yI.out HX.out);have oF:=zh (s3 _ _ yK.out oG.out);clear s1 s2 s3;have y1:=cfA lD.out qN.out;have z1:=cfZ lD.out qN.out;have x0b:=cfA mQ.out nK.out;have rJ:IntKind.i64.wrap (f.need+1)=f.need+1:=bN CR CR;go_wp2_with fail
      go_meet
      exact⟨by rw[<-HOw.out];rfl,nC,mQ,oF⟩
     ·have qT:Hid (A.setIfInBounds 13 (.string (f.rel.lic++xB))=C):=zh D2;obtain⟨s1,s2,s3⟩:=stA lD.out 13 (.string (f.rel.lic++xB));rw[qT.out] at s1;have nC:=zh s1;have mQ:=zh (s2 _ _ yI.out HX.out);have oF:=zh (s3 _ _ yK.out oG.out);clear s1 s2 s3;have y1:=cfA lD.out xA.out;have z1:=cfZ lD.out xA.out;have x0b:=cfA mQ.out nK.out;(have mO:(f.rel.lic++({data:=#[120]}:bA)).size=f.rel.lic.size+1:=by rw[ByteArray.size_append];rfl);by_cases h0:k=0
      ·subst h0;go_wp2_with fail
       go_meet
       exact⟨rfl,nC,mQ,oF⟩
      have g0:(k==0)=false:=beq_eq_false_iff_ne.2 h0;go_wp2_with fail
      go_meet
      exact⟨by simp[usedF,h0],nC,mQ,oF⟩
     ·have qT:Hid (A.setIfInBounds 14 (.int .i64 (f.adv.id+1))=C):=zh D2;obtain⟨s1,s2,s3⟩:=stA lD.out 14 (.int .i64 (f.adv.id+1));rw[qT.out] at s1;have nC:=zh s1;have mQ:=zh (s2 _ _ yI.out HX.out);have oF:=zh (s3 _ _ yK.out oG.out);clear s1 s2 s3;have y1:=cfA lD.out wZ.out;have z1:=cfZ lD.out wZ.out;have x0b:=cfA mQ.out nK.out;have rJ:IntKind.i64.wrap (f.adv.id+1)=f.adv.id+1:=bN CR CR;by_cases h3:k=3
      ·subst h3;go_wp2_with fail
       go_meet
       exact⟨rfl,nC,mQ,oF⟩
      have g3:(k==3)=false:=beq_eq_false_iff_ne.2 h3;go_wp2_with fail
      go_meet
      exact⟨by simp[usedF,h3],nC,mQ,oF⟩
     have qT:Hid (A.setIfInBounds 4 (.int .i64 (f.ver.c+1))=C):=zh D2;obtain⟨s1,s2,s3⟩:=stA lD.out 4 (.int .i64 (f.ver.c+1));rw[qT.out] at s1;have nC:=zh s1;have mQ:=zh (s2 _ _ yI.out HX.out);have oF:=zh (s3 _ _ yK.out oG.out);clear s1 s2 s3;have y1:=cfA lD.out uT.out;have z1:=cfZ lD.out uT.out;have x0b:=cfA mQ.out nK.out;have rJ:IntKind.i64.wrap (f.ver.c+1)=f.ver.c+1:=bN CR CR;by_cases h1:k=1
     ·subst h1;go_wp2_with fail
      go_meet
      exact⟨rfl,nC,mQ,oF⟩
     have g1:(k==1)=false:=beq_eq_false_iff_ne.2 h1;by_cases h2:k=2
     ·subst h2;go_wp2_with fail
      go_meet
      exact⟨rfl,nC,mQ,oF⟩
     have g2:(k==2)=false:=beq_eq_false_iff_ne.2 h2;by_cases h7:k=7
     ·subst h7;go_wp2_with fail
      go_meet
      exact⟨rfl,nC,mQ,oF⟩
     have g7:(k==7)=false:=beq_eq_false_iff_ne.2 h7;go_wp2_with fail
     go_meet
     exact⟨by simp[usedF,h1,h2,h7],nC,mQ,oF⟩
    case rest=>
     obtain⟨rfl,d1,d2,d3⟩:=hcut;(rename World=>w8);clear lD HX;have HX:=zh d2.out;have lD:=zh d1.out;have pN:=zh d3.out;clear d1 d2 d3 x0 gM;generalize huu:usedF (which % 7) k=us at *;have HU:=zh huu;clear huu
     cases us with
     |true=>
      skip;go_wp2_with(first|(refine loadFd (n:=128) rfl (x:=.tmp 2) rfl CQ w.heap.size rfl A HX.out kA.out ?_)|(refine loadFd (n:=129) rfl (x:=.tmp 6) rfl CQ b9 rfl C lD.out pK.out ?_));go_at_call 28;refine(wY.out _ pN.out).mono ?_;rintro e w11 ⟨rfl,hb⟩;have AN:=zh (aA pN.out hb);go_wp2_with fail;go_ret;exact⟨rfl,AN.out⟩
     |false=>
      have HRg4:=zh (AF.out rfl);go_wp2_with(refine loadFd (n:=122) rfl (x:=.tmp 6) rfl CQ b9 rfl C lD.out pK.out ?_);go_at_call 9;refine(HRg4.out _ pN.out).mono ?_;rintro e qD ⟨rfl,hb⟩;have HB10:=zh (aA pN.out hb);have rX:=zh (aC hb HX.out);have HX9z:=zh (aC hb lD.out);clear HX lD hb;have HX:=zh rX.out;have lD:=zh HX9z.out;go_wp2_with(first|(refine loadFd (n:=128) rfl (x:=.tmp 2) rfl CQ w.heap.size rfl A HX.out kA.out ?_)|(refine loadFd (n:=129) rfl (x:=.tmp 6) rfl CQ b9 rfl C lD.out pK.out ?_));go_at_call 28;refine(wY.out _ HB10.out).mono ?_;rintro e w11 ⟨rfl,hb⟩;have AN:=zh (aA HB10.out hb);go_wp2_with fail;go_ret;exact⟨rfl,AN.out⟩
end Go.Proofs.YtmpopphjaggeoaaGreatDoor
