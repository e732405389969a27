/- Texts of this seat, joined. -/
import Derived.Test.YtacgopankhpnbaaGreatDoorBuildH
import Derived.Test.YtacgopankhpnbaaGreatDoorKQ
namespace Go.Proofs.YtacgopankhpnbaaGreatDoor
set_option maxHeartbeats 8000000
set_option maxRecDepth 100000
open Go.RowKit
theorem sN{p:Prop}(h:p:=by
 obtain⟨g0,g1,g2,g3,g4⟩:=HW.out.gcells;obtain⟨⟨z0,z1,z2,z3,z4⟩,f0,f1,f2,f3,f4⟩:=HW.out.zcells;go_wp2_with fail
 exact HW.out.ret rfl rfl rfl HE.out (fun h=>absurd h vV)):p:=h
theorem inspectE_twice{r:Rcp}(h1:(!aR r.inputs||decide (60<r.steps.length)||r.steps.any (fun s=> !aP s))=false)(h2:twice r=true):bC r=5:=by
 unfold bC;rw[if_neg (by simp[h1]),if_pos h2]
theorem inspectE_full{r:Rcp}(h1:(!aR r.inputs||decide (60<r.steps.length)||r.steps.any (fun s=> !aP s))=false)(h2:twice r=false)(h3:60<r.inputs.length+r.steps.length):bC r=6:=by
 unfold bC;rw[if_neg (by simp[h1]),if_neg (by simp[h2]),if_pos h3]
theorem inspectE_none{r:Rcp}(h1:(!aR r.inputs||decide (60<r.steps.length)||r.steps.any (fun s=> !aP s))=false)(h2:twice r=false)(h3:¬60<r.inputs.length+r.steps.length)
  (h4:(!aO r r.output||r.steps.any (fun s=>s.src.any fun x=> !aO r x))=true):bC r=4:=by
 unfold bC;rw[if_neg (by simp[h1]),if_neg (by simp[h2]),if_neg h3,if_pos h4]
theorem inspectE_last{r:Rcp}(h1:(!aR r.inputs||decide (60<r.steps.length)||r.steps.any (fun s=> !aP s))=false)(h2:twice r=false)(h3:¬60<r.inputs.length+r.steps.length)
  (h4:(!aO r r.output||r.steps.any (fun s=>s.src.any fun x=> !aO r x))=false):bC r=if kL r.steps then 15 else 0:=by
 unfold bC;rw[if_neg (by simp[h1]),if_neg (by simp[h2]),if_neg h3,if_neg (by simp[h4])]
theorem inspect_good(r:Rcp)(L:List (Value×Stp))(vi vs:Value)(w:World)(hin:eP w vi r.inputs)(hst:oY w vs L)(hL:L.map (·.2)=r.steps)(hout:r.output.size<=140737488355328)
  (h1:aR r.inputs=true) (h2:L.length<=60) (h3:(L.any fun y=> !aP y.2)=false):
  Calls Tryz.prog 63 #[nD vi vs r.output] w (InspPost vi vs r.output r w):=by
 have H1:Hid ((!aR r.inputs||decide (60<r.steps.length)||r.steps.any (fun s=> !aP s))=false):=zh (by
  rw[h1,<-hL,List.any_map,List.length_map];have:(L.any ((fun s=> !aP s) ∘ fun x=>x.snd))=false:=h3
  rw[this];simp;omega)
 have HI60:r.inputs.length<=60:=by
  unfold aR at h1;simp only[Bool.and_eq_true,decide_eq_true_eq] at h1;exact h1.2
 obtain⟨ai,ci,hvi,-⟩:=id hin;obtain⟨av,cv,hvs⟩:=stps_slice hst;subst hvi hvs;have HW:=zh (kC.first (.slice ai r.inputs.length ci) (.slice av L.length cv) r.output w);have HF:=zh (gK r.inputs _ _ (hin.later HW.out.below));rw[h1] at HF
 have HC:Hid (∀W,Below w.heap.size w W->Calls Tryz.prog 90 #[.slice av L.length cv,.func (.func 91) #[] #[]] W fun e w'=>e=.returned (.bool false)/\Below W.heap.size W w'):=
  zh fun W hb=>by
   have:=mS 91 #[] (fun y=> !aP y.2) L (.slice av L.length cv) W (hst.later hb) enters_inspect1 (fun y hy W' hb'=>inspect1_any y W' ((hst.src hy).1.later (aB hb hb')) (hst.src hy).2);rw[h3] at this;exact this
 have hmm:=@run_makeMap Tryz.prog;have HIn:=zh hin;have HSt:=zh hst;have HL:=zh hL;have H3:=zh h3;have hlen:r.steps.length=L.length:=by rw[<-hL];simp
 have HLen:=zh hlen;clear hin hst hL h1 h3 hlen;go_enter Tryz.func63,Tryz.ntmps63;go_wp2_with fail;refine HF.out.mono ?_;rintro e w2 ⟨rfl,hb⟩
 replace HW:=zh (HW.out.later hb)
 obtain⟨r0,r1,r2⟩:=HW.out.rcells;clear hmm hb HF;go_wp2_with fail;refine(HC.out _ HW.out.below).mono ?_;rintro e w3 ⟨rfl,hb⟩
 replace HW:=zh (HW.out.later hb)
 clear r0 r1 r2 hb HC;obtain⟨r0,r1,r2⟩:=HW.out.rcells;go_wp2_with fail;clear r0 r1 r2;go_loopw [33] (fun i wr=>∃k:Nat,k<=r.inputs.length/\i=.int .i64 k/\Hid (kC (.slice ai r.inputs.length ci) (.slice av L.length cv) r.output w 0 k (fun _=>none) (iMap (r.inputs.take k)) wr)) (fun i _=>r.inputs.length-(intOf i).toNat)
 case atStart=>exact⟨0,Nat.zero_le _,rfl,HW⟩
 case round=>
  clear HW;obtain⟨k,hk,rfl,HW⟩:=hrel;rename World=>wr
  by_cases hlt:k<r.inputs.length
  ·obtain⟨f,hf,-⟩:=getElem?_of_lt hlt;rcases HIn.out.cases with⟨e,-⟩|⟨b,o,c,e,-,-,-,-,hc⟩
   ·rw[e] at hlt;simp at hlt
   ·(obtain rfl:ai=some ⟨b,o,none⟩:=by injection e);obtain⟨c1,c2,s1,-⟩:=hc k f hf
    replace c1:=aC HW.out.below c1
    replace c2:=aC HW.out.below c2
    obtain⟨-,-,-,-,g4⟩:=(HW.out.later (aA wr (.cells #[.string f.name,.string f.text] 40))).gcells;have hbz:=HW.out.below.size;have hmi:=HW.out.mi.lt;obtain⟨w4,hrun,hm4,hg4⟩:=(HW.out.mi.alloc (.cells #[.string f.name,.string f.text] 40)).store Tryz.underlying99 wK (x:=f.name) (Nat.le_trans s1 lB) (y:=true) trivial;have hrun':(Instr.mapUpdate 99 (.map (some (w.heap.size+1+1+1))) (.string f.name) (.bool true)).run Tryz.prog (wr.alloc (.cells #[.string f.name,.string f.text] 40))=.ok () w4:=hrun;have HNew:=zh ((HW.out.later (aA wr (.cells #[.string f.name,.string f.text] 40))).setI hg4 (hm4.ext (fun z=>@iMap_snoc _ _ _ hf z (Classical.propDecidable _))));clear hrun hm4 hg4 hc e hf s1 hmi;exact vO
  ·obtain rfl:k=r.inputs.length:=vT;rw[List.take_length] at HW;obtain⟨r0,r1,r2⟩:=HW.out.rcells;go_wp2_with fail;clear r0 r1 r2;(go_loopw [45] (fun i wr=>∃k:Nat,k<=L.length/\i=.int .i64 k/\Hid (kC (.slice ai r.inputs.length ci) (.slice av L.length cv) r.output w k r.inputs.length (kZ (r.steps.take k)) (iMap r.inputs) wr)/\Hid (twice r=lH r k (L.length-k))) (fun i _=>L.length-(intOf i).toNat));case atStart=>exact⟨0,Nat.zero_le _,rfl,HW,zh (by unfold twice;rw[HLen.out];rfl)⟩
   case round=>
    clear HW;obtain⟨k,hk,rfl,HW,HT⟩:=hrel;(rename World=>wr);by_cases hlt:k<L.length
    ·obtain⟨y,hy,hym⟩:=getElem?_of_lt hlt;rcases HSt.out.cases with⟨e,-⟩|⟨b,o,c,e,-,-,-,-,hc⟩
     ·rw[e] at hlt;simp at hlt
     ·(obtain⟨rfl,rfl⟩:av=some ⟨b,o,none⟩/\c=cv:=by injection e with e1 e2 e3;exact⟨e1,e3.symm⟩);obtain⟨c1,c2,c3,c4,hsr,ho⟩:=hc k y hy
      replace c1:=aC HW.out.below c1
      replace c2:=aC HW.out.below c2
      replace c3:=aC HW.out.below c3
      replace c4:=aC HW.out.below c4
      have hsk:r.steps[k]? =some y.2:=by rw[<-HL.out,List.getElem?_map,hy];rfl
      replace HT:=zh (HT.out.trans (twiceFrom_at hlt hsk))
      have HKn:=zh (known_any (.slice ai r.inputs.length ci) (.slice (some ⟨b,o,none⟩) L.length c) r.output y.2.out (w.heap.size+1+1) (w.heap.size+1+1+1) k r.inputs.length _ _ _ (HW.out.later (aA wr (.cells #[.int .i64 y.2.kind,y.1,.string y.2.out,.bool y.2.sorted] 24))).mw (HW.out.later (aA wr (.cells #[.int .i64 y.2.kind,y.1,.string y.2.out,.bool y.2.sorted] 24))).mi ho);rw[show((kZ (r.steps.take k) y.2.out).isSome||(iMap r.inputs y.2.out).getD false)=nN r k y.2.out by rw[wMap_isSome,iMap_getD];rfl] at HKn;have HSk:=zh hsk;obtain⟨v,kind,src,yo,sorted⟩:=y;simp only at c1 c2 c3 c4 ho hsr HT HKn HSk;obtain⟨sa,cs,hvv⟩:=cB hsr;subst hvv;have HO:=zh ho
      replace HW:=zh (HW.out.later (aA wr (.cells #[.int .i64 kind,.slice sa src.length cs,.string yo,.bool sorted] 24)))
      obtain⟨g0,g1,g2,g3,g4⟩:=HW.out.gcells;have hbz:=HW.out.below.size;have hmi:=HW.out.mi.lt;clear hc e hy hym hsk hsr ho
      cases hkn:nN r k yo with
      |true=>
       rw[hkn] at HKn HT;have HE:=zh (inspectE_twice H1.out HT.out);go_wp2_with fail;refine HKn.out.mono ?_;rintro e w5 ⟨rfl,hb⟩
       replace HW:=zh (HW.out.later hb)
       clear g0 g1 g2 g3 g4 hb hkn;exact sN
      |false=>
       rw[hkn] at HKn HT
       have HWn:=zh (show bR (r.steps.take k) yo=none by
        unfold nN at hkn;rw[Bool.or_eq_false_iff] at hkn
        simpa using hkn.1)
       go_wp2_with fail;refine HKn.out.mono ?_;rintro e w5 ⟨rfl,hb⟩;have hbx:=aD hb (aN wr (.cells #[.int .i64 kind,.slice sa src.length cs,.string yo,.bool sorted] 24));obtain⟨-,-,x2,-⟩:=box4' hbx
       replace HW:=zh (HW.out.later hb)
       clear g0 g1 g2 g3 g4 hb hkn hbx HKn;obtain⟨-,-,-,g3,-⟩:=HW.out.gcells;obtain⟨w6,hrun,hm6,hg6⟩:=HW.out.mw.store Tryz.underlying98 wK (x:=yo) (Nat.le_trans HO.out lB) (y:=(k:Int)) (nat_wf vT);have hrun':(Instr.mapUpdate 98 (.map (some (w.heap.size+1+1))) (.string yo) (.int .i64 (k:Int))).run Tryz.prog w5=.ok () w6:=hrun;have HNew:=zh (HW.out.setW hg6 (hm6.ext (fun z=>@wMap_snoc _ _ _ HSk.out HWn.out z (Classical.propDecidable _))));clear hrun hm6 hg6;go_wp2_with fail;go_roundw;(case rel=>exact⟨k+1,vT,wH,HNew,zh HT.out⟩);case measure=>simp[intOf];omega
    ·obtain rfl:k=L.length:=vT
     replace HT:=zh (show twice r=false by rw[HT.out,Nat.sub_self];rfl)
     (have hst:r.steps.take L.length=r.steps:=by rw[<-HLen.out,List.take_length]);rw[hst] at HW;clear hst;obtain⟨r0,r1,r2⟩:=HW.out.rcells;by_cases h60:60<r.inputs.length+L.length
     ·have HE:=zh (inspectE_full H1.out HT.out (by rw[HLen.out];exact h60));exact sN
     ·have H60:=zh (show ¬60<r.inputs.length+r.steps.length by rw[HLen.out];exact h60);have HFN:=zh (aA wr (.cells #[.func (.func 93) #[] #[.pointer (some ⟨w.heap.size+1+1+1+1,0,none⟩)]] 92));have HIp:=zh (show Insp (.slice ai r.inputs.length ci) (.slice av L.length cv) r.output (w.heap.size+1+1+1+1) wr.heap.size (w.heap.size+1+1) (w.heap.size+1+1+1) L.length r.inputs.length (kZ r.steps) (iMap r.inputs) _ from⟨(HW.out.later HFN.out).bg,aN wr _,(HW.out.later HFN.out).mw,(HW.out.later HFN.out).mi⟩);have hbz:w.heap.size+1+1+1+1<wr.heap.size:=(Array.getElem?_eq_some_iff.1 HW.out.bg).1
      replace HW:=zh (HW.out.later HFN.out)
      obtain⟨s0,s1,s2⟩:=HW.out.rcells;have HU:=zh (inspect2_any (.slice ai r.inputs.length ci) (.slice av L.length cv) r.output r.output (w.heap.size+1+1+1+1) (w.heap.size+1+1) (w.heap.size+1+1+1) L.length r.inputs.length (kZ r.steps) (iMap r.inputs) _ HIp.out.box HIp.out.wr HIp.out.inp hout);(have hkr:∀x,((kZ r.steps x).isSome||(iMap r.inputs x).getD false)=aO r x:=fun x=>by rw[wMap_isSome,iMap_getD];rfl);rw[hkr] at HU;have HKr:=zh hkr;clear hkr;have eg:=enters_inspect2
      cases hkn:aO r r.output with
      |false=>
       rw[hkn] at HU;have HE:=zh (inspectE_none H1.out HT.out H60.out (by rw[hkn];rfl));clear hkn;go_wp2_with(go_at_fn 93;(with_reducible refine HU.out.mono ?_);rintro e w5 ⟨rfl,hb⟩;replace HW:=zh (HW.out.later hb);obtain⟨g0,g1,g2,g3,g4⟩:=HW.out.gcells;obtain⟨⟨z0,z1,z2,z3,z4⟩,f0,f1,f2,f3,f4⟩:=HW.out.zcells;clear hb r0 r1 r2 s0 s1 s2);exact HW.out.ret rfl rfl rfl HE.out (fun h=>absurd h vV)
      |true=>
       rw[hkn] at HU;have HKn:=zh hkn;clear hkn
       have HC3:Hid (∀W,Below (wr.alloc (.cells #[.func (.func 93) #[] #[.pointer (some ⟨w.heap.size+1+1+1+1,0,none⟩)]] 92)).heap.size (wr.alloc (.cells #[.func (.func 93) #[] #[.pointer (some ⟨w.heap.size+1+1+1+1,0,none⟩)]] 92)) W->Below w.heap.size w W->
         Calls Tryz.prog 90 #[.slice av L.length cv,.func (.func 94) #[] #[.pointer (some ⟨wr.heap.size,0,none⟩)]] W fun e w'=>e=.returned (.bool (r.steps.any fun s=>s.src.any fun x=> !aO r x))/\Below W.heap.size W w'):=
        zh fun W hb hbw=>by
         have hc:=mS 94 #[.pointer (some ⟨wr.heap.size,0,none⟩)] (fun y=>y.2.src.any fun x=> !((kZ r.steps x).isSome||(iMap r.inputs x).getD false)) L (.slice av L.length cv) W (HSt.out.later hbw) enters_inspect3
          (fun y hy W' hb'=>inspect3_any y _ _ _ _ _ _ _ _ _ _ _ W' ((HIp.out.later hb).later hb') ((HSt.out.src hy).1.later (aB hbw hb')))
         have e:(L.any fun y=>y.2.src.any fun x=> !((kZ r.steps x).isSome||(iMap r.inputs x).getD false))=r.steps.any fun s=>s.src.any fun x=> !aO r x:=by
          rw[<-HL.out,List.any_map];congr 1;funext y;show _=y.2.src.any _;congr 1;funext x;rw[HL.out,HKr.out]
         rw[e] at hc;exact hc
       go_wp2_with(go_at_fn 93;(with_reducible refine HU.out.mono ?_);rintro e w5 ⟨rfl,hb⟩;replace HW:=zh (HW.out.later hb);have HB5:=zh hb;clear hb r0 r1 r2 s0 s1 s2;obtain⟨r0,r1,r2⟩:=HW.out.rcells);have HCall:=zh (HC3.out w5 HB5.out HW.out.below)
       cases hun:(r.steps.any fun s=>s.src.any fun x=> !aO r x) with
       |true=>
        rw[hun] at HCall;have HE:=zh (inspectE_none H1.out HT.out H60.out (by rw[hun,Bool.or_true]));clear hun;refine HCall.out.mono ?_;rintro e w6 ⟨rfl,hb⟩
        replace HW:=zh (HW.out.later hb)
        clear hb r0 r1 r2;exact sN
       |false=>
        rw[hun] at HCall;have HE:=zh (inspectE_last H1.out HT.out H60.out (by rw[hun,HKn.out];rfl));clear hun;refine HCall.out.mono ?_;rintro e w6 ⟨rfl,hb⟩
        replace HW:=zh (HW.out.later hb)
        clear hb r0 r1 r2;obtain⟨g0,g1,g2,g3,g4⟩:=HW.out.gcells
        have HCi:=zh (circle_any L (.slice ai r.inputs.length ci) (.slice av L.length cv) r.output (w.heap.size+1+1) (w.heap.size+1+1+1) L.length w6 (HSt.out.later HW.out.below) (by rw[HL.out];exact HW.out.mw) h2
         (fun y hy=>by
          have h3:=H3.out;rw[List.any_eq_false] at h3;have:=h3 y hy;(have hr:aP y.2=true:=by simpa using this);have:=(dS hr).2.2.1
          omega))
        rw[HL.out] at HCi
        cases hci:kL r.steps with
        |true=>
         rw[hci] at HCi HE;clear hci;go_wp2_with fail;refine HCi.out.mono ?_;rintro e w7 ⟨rfl,hb⟩
         replace HW:=zh (HW.out.later hb)
         clear hb g0 g1 g2 g3 g4;exact sN
        |false=>
         rw[hci] at HCi HE;clear hci;go_wp2_with fail;refine HCi.out.mono ?_;rintro e w7 ⟨rfl,hb⟩
         replace HW:=zh (HW.out.later hb)
         clear hb g0 g1 g2 g3 g4;obtain⟨g0,g1,g2,g3,g4⟩:=HW.out.gcells;obtain⟨⟨z0,z1,z2,z3,z4⟩,f0,f1,f2,f3,f4⟩:=HW.out.zcells;go_wp2_with fail;exact HW.out.ret rfl rfl rfl HE.out (fun _=>⟨rfl,rfl⟩)
theorem inspect_any(r:Rcp)(L:List (Value×Stp))(vi vs:Value)(w:World)(hin:eP w vi r.inputs)(hst:oY w vs L)(hL:L.map (·.2)=r.steps)(hout:r.output.size<=140737488355328):
  Calls Tryz.prog 63 #[nD vi vs r.output] w (InspPost vi vs r.output r w):=by
 by_cases h:aR r.inputs=false\/60<L.length\/(L.any fun y=> !aP y.2)=true
 ·exact inspect_arg r L vi vs w hin hst hL h
 ·refine inspect_good r L vi vs w hin hst hL hout ?_ ?_ ?_
  ·cases hh:aR r.inputs with
   |true=>rfl
   |false=>exact absurd (.inl hh) h
  ·have:¬60<L.length:=fun hh=>h (.inr (.inl hh));omega
  ·cases hh:(L.any fun y=> !aP y.2) with
   |false=>rfl
   |true=>exact absurd (.inr (.inr hh)) h
theorem uE{p:Prop}(h:p:=by
 go_wp2_with fail;refine HI.out.mono ?_;rintro e w2 ⟨rfl,hb,-⟩;generalize bC r=q at h0 h1;have HB:=zh hb;clear hb;go_wp2_with fail;go_ret
 exact⟨rfl,aB (aB (aA _ _) HB.out) (aA _ _)⟩):p:=h
structure fZ (r:Rcp) (L:List (Value×Stp)) (vi vs:Value) (w:World):Prop where
 inp:eP w vi r.inputs
 stp:oY w vs L
 map:L.map (·.2)=r.steps
 out:r.output.size<=140737488355328
section
variable {r:Rcp} {L:List (Value×Stp)} {vi vs:Value} {w w':World}
theorem fZ.later(h:fZ r L vi vs w)(hb:Below w.heap.size w w'):fZ r L vi vs w':=⟨h.inp.later hb,h.stp.later hb,h.map,h.out⟩
theorem fZ.onlyMap{b:Nat}(h:fZ r L vi vs w)(hm:dE w b)(ho:bU b w w'):fZ r L vi vs w':=⟨h.inp.onlyMap hm ho,h.stp.onlyMap hm ho,h.map,h.out⟩
theorem fZ.slices(h:fZ r L vi vs w):∃ai ci av cv,vi=.slice ai r.inputs.length ci/\vs=.slice av L.length cv:=by
 obtain⟨ai,ci,hvi,-⟩:=h.inp;obtain⟨av,cv,hvs⟩:=stps_slice h.stp;exact⟨ai,ci,av,cv,hvi,hvs⟩
theorem fZ.len(h:fZ r L vi vs w):r.steps.length=L.length:=by rw[<-h.map];simp
theorem fZ.inspect(h:fZ r L vi vs w):Calls Tryz.prog 63 #[nD vi vs r.output] w (InspPost vi vs r.output r w):=inspect_any r L vi vs w h.inp h.stp h.map h.out
end
theorem right_any(r:Rcp)(L:List (Value×Stp))(vi vs:Value)(w:World)(h:fZ r L vi vs w):
  Calls Tryz.prog 35 #[nD vi vs r.output] w fun e w'=>e=.returned (.int .i64 (bC r))/\Below w.heap.size w w':=by
 have HI:=zh (h.later (aA w (dG vi vs r.output))).inspect;obtain⟨ai,ci,av,cv,rfl,rfl⟩:=h.slices;clear h;go_enter Tryz.func35,Tryz.ntmps35;go_wp2_with fail;refine HI.out.mono ?_;rintro e w2 ⟨rfl,hb,-⟩;have HB:=zh hb;clear hb;go_wp2_with fail;go_ret;exact⟨rfl,aB (aB (aA _ _) HB.out) (aA _ _)⟩
theorem order_bad(r:Rcp)(L:List (Value×Stp))(vi vs:Value)(w:World)(h:fZ r L vi vs w)(he:bC r≠0):
  Calls Tryz.prog 33 #[nD vi vs r.output] w fun e w'=>e=.returned (.slice none 0 0)/\Below w.heap.size w w':=by
 have HI:=zh (h.later (aA w (dG vi vs r.output))).inspect;obtain⟨ai,ci,av,cv,rfl,rfl⟩:=h.slices;have h0:(bC r==0)=false:=beq_eq_false_iff_ne.2 he;have h1:(bC r != 0)=true:=AL;clear h he;go_enter Tryz.func33,Tryz.ntmps33;exact uE
theorem slice_bad(r:Rcp)(L:List (Value×Stp))(vi vs:Value)(w:World)(h:fZ r L vi vs w)(he:bC r≠0):
  Calls Tryz.prog 30 #[nD vi vs r.output] w fun e w'=>e=.returned (.slice none 0 0)/\Below w.heap.size w w':=by
 have HI:=zh (h.later (aA w (dG vi vs r.output))).inspect;obtain⟨ai,ci,av,cv,rfl,rfl⟩:=h.slices;have h0:(bC r==0)=false:=beq_eq_false_iff_ne.2 he;have h1:(bC r != 0)=true:=AL;clear h he;go_enter Tryz.func30,Tryz.ntmps30;exact uE
theorem pure_bad(r:Rcp)(L:List (Value×Stp))(vi vs:Value)(w:World)(h:fZ r L vi vs w)(he:bC r≠0):
  Calls Tryz.prog 28 #[nD vi vs r.output] w fun e w'=>e=.returned (.bool false)/\Below w.heap.size w w':=by
 have HI:=zh (right_any r L vi vs _ (h.later (aA w (dG vi vs r.output))));obtain⟨ai,ci,av,cv,rfl,rfl⟩:=h.slices;have h0:(bC r==0)=false:=beq_eq_false_iff_ne.2 he;clear h he;generalize bC r=q at h0 HI;go_enter Tryz.func28,Tryz.ntmps28;go_wp2_with fail;refine HI.out.mono ?_;rintro e w2 ⟨rfl,hb⟩;have HB:=zh hb;clear hb;go_wp2_with fail;go_ret;exact⟨rfl,aB (aA _ _) HB.out⟩
end Go.Proofs.YtacgopankhpnbaaGreatDoor
namespace Go.Proofs.YtacgopankhpnbaaGreatDoor
open Go.RowKit
structure Grf (r:Rcp) (L:List (Value×Stp)) (vi vs:Value) (bw bi:Nat) (w:World):Prop where
 rcp:fZ r L vi vs w
 wr:∃nw,bD eZ vInt w bw nw (kZ r.steps)
 few:L.length<=60
 src:∀y,y∈L->y.2.src.length<=1000000
section
variable {r:Rcp} {L:List (Value×Stp)} {vi vs:Value} {bw bi:Nat} {w w':World}
theorem Grf.later(h:Grf r L vi vs bw bi w)(hb:Below w.heap.size w w'):Grf r L vi vs bw bi w':=by
 obtain⟨nw,hw⟩:=h.wr;exact⟨h.rcp.later hb,⟨nw,hw.later hb⟩,h.few,h.src⟩
theorem Grf.onlyMap{b:Nat}(h:Grf r L vi vs bw bi w)(hm:dE w b)(ho:bU b w w')(hne:bw≠b):Grf r L vi vs bw bi w':=by
 obtain⟨nw,hw⟩:=h.wr;exact⟨h.rcp.onlyMap hm ho,⟨nw,hw.of_block (ho.block _ hw.lt hne)⟩,h.few,h.src⟩
theorem Grf.needs(h:Grf r L vi vs bw bi w){i:Nat}(hi:i<L.length):Calls Tryz.prog 67 #[grfV vi vs r.output bw bi,.int .i64 i] w (gG (bK r.steps i) w):=by
 obtain⟨nw,hw⟩:=h.wr;obtain⟨y,hy,hym⟩:=getElem?_of_lt hi;have e:bK r.steps i=fB r.steps y.2:=by rw[<-h.rcp.map];exact needsAt_of hy
 rw[e];exact needs_any r.steps vi vs r.output bw bi nw L i y w h.rcp.stp hy hw (h.src y hym)
end
def DoneIs(w:World)(b:Nat)(done:Nat->Bool):Prop:=∃n m,bD kInt dO w b n m/\n<=1000/\∀i:Nat,(m i).getD false=done i
theorem DoneIs.later{w w':World}{b:Nat}{done:Nat->Bool}(h:DoneIs w b done)(hb:Below w.heap.size w w'):DoneIs w' b done:=by
 obtain⟨n,m,h1,h2,h3⟩:=h;exact⟨n,m,h1.later hb,h2,h3⟩
theorem DoneIs.look{w:World}{b:Nat}{done:Nat->Bool}(h:DoneIs w b done){i:Nat}(hi:i<9223372036854775808):(Instr.lookup 104 (.map (some b)) (.int .i64 i) false).run Tryz.prog w=.ok (.bool (done i)) w:=by
 obtain⟨n,m,h1,-,h3⟩:=h;have:=h1.look Tryz.underlying104 (x:=(i:Int)) (nat_wf hi);rw[show(m i).getD dO.zero=done i from h3 i] at this;exact this
theorem ready1_any(k p b:Nat)(done:Nat->Bool)(w:World)(hp:w.cell? ⟨p,0,none⟩=some (.map (some b)))(hd:DoneIs w b done)(hk:k<9223372036854775808):
  Calls Tryz.prog 96 #[.int .i64 k,.pointer (some ⟨p,0,none⟩)] w fun e w'=>e=.returned (.bool (!done k))/\w=w':=by
 have hl:=hd.look hk;generalize done k=q at hl ⊢;clear hd;go_enter Tryz.func96,Tryz.ntmps96;exact uH
theorem enters_ready1:∀args w,(callFunc 96 args).run Tryz.prog w=.ok (.enter 96 args) w:=enters_of Tryz.func96 vU rfl
theorem anyV_unit(p:Nat->Bool):∀l:List Nat,lD (fun(s:Unit)k=>(s,p k)) () l=((),l.any p)
 |[]=>rfl
 |k::r=>by
  rw[lD]
  cases h:p k with
  |true=>simp[h]
  |false=>rw[if_neg vZ,anyV_unit p r];simp[h]
theorem oU(g:FuncId)(cap:Array Value)(p:Nat->Bool)(l:List Nat)(v:Value)(w:World)(hI:gZ w v (bI l))(eg:∀args w,(callFunc g args).run Tryz.prog w=.ok (.enter g args) w)
  (hp:∀x,x∈l->∀W,Below w.heap.size w W->Calls Tryz.prog g (#[.int .i64 (x:Int)]++cap) W fun e W'=>e=.returned (.bool (p x))/\Below W.heap.size W W'):
  Calls Tryz.prog 61 #[v,.func (.func g) #[] cap] w fun e w'=>e=.returned (.bool (l.any p))/\Below w.heap.size w w':=by
 refine(qR g cap (fun(s:Unit)k=>(s,p k)) l v (fun W _=>Below w.heap.size w W) w () (Below.refl _ _) ⟨fun W _ hb=>hI.later hb,eg,fun x hx W s hb=>?_⟩).mono ?_
 ·refine(hp x hx W hb).mono ?_;rintro e W' ⟨rfl,h⟩;exact⟨rfl,aB hb h⟩
 ·rw[anyV_unit];rintro e W' ⟨rfl,h⟩;exact⟨rfl,h⟩
end Go.Proofs.YtacgopankhpnbaaGreatDoor
namespace Go.Proofs.YtacgopankhpnbaaGreatDoor
set_option maxHeartbeats 2000000
set_option maxRecDepth 100000
open Go.RowKit
structure Gath (W0:World) (l:List Nat) (v:Value) (wr:World):Prop where
 own:wr.ownsRow W0.heap.size 3 1 v l.length ((bI l).map (Value.int .i64))
 below:Below W0.heap.size W0 wr
theorem Gath.first(W0:World):Gath W0 [] (.slice none 0 0) W0:=⟨by simpa using World.ownsRow_nil _ _ _ _,Below.refl _ _⟩
theorem Gath.later{W0 wr w2:World}{l:List Nat}{v:Value}(h:Gath W0 l v wr)(hb:Below wr.heap.size wr w2):Gath W0 l v w2:=
 ⟨h.own.kept (row:=none) ⟨hb.os,hb.tape,hb.output,hb.size,fun k hk _=>hb.block k hk⟩ (Classical.em _),h.below.trans (hb.mono h.below.size)⟩
theorem Gath.added{W0 wr w3:World}{l:List Nat}{v v':Value}{j:Nat}{o:Obj}(h:Gath W0 l v wr)(hown:w3.ownsRow W0.heap.size 3 1 v' (l.length+1) ((bI l).map (Value.int .i64)++[.int .i64 j]))(hg:(wr.alloc o).grownBy w3 v.ownBlock):Gath W0 (l++[j]) v' w3:=by
 have hz:wr.heap.size+1<=w3.heap.size:=zN;have hbb:=h.below;refine⟨yP,?_⟩;exact tM
theorem Gath.post{w W0 w':World}{l:List Nat}{v:Value}(h:Gath W0 l v w')(hw:Below w.heap.size w W0):gG l w (.returned v) w':=by
 refine⟨v,rfl,ints_of_owns (by simpa[bI] using h.own),fun a n c e=>?_,aB hw h.below⟩;subst e;have:=(h.own.lt a.block rfl).1;have:=hw.size;omega
def lY(steps:List Stp)(done:Nat->Bool)(k:Nat):List Nat:=(List.range k).filter (jP steps done)
theorem readyTo_yes{steps:List Stp}{done:Nat->Bool}{k:Nat}(h:jP steps done k=true):lY steps done (k+1)=lY steps done k++[k]:=by
 unfold lY;rw[List.range_succ,List.filter_append];simp[h]
theorem readyTo_no{steps:List Stp}{done:Nat->Bool}{k:Nat}(h:jP steps done k=false):lY steps done (k+1)=lY steps done k:=by
 unfold lY;rw[List.range_succ,List.filter_append];simp[h]
theorem readyTo_len(steps:List Stp)(done:Nat->Bool)(k:Nat):(lY steps done k).length<=k:=by
 unfold lY;have:=List.length_filter_le (jP steps done) (List.range k);simpa using this
theorem ready_any(r:Rcp)(L:List (Value×Stp))(vi vs:Value)(bw bi bd:Nat)(done:Nat->Bool)(w:World)(h:Grf r L vi vs bw bi w)(hd:DoneIs w bd done):
  Calls Tryz.prog 64 #[grfV vi vs r.output bw bi,.map (some bd)] w (gG (bG r.steps done) w):=by
 have hw0:Below w.heap.size w ((w.alloc (cD vi vs r.output bw bi)).alloc (.cells #[.map (some bd)] 104)):=aB (aA _ _) (aA _ _);have HB0:=zh hw0;have HBox:=zh (aD (aA _ (.cells #[.map (some bd)] 104)) (aN w (cD vi vs r.output bw bi)))
 have HDb:=zh (show((w.alloc (cD vi vs r.output bw bi)).alloc (.cells #[.map (some bd)] 104)).heap[w.heap.size+1]? =some (.cells #[.map (some bd)] 104) by
  have:=aN (w.alloc (cD vi vs r.output bw bi)) (.cells #[.map (some bd)] 104)
  simpa only[World.size_alloc] using this)
 obtain⟨i0,hi0,hz0,hz1,hz2⟩:=info_parts intInfo;obtain⟨ai,ci,av,cv,rfl,rfl⟩:=h.rcp.slices;have h60:=h.few;have hlen:=h.rcp.len;have HR:=zh (show bG r.steps done=lY r.steps done L.length by unfold bG lY;rw[hlen]);rw[HR.out];have HG:=zh h;have HD:=zh hd;clear h hd hw0 hlen HR;go_enter Tryz.func64,Tryz.ntmps64;go_wp2_with fail;generalize hW:(w.alloc (cD (.slice ai r.inputs.length ci) (.slice av L.length cv) r.output bw bi)).alloc (.cells #[.map (some bd)] 104)=W0 at HB0 HBox HDb ⊢;clear hW;go_loopw [5,11] (fun v i wr=>∃k:Nat,k<=L.length/\i=.int .i64 k/\Hid (Gath W0 (lY r.steps done k) v wr)) (fun _ i _=>L.length-(intOf i).toNat)
 case atStart=>exact⟨0,Nat.zero_le _,rfl,zh (Gath.first W0)⟩
 case round=>
  obtain⟨k,hk,rfl,HR⟩:=hrel;rename World=>wr
  rename Value=>vo
  by_cases hlt:k<L.length
  ·have HBw:=zh (aB HB0.out HR.out.below);have hdb:=box1 (aD HR.out.below HDb.out);have hl:=(HD.out.later HBw.out).look (i:=k) vT;have hrl:=readyTo_len r.steps done k;have hbz:W0.heap.size<=wr.heap.size:=HR.out.below.size
   cases hdk:done k with
   |true=>
    rw[hdk] at hl;have HN:=zh (readyTo_no (steps:=r.steps) (show jP r.steps done k=false by unfold jP;rw[hdk];rfl));clear hdk;go_wp2_with fail;go_roundw;(case rel=>exact⟨k+1,vT,wH,zh (by rw[HN.out];exact HR.out)⟩);case measure=>simp[intOf];omega
   |false=>
    rw[hdk] at hl;have HNe:=zh ((HG.out.later HBw.out).needs hlt);obtain⟨g0,g1,g2,g3,g4⟩:=box5 (aD HR.out.below HBox.out)
    have HCF:Hid (∀v W,Below wr.heap.size wr W->gZ W v (bI (bK r.steps k))->Calls Tryz.prog 61 #[v,.func (.func 96) #[] #[.pointer (some ⟨w.heap.size+1,0,none⟩)]] W fun e w'=>e=.returned (.bool ((bK r.steps k).any fun j=> !done j))/\Below W.heap.size W w'):=
     zh fun v W hb hI=>oU 96 #[.pointer (some ⟨w.heap.size+1,0,none⟩)] (fun j=> !done j) (bK r.steps k) v W hI enters_ready1 (fun x hx W' hb'=>by
      have hb2:=aB hb hb';refine(ready1_any x (w.heap.size+1) bd done W' (aC hb2 hdb) ((HD.out.later HBw.out).later hb2) (by have:=oO hx;have:=HG.out.rcp.len;omega)).mono ?_;rintro e w' ⟨rfl,rfl⟩
      exact⟨rfl,Below.refl _ _⟩)
    cases hq:(bK r.steps k).any fun j=> !done j with
    |true=>
     rw[hq] at HCF;have HN:=zh (readyTo_no (steps:=r.steps) (show jP r.steps done k=false by unfold jP;rw[hdk,hq];rfl));clear hdk hq;go_wp2_with fail;refine HNe.out.mono ?_;rintro e w2 ⟨v,rfl,hI,-,hb⟩;have HC2:=zh (HCF.out v w2 hb hI);have HB2:=zh hb;clear hI hb;go_wp2_with fail;refine HC2.out.mono ?_;rintro e w3 ⟨rfl,hb⟩;have HB3:=zh hb;clear hb;go_wp2_with fail;go_roundw;(case rel=>exact⟨k+1,vT,wH,zh (by rw[HN.out];exact HR.out.later (aB HB2.out HB3.out))⟩);case measure=>simp[intOf];omega
    |false=>
     rw[hq] at HCF;have HN:=zh (readyTo_yes (steps:=r.steps) (show jP r.steps done k=true by unfold jP;rw[hdk,hq];rfl));clear hdk hq;go_wp2_with fail;refine HNe.out.mono ?_;rintro e w2 ⟨v,rfl,hI,-,hb⟩;have HC2:=zh (HCF.out v w2 hb hI);have HB2:=zh hb;clear hI hb;go_wp2_with fail;refine HC2.out.mono ?_;rintro e w3 ⟨rfl,hb⟩;have HR3:=zh (HR.out.later (aB HB2.out hb));have hbz3:W0.heap.size<=w3.heap.size:=HR3.out.below.size;clear hb;go_wp2_with(at_builtin;refine wpList_append_own _ rfl _ _ 26 rfl W0.heap.size 3 i0 (.int .i64 0) 1 8 Tryz.underlying26 hi0 hz0 hz1 hz2 rfl vV _ _ _ rfl (HR3.out.own.alloc _) ⟨w3.heap.size,0,none⟩ 1 1 [.int .i64 k] rfl rfl (cell_one_new _ _ _) wN wK vT wQ ?_);intro v' w4 hown hgrow _;have HNew:=zh (HR3.out.added yP hgrow);clear hown hgrow;go_wp2_with fail;go_roundw;(case rel=>exact⟨k+1,vT,wH,zh (by rw[HN.out];exact HNew.out)⟩);case measure=>simp[intOf];omega
  ·obtain rfl:k=L.length:=vT;go_wp2_with fail;go_ret;exact HR.out.post HB0.out
set_option maxHeartbeats 1000000
theorem choose_any(l:List Nat)(next:List Int)(u:Nat)(vl vn:Value)(w:World)(hl:gZ w vl (bI l))(hn:gZ w vn next)(hpos:0<l.length)(hwf:∀x,x∈next->(Lit.int .i64 x).wf=true):
  Calls Tryz.prog 65 #[vl,vn,.int .i64 u] w fun e w'=>e=.returned (.int .i64 (eC l next u))/\w=w':=by
 rcases hl.cases with⟨e,-⟩|⟨b,o,c,rfl,-,hb1,hb2,-,hc⟩
 ·rw[bI,List.map_eq_nil_iff] at e;subst e;simp at hpos
 rw[show(bI l).length=l.length by simp] at hb1 ⊢;have hk:gB (next.getD u 0) l.length<l.length:=(tmod_cases _ _ hpos).2;have hT:=(tmod_cases (next.getD u 0) _ hpos).1;generalize hK:gB (next.getD u 0) l.length=k at hk hT
 have hcell:w.cell? ⟨b,o+k,none⟩=some (.int .i64 (eC l next u)):=by
  have:(bI l)[k]? =some (eC l next u:Int):=by
   unfold eC bI;rw[List.getElem?_map,hK,List.getD_eq_getElem?_getD,List.getElem?_eq_getElem hk];rfl
  exact hc k _ this
 have HK:=zh hK;clear hK;have HC:=zh hc;clear hc hl;generalize eC l next u=R at hcell ⊢
 by_cases hlt:u<next.length
 ·rcases hn.cases with⟨e,-⟩|⟨bn,on,cn,rfl,-,hn1,hn2,-,hcn⟩
  ·subst e;simp at hlt
  obtain⟨x,hx,hxm⟩:=getElem?_of_lt hlt;have hcx:w.cell? ⟨bn,on+u,none⟩=some (.int .i64 x):=hcn u x hx;have hX:next.getD u 0=x:=by rw[List.getD_eq_getElem?_getD,hx];rfl
  rw[hX] at hT;obtain⟨hx0,hx1⟩:=i64_bounds (hwf x hxm);have hTe:(x.tmod l.length<0/\x.tmod l.length=(k:Int)-l.length)\/(0<=x.tmod l.length/\x.tmod l.length=(k:Int)):=vT;clear hT hX hcn hx hxm hwf hn;rcases hTe with⟨hneg,hTe⟩|⟨hneg,hTe⟩
  all_goals
   go_enter Tryz.func65,Tryz.ntmps65;go_wp2_with fail;go_ret;exact⟨rfl,rfl⟩
 ·have hX:next.getD u 0=0:=by rw[List.getD_eq_getElem?_getD,List.getElem?_eq_none vT];rfl
  rw[hX,Int.zero_tmod] at hT;obtain rfl:k=0:=vT;rw[Nat.add_zero] at hcell;obtain⟨an,cn,hvn,-⟩:=id hn;subst hvn;clear hT hX hwf hn;go_enter Tryz.func65,Tryz.ntmps65;exact uH
def iS(w:World)(b:Nat)(done:Nat->Bool)(len:Nat):Prop:=∃n m,bD kInt dO w b n m/\n+dR done len<=100/\∀i:Nat,(m i).getD false=done i
theorem iS.is{w:World}{b len:Nat}{done:Nat->Bool}(h:iS w b done len):DoneIs w b done:=by
 obtain⟨n,m,h1,h2,h3⟩:=h;exact⟨n,m,h1,vT,h3⟩
theorem iS.lt{w:World}{b len:Nat}{done:Nat->Bool}(h:iS w b done len):b<w.heap.size:=by obtain⟨n,m,h1,-⟩:=h;exact h1.lt
theorem iS.isMap{w:World}{b len:Nat}{done:Nat->Bool}(h:iS w b done len):dE w b:=by obtain⟨n,m,h1,-⟩:=h;exact dE.of h1
theorem iS.later{w w':World}{b len:Nat}{done:Nat->Bool}(h:iS w b done len)(hb:Below w.heap.size w w'):iS w' b done len:=by
 obtain⟨n,m,h1,h2,h3⟩:=h;exact⟨n,m,h1.later hb,h2,h3⟩
theorem iS.of_block{w w':World}{b len:Nat}{done:Nat->Bool}(h:iS w b done len)(hb:w'.heap[b]? =w.heap[b]?):iS w' b done len:=by
 obtain⟨n,m,h1,h2,h3⟩:=h;exact⟨n,m,h1.of_block hb,h2,h3⟩
open Classical in
theorem iS.set{w:World}{b len i:Nat}{done:Nat->Bool}(h:iS w b done len)(hi:i<len)(hd:done i=false)(hl:len<=1000000):
  ∃w',(Instr.mapUpdate 104 (.map (some b)) (.int .i64 i) (.bool true)).run Tryz.prog w=.ok () w'/\iS w' b (kM done i) len/\w.grownBy w' (some b):=by
 obtain⟨n,m,h1,h2,h3⟩:=h;have hp:=gM hd len hi;obtain⟨w',hrun,hm',hg⟩:=h1.store Tryz.underlying104 wK (x:=(i:Int)) (nat_wf vT) (y:=true) trivial;refine⟨w',hrun,⟨n+1,_,hm',vT,fun j=>?_⟩,hg⟩;by_cases hj:j=i
 ·subst hj;simp[kM]
 ·have:¬(j:Int)=i:=vT;simp only[this,if_false,kM,hj];exact h3 j
theorem iS.first(w:World)(len:Nat)(h:len<=100):iS (w.alloc (.map #[] 0)) w.heap.size (fun _=>false) len:=
 ⟨0,fun _=>none,bD.made (K:=kInt) (V:=dO) w,by have:=leftN_le (fun _=>false) len;omega,fun _=>rfl⟩
structure OrdSt (steps:List Stp) (len:Nat) (wb:World) (done:Nat->Bool) (out:List Nat) (v6:Value) (wr:World):Prop where
 map:iS wr wb.heap.size done len
 own:wr.ownsRow (wb.heap.size+1) 3 1 v6 out.length ((bI out).map (Value.int .i64))
 cnt:out.length+dR done len=len
 below:Below wb.heap.size wb wr
 left:oK steps=kD steps (dR done len+1) done out
theorem grown_below{w wr w1:World}{b:Nat}(h:Below w.heap.size w wr)(hg:wr.grownBy w1 (some b))(hb:w.heap.size<=b):Below w.heap.size w w1:=(iX hg).below h hb h.size
theorem own_map{wr w1:World}{bd:Nat}{v:Value}{l:List Nat}(h:wr.ownsRow (bd+1) 3 1 v l.length ((bI l).map (Value.int .i64)))(hg:wr.grownBy w1 (some bd)):w1.ownsRow (bd+1) 3 1 v l.length ((bI l).map (Value.int .i64)):=
 nL h (iX hg) vT
theorem own_later{wr w1:World}{B:Nat}{v:Value}{l:List Nat}(h:wr.ownsRow B 3 1 v l.length ((bI l).map (Value.int .i64)))(hb:Below wr.heap.size wr w1):w1.ownsRow B 3 1 v l.length ((bI l).map (Value.int .i64)):=
 h.kept (row:=none) ⟨hb.os,hb.tape,hb.output,hb.size,fun k hk _=>hb.block k hk⟩ (Classical.em _)
theorem grown_block{wr w3:World}{o:Obj}{v:Value}{B j:Nat}{e:TypeId}{size n:Nat}{xs:List Value}(hg:(wr.alloc o).grownBy w3 v.ownBlock)(hown:wr.ownsRow B e size v n xs)(hj:j<wr.heap.size)(hB:j<B):w3.heap[j]? =wr.heap[j]? :=by
 rw[hg.block j wQ (fun e=>by have:=(hown.lt j e.symm).1;omega),Below.heap_alloc _ _ _ vT]
theorem grown_below2{w wr w3:World}{o:Obj}{v:Value}{B:Nat}{e:TypeId}{size n:Nat}{xs:List Value}(h:Below w.heap.size w wr)(hg:(wr.alloc o).grownBy w3 v.ownBlock)(hown:wr.ownsRow B e size v n xs)(hB:w.heap.size<=B):Below w.heap.size w w3:=by
 have hz:wr.heap.size+1<=w3.heap.size:=zN;have hs:=h.size;exact⟨hg.os.trans h.os,hg.tape.trans h.tape,hg.output.trans h.output,vT,fun j hj=>(grown_block hg hown vT vT).trans (h.block j hj)⟩
theorem OrdSt.later{steps:List Stp}{len:Nat}{wb:World}{done:Nat->Bool}{out:List Nat}{v6:Value}{wr w':World}(h:OrdSt steps len wb done out v6 wr)(hb:Below wr.heap.size wr w'):OrdSt steps len wb done out v6 w':=
 ⟨h.map.later hb,own_later h.own hb,h.cnt,aB h.below hb,h.left⟩
theorem nU:∀n,dR (fun _=>false) n=n
 |0=>rfl
 |n+1=>by rw[dR,nU n];rfl
theorem OrdSt.first{steps:List Stp}{len:Nat}(wb:World)(hl:steps.length=len)(h60:len<=60):OrdSt steps len wb (fun _=>false) [] (.slice none 0 0) (wb.alloc (.map #[] 0)):=
 ⟨iS.first wb len vT,by simpa using World.ownsRow_nil _ _ _ _,by rw[nU];simp,aA _ _,by rw[nU,<-hl];rfl⟩
theorem own_len{w:World}{base:Nat}{e:TypeId}{size:Nat}{v:Value}{n:Nat}{xs:List Value}(h:w.ownsRow base e size v n xs):lV v=n:=by
 rcases h.2 with⟨rfl,h0⟩|⟨g,cap,cur,rfl,_⟩
 ·exact h0.symm
 ·rfl
theorem OrdSt.post{steps:List Stp}{len:Nat}{wb w wr:World}{done:Nat->Bool}{out:List Nat}{v6:Value}(h:OrdSt steps len wb done out v6 wr)(hr:bG steps done=[])(hb:Below w.heap.size w wb):gG (oK steps) w (.returned v6) wr:=by
 have e:oK steps=out:=by
  rw[h.left,kD,hr]
 have hs:=hb.size;rw[e];refine⟨v6,rfl,ints_of_owns (by simpa[bI] using h.own),fun a n c e=>?_,hb.trans (h.below.mono hs)⟩;have:=owns_block h.own (Nat.le_refl _) a n c e;omega
theorem OrdSt.next{steps:List Stp}{len:Nat}{wb:World}{done:Nat->Bool}{out:List Nat}{v6 v':Value}{wr w1 w3:World}{i:Nat}{rest:List Nat}{o:Obj}(h:OrdSt steps len wb done out v6 wr)
  (hr:bG steps done=i::rest) (hm:iS w1 wb.heap.size (kM done i) len) (hg:wr.grownBy w1 (some wb.heap.size))
  (hown:w3.ownsRow (wb.heap.size+1) 3 1 v' (out.length+1) ((bI out).map (Value.int .i64)++[.int .i64 i])) (hg3:(w1.alloc o).grownBy w3 v6.ownBlock) (hlt:steps.length=len):OrdSt steps len wb (kM done i) (out++[i]) v' w3:=by
 obtain⟨h1,h2,-⟩:=lJ (show i∈bG steps done by rw[hr];simp);have hl:=gM h2 len vT;have hown1:=own_map h.own hg;have hbl:=h.below.size;refine⟨hm.of_block (grown_block hg3 hown1 hm.lt vT),yP,by have:=h.cnt;simp;omega,grown_below2 (grown_below h.below hg vT) hg3 hown1 vT,?_⟩;rw[h.left,<-hl,kD,hr]
set_option maxHeartbeats 4000000
theorem order_good(r:Rcp)(L:List (Value×Stp))(vi vs:Value)(w:World)(h:fZ r L vi vs w)(he:bC r=0):
  Calls Tryz.prog 33 #[nD vi vs r.output] w (gG (iW r) w):=by
 have HI:=zh (h.later (aA w (dG vi vs r.output))).inspect;have HE:=zh (show iW r=oK r.steps by unfold iW;rw[if_neg (by simp[he])]);rw[HE.out];have HR:=zh (mY he);have HRcp:=zh h;have hlen:=h.len;have hL60:L.length<=60:=by have:=HR.out.few;omega
 obtain⟨i0,hi0,hz0,hz1,hz2⟩:=info_parts intInfo;have hmm:=@run_makeMap Tryz.prog;obtain⟨ai,ci,av,cv,rfl,rfl⟩:=h.slices;have H0:=zh he
 have HSrc:=zh (show ∀y,y∈L->y.2.src.length<=1000000 from fun y hy=>by
  have:=HR.out.steps y.2 zS;have:=(dS this).2.2.1
  omega)
 have HLen:=zh hlen;clear h he hlen HE;go_enter Tryz.func33,Tryz.ntmps33;go_wp2_with fail;refine HI.out.mono ?_;rintro e w2 ⟨rfl,hb,hm⟩;obtain⟨nw,ni,hmw,hmi⟩:=hm H0.out;have HB:=zh (aB (aB (aA w _) hb) (aA w2 (cD (.slice ai r.inputs.length ci) (.slice av L.length cv) r.output (w.heap.size+1+1+1) (w.heap.size+1+1+1+1))))
 have HG:=zh (show Grf r L (.slice ai r.inputs.length ci) (.slice av L.length cv) (w.heap.size+1+1+1) (w.heap.size+1+1+1+1) (w2.alloc (cD (.slice ai r.inputs.length ci) (.slice av L.length cv) r.output (w.heap.size+1+1+1) (w.heap.size+1+1+1+1))) from
  ⟨HRcp.out.later HB.out,⟨nw,by have:=hmw.later (aA w2 (cD (.slice ai r.inputs.length ci) (.slice av L.length cv) r.output (w.heap.size+1+1+1) (w.heap.size+1+1+1+1)));simpa only[World.size_alloc] using this⟩,hL60,HSrc.out⟩)
 have HBx:=zh (aN w2 (cD (.slice ai r.inputs.length ci) (.slice av L.length cv) r.output (w.heap.size+1+1+1) (w.heap.size+1+1+1+1)));have HO:=zh (OrdSt.first (steps:=r.steps) (w2.alloc (cD (.slice ai r.inputs.length ci) (.slice av L.length cv) r.output (w.heap.size+1+1+1) (w.heap.size+1+1+1+1))) HLen.out hL60);have hsz:(w2.alloc (cD (.slice ai r.inputs.length ci) (.slice av L.length cv) r.output (w.heap.size+1+1+1) (w.heap.size+1+1+1+1))).heap.size=w2.heap.size+1:=World.size_alloc _ _;have HSz:=zh hsz;rw[H0.out];clear hb hm hmw hmi HI hsz;go_wp2_with fail;generalize hWb:w2.alloc (cD (.slice ai r.inputs.length ci) (.slice av L.length cv) r.output (w.heap.size+1+1+1) (w.heap.size+1+1+1+1))=wb at HB HG HBx HO HSz ⊢;clear hWb
 have HRd:Hid (∀done W,Below wb.heap.size wb W->iS W wb.heap.size done L.length->Calls Tryz.prog 64 #[grfV (.slice ai r.inputs.length ci) (.slice av L.length cv) r.output (w.heap.size+1+1+1) (w.heap.size+1+1+1+1),.map (some (w2.heap.size+1))] W (gG (bG r.steps done) W)):=
  zh fun done W hb hd=>by
   have:=ready_any r L _ _ _ _ wb.heap.size done W (HG.out.later hb) hd.is
   rwa [HSz.out] at this
 refine(HRd.out (fun _=>false) _ (aA _ _) HO.out.map).mono ?_;rintro e w3 ⟨v7,rfl,hI,-,hb⟩;have HI:=zh hI;have HO3:=zh (HO.out.later hb);clear hI hb HO;go_wp2_with fail;go_loopw [6,7] (fun v6 v7 wr=>∃(done:Nat->Bool)(out:List Nat),Hid (OrdSt r.steps L.length wb done out v6 wr)/\Hid (gZ wr v7 (bI (bG r.steps done)))) (fun v6 _ _=>L.length-lV v6)
 case atStart=>exact⟨_,_,HO3,HI⟩
 case round=>
  clear HO3 HI;obtain⟨done,out,HO,HI⟩:=hrel;rename World=>wr
  generalize hv6:u6=v6 at *;generalize hv7:u7=v7 at *;clear hv6 hv7
  obtain⟨a7,c7,e7⟩:∃a c,v7=.slice a (bG r.steps done).length c:=by
   obtain⟨a,c,hv,-⟩:=HI.out;exact⟨a,c,by rw[hv];simp⟩
  subst e7
  cases hr:bG r.steps done with
  |nil=>
   have HF:=zh (HO.out.post hr HB.out);rw[hr] at HI;clear hr;go_wp2_with fail;go_ret;exact HF.out
  |cons i rest=>
   have HRy:=zh hr;rw[hr] at HI;obtain⟨hi,hid,-⟩:=lJ (show i∈bG r.steps done by rw[hr];simp)
   have hlen0:out.length<L.length:=by
    have h1:=HO.out.cnt;have h2:=leftN_pos (n:=L.length) (by rw[<-HLen.out];exact hi) hid;omega
   obtain⟨w1,hrun,hm1,hg1⟩:=HO.out.map.set (i:=i) (by rw[<-HLen.out];exact hi) hid vT;rw[HSz.out] at hrun;have HM1:=zh hm1;have HG1:=zh hg1;have hsl:lV v6=out.length:=own_len HO.out.own;have HSl:=zh hsl;rcases HI.out.cases with⟨e,-⟩|⟨b,o,c,e,-,-,-,-,hc⟩
   ·simp at e
   obtain⟨rfl,rfl⟩:a7=some ⟨b,o,none⟩/\c7=c:=by
    simp only[bI,List.map_cons,List.length_cons,List.length_map] at e;injection e with e1 e2 e3;exact⟨e1,e3⟩
   have c0:wr.cell? ⟨b,o,none⟩=some (.int .i64 i):=hc 0 _ rfl;have c1:w1.cell? ⟨b,o,none⟩=some (.int .i64 i):=HO.out.map.isMap.cell (iX hg1) c0;have hown1:=own_map HO.out.own hg1;have HOwn1:=zh hown1;have hbw:wb.heap.size<w1.heap.size:=hm1.lt;clear hr hi hid hm1 hg1 hsl hc e hown1;go_wp2_with(at_builtin;refine wpList_append_own _ rfl _ _ 26 rfl (wb.heap.size+1) 3 i0 (.int .i64 0) 1 8 Tryz.underlying26 hi0 hz0 hz1 hz2 rfl vV _ _ _ rfl (HOwn1.out.alloc _) ⟨w1.heap.size,0,none⟩ 1 1 [.int .i64 i] rfl rfl (cell_one_new _ _ _) wN wK vT wQ ?_);intro v' w3 hown hgrow _;have HN:=zh (HO.out.next HRy.out HM1.out HG1.out yP hgrow HLen.out);have hsl3:lV v'=out.length+1:=own_len hown;have HSl3:=zh hsl3;obtain⟨g0,g1,g2,g3,g4⟩:=box5 (aD HN.out.below HBx.out);have HCall:=zh (HRd.out (kM done i) w3 HN.out.below HN.out.map);clear hown hgrow hsl3;go_wp2_with fail;refine HCall.out.mono ?_;rintro e w4 ⟨v8,rfl,hI,-,hb⟩;have HI4:=zh hI;have HN4:=zh (HN.out.later hb);clear hI hb g0 g1 g2 g3 g4;go_wp2_with fail;go_roundw;(case rel=>exact⟨_,_,HN4,HI4⟩);case measure=>rw[HSl3.out,HSl.out];omega
theorem uS{p:Prop}(h:p:=by
 intro a n c e;rcases h.cases with⟨h0,-⟩|⟨b,o,c',hv,-,-,-,hb,-⟩
 ·exact absurd h0 hne
 ·rw[hv] at e;injection e with e1;cases e1;exact hb):p:=h
def encDn(w:World)(y:Value×Dn)(cs:List Value):Prop:=cs=[.int .i64 y.2.step,y.1,.string y.2.out]/\Strs w y.1 y.2.saw/\y.2.out.size<=140737488355328
def Dns(w:World)(v:Value)(l:List (Value×Dn)):Prop:=Row 3 encDn w v l
theorem Dns.cases{w:World}{v:Value}{l:List (Value×Dn)}(h:Dns w v l):
  (l=[]/\∃a c,v=.slice a 0 c)\/(∃b o c,v=.slice (some ⟨b,o,none⟩) l.length c/\0<l.length/\l.length<=c/\c<=9223372036854775807/\b<w.heap.size/\
   ∀i y,l[i]? =some y->w.cell? ⟨b,o+i*3,none⟩=some (.int .i64 y.2.step)/\w.cell? ⟨b,o+i*3+1,none⟩=some y.1/\w.cell? ⟨b,o+i*3+2,none⟩=some (.string y.2.out)/\Strs w y.1 y.2.saw/\y.2.out.size<=140737488355328):=by
 rcases Row.cases h with h|⟨b,o,c,hv,h0,h1,h2,hb,hc⟩
 ·exact .inl h
 ·refine .inr ⟨b,o,c,hv,h0,h1,h2,hb,fun i y hy=>?_⟩;obtain⟨cs,⟨e,hs,hz⟩,-,hj⟩:=hc i y hy;subst e;exact⟨hj 0 _ rfl,hj 1 _ rfl,hj 2 _ rfl,hs,hz⟩
theorem dns_slice{w:World}{v:Value}{l:List (Value×Dn)}(h:Dns w v l):∃a c,v=.slice a l.length c:=by
 exact uX
def jO(l:List (Value×Dn)):List Value:=l.flatMap fun y=>[.int .i64 y.2.step,y.1,.string y.2.out]
theorem dnCells_snoc(l:List (Value×Dn))(y:Value×Dn):jO l++[.int .i64 y.2.step,y.1,.string y.2.out]=jO (l++[y]):=by simp[jO]
theorem dnCells_at:∀(l:List (Value×Dn))(i:Nat)(y:Value×Dn),l[i]? =some y->(jO l)[i*3]? =some (.int .i64 y.2.step)/\(jO l)[i*3+1]? =some y.1/\(jO l)[i*3+2]? =some (.string y.2.out)
 |[],i,y,h=>yL
 |x::l,0,y,h=>by simp at h;subst h;exact⟨rfl,rfl,rfl⟩
 |x::l,i+1,y,h=>by
  have:=dnCells_at l i y xL;rw[show jO (x::l)=[.int .i64 x.2.step,x.1,.string x.2.out]++jO l from rfl,show(i+1)*3=i*3+1+1+1 by omega];exact this
theorem dns_of_owns{w:World}{base:Nat}{e:TypeId}{v:Value}{l:List (Value×Dn)}(h:w.ownsRow base e 3 v l.length (jO l))(hz:∀y,y∈l->Strs w y.1 y.2.saw/\y.2.out.size<=140737488355328):Dns w v l:=by
 rcases h.2 with⟨rfl,h0⟩|⟨g,cap,cur,rfl,hg,hgb,r1,r2,r3,r4⟩
 ·exact tJ
 ·refine⟨_,cap,rfl,r1,r2,fun _=>⟨g,0,rfl,fun i y hy=>⟨_,⟨rfl,hz y (List.mem_of_getElem? hy)⟩,rfl,fun j u hu=>?_⟩⟩⟩;have hi:=(List.getElem?_eq_some_iff.1 hy).1;obtain⟨d0,d1,d2⟩:=dnCells_at l i y hy
  have get:∀k u,k<l.length*3->(jO l)[k]? =some u->w.cell? ⟨g,0+k,none⟩=some u:=fun k u hk hu=>by
   have:=congrArg (fun t:List Value=>t[k]?) r4;rw[List.getElem?_take,if_pos hk,hu] at this;(have h2:cur[k]? =some u:=by simpa using this);simp[World.cell?,hgb,h2]
  match j,hu with
  |0,hu=>cases hu;exact get _ _ vT d0
  |1,hu=>cases hu;rw[Nat.add_assoc];exact get _ _ vT d1
  |2,hu=>cases hu;rw[Nat.add_assoc];exact get _ _ vT d2
theorem Row.apart{α:Type}{k:Nat}{enc:World->α->List Value->Prop}{w w':World}{v:Value}{l:List α}(he:∀x cs,enc w x cs->enc w' x cs)(h:Row k enc w v l)
  (hb:∀a n c,v=.slice (some a) n c->l≠[]->w'.heap[a.block]? =w.heap[a.block]?):Row k enc w' v l:=by
 obtain⟨a,c,hv,h1,h2,h3⟩:=h;refine⟨a,c,hv,h1,h2,fun hne=>?_⟩;obtain⟨b,o,ha,hc⟩:=h3 hne;have hh:w'.heap[b]? =w.heap[b]? :=hb ⟨b,o,none⟩ _ _ (by rw[hv,ha]) hne;refine⟨b,o,ha,fun i x hx=>?_⟩;obtain⟨cs,e,hl,hj⟩:=hc i x hx;exact⟨cs,he x cs e,hl,fun j u hu=>(World.cell?_of_block (w:=w) (a:=⟨b,o+i*k+j,none⟩) hh).trans (hj j u hu)⟩
theorem eP.apart{w w':World}{v:Value}{l:List Fil}(h:eP w v l)(hb:∀a n c,v=.slice (some a) n c->l≠[]->w'.heap[a.block]? =w.heap[a.block]?):eP w' v l:=Row.apart (w:=w) (fun _ _ h=>h) h hb
theorem Strs.apart{w w':World}{v:Value}{l:List ByteArray}(h:Strs w v l)(hb:∀a n c,v=.slice (some a) n c->l≠[]->w'.heap[a.block]? =w.heap[a.block]?):Strs w' v l:=Row.apart (w:=w) (fun _ _ h=>h) h hb
theorem dnInfo:(Tryz.prog.info? 59).map (fun i=>(i.zero,i.size,i.bytes))=some (some (.agg #[.int .i64 0,.slice none 0 0,.string ByteArray.empty]),3,48):=vU
theorem pP{C:ByteArray->Int×ByteArray}{s:Stp}{files:List Fil}{clock order:List Int}{u0 u1 a b:Int}{text:ByteArray}{saw:List ByteArray}(h:aX C s files clock order u0 u1=.ok (text,saw,a,b)):
  aP s=true/\aI files s.out=none/\text.size<=65536/\(a=u0\/a=u0+1)/\(b=u1\/b=u1+s.src.length):=by
 unfold aX at h;split at h
 ·cases h
 rename_i h1;split at h
 ·cases h
 rename_i h2;split at h
 ·cases h
 split at h
 ·cases h
 rename_i saw0 hs
 have hr:aP s=true:=by
  cases hh:aP s with
  |true=>rfl
  |false=>rw[hh] at h1;simp at h1
 have hf:aI files s.out=none:=by simpa using h2
 split at h
 ·split at h
  ·cases h
  ·split at h
   ·cases h
   ·cases h;exact⟨hr,hf,vT,.inl rfl,.inl rfl⟩
 ·split at h
  ·cases h
  ·rename_i hbig;(injection h with h);refine⟨hr,hf,?_⟩;unfold aS at h hbig;split at h
   ·rename_i hk;rw[if_pos hk] at hbig;cases h;exact⟨AQ,.inl rfl,.inl rfl⟩
   ·rename_i hk;rw[if_neg hk] at hbig;split at h
    ·rename_i hk2;rw[if_pos hk2] at hbig;cases h;exact⟨AQ,.inl rfl,.inl rfl⟩
    ·rename_i hk2;rw[if_neg hk2] at hbig;split at h
     ·rename_i hk3;rw[if_pos hk3] at hbig;cases h;exact⟨AQ,.inr rfl,.inl rfl⟩
     ·rename_i hk3;rw[if_neg hk3] at hbig;split at h
      ·rename_i hk4;rw[if_pos hk4] at hbig;cases h;exact⟨AQ,.inl rfl,.inl rfl⟩
      ·rename_i hk4;rw[if_neg hk4] at hbig;cases h;exact⟨AQ,.inl rfl,.inr rfl⟩
theorem find_doFiles{s:Stp}{files:List Fil}{text:ByteArray}(h:aI files s.out=none):aI (cG s files text) s.out=some text:=by
 unfold aI at h ⊢;unfold cG;rw[Option.map_eq_none_iff] at h;rw[List.find?_append,h];simp
def Clear(v:Value)(ub:Nat)(v12:Value):Prop:=∀a n c,v=.slice (some a) n c->a.block≠ub/\a.block≠ub+1/\v12.ownBlock≠some a.block
structure RunW (len:Nat) (wb:World) (done:Nat->Bool) (out:List (Value×Dn)) (files:List Fil) (u0 u1:Int) (v9 v12:Value) (wr:World):Prop where
 used:wr.heap[wb.heap.size]? =some (.cells #[.int .i64 u0,.int .i64 u1] 31)
 map:iS wr (wb.heap.size+1) done len
 own:wr.ownsRow (wb.heap.size+1+1) 59 3 v12 out.length (jO out)
 fils:eP wr v9 files
 fclr:files≠[]->Clear v9 wb.heap.size v12
 flt:files≠[]->∀a n c,v9=.slice (some a) n c->a.block<wr.heap.size
 saws:∀y,y∈out->Strs wr y.1 y.2.saw/\(y.2.saw≠[]->Clear y.1 wb.heap.size v12/\∀a n c,y.1=.slice (some a) n c->a.block<wr.heap.size)/\y.2.out.size<=140737488355328
 below:Below wb.heap.size wb wr
theorem strs_lt{w:World}{v:Value}{l:List ByteArray}(h:Strs w v l)(hne:l≠[]):∀a n c,v=.slice (some a) n c->a.block<w.heap.size:=by
 exact uS
theorem fils_lt{w:World}{v:Value}{l:List Fil}(h:eP w v l)(hne:l≠[]):∀a n c,v=.slice (some a) n c->a.block<w.heap.size:=by
 exact uS
theorem clear_of_far{wr:World}{v v12:Value}{wb:World}{e:TypeId}{size n:Nat}{xs:List Value}(h:mI wr v)(hlt:wb.heap.size+1<wr.heap.size)(hown:wr.ownsRow (wb.heap.size+1+1) e size v12 n xs):Clear v wb.heap.size v12:=by
 intro a m c ha;have h1:=h a m c ha;refine⟨vT,vT,fun h2=>?_⟩;have:=(hown.lt _ h2).2;omega
section
variable {len:Nat} {wb:World} {done:Nat->Bool} {out:List (Value×Dn)} {files:List Fil} {u0 u1:Int} {v9 v12:Value} {wr:World}
theorem RunW.later{w':World}(h:RunW len wb done out files u0 u1 v9 v12 wr)(hb:Below wr.heap.size wr w'):RunW len wb done out files u0 u1 v9 v12 w':=by
 have hs:=hb.size
 exact⟨aD hb h.used,h.map.later hb,h.own.kept (row:=none) ⟨hb.os,hb.tape,hb.output,hb.size,fun k hk _=>hb.block k hk⟩ (Classical.em _),h.fils.later hb,h.fclr,
  fun hne a n c e=>Nat.lt_of_lt_of_le (h.flt hne a n c e) hs,
  fun y hy=>⟨(h.saws y hy).1.later hb,fun hne=>⟨((h.saws y hy).2.1 hne).1,fun a n c e=>Nat.lt_of_lt_of_le (((h.saws y hy).2.1 hne).2 a n c e) hs⟩,(h.saws y hy).2.2⟩,aB h.below hb⟩
theorem RunW.did{w4 w5:World}{files':List Fil}{vfl vsaw:Value}{saw:List ByteArray}{a b:Int}(h:RunW len wb done out files u0 u1 v9 v12 wr)(hb:Below wr.heap.size wr w4)(hF:eP w4 vfl files')(hff:mI wr vfl)(hS:Strs w4 vsaw saw)(hsf:saw≠[]->mI wr vsaw)
  (ho:bU wb.heap.size w4 w5) (hu:w5.heap[wb.heap.size]? =some (.cells #[.int .i64 a,.int .i64 b] 31)):
  RunW len wb done out files' a b vfl v12 w5/\Strs w5 vsaw saw/\(saw≠[]->Clear vsaw wb.heap.size v12/\∀a n c,vsaw=.slice (some a) n c->a.block<w5.heap.size):=by
 have h4:=h.later hb;have hub:wb.heap.size+1<wr.heap.size:=h.map.lt;have hs1:=hb.size;have hs2:=ho.size;have hcf:=clear_of_far hff hub h.own;have blk:∀{v:Value},Clear v wb.heap.size v12->(∀a n c,v=.slice (some a) n c->a.block<w4.heap.size)->∀a n c,v=.slice (some a) n c->w5.heap[a.block]? =w4.heap[a.block]? :=fun hc hl a n c e=>ho.block _ (hl a n c e) (hc a n c e).1;refine⟨⟨hu,h4.map.of_block (ho.block _ h4.map.lt vT),nL h4.own ho vT,eP.apart hF (fun a n c e hne=>blk hcf (fils_lt hF hne) a n c e),fun _=>hcf,fun hne a n c e=>Nat.lt_of_lt_of_le (fils_lt hF hne a n c e) hs2,fun y hy=>?_,ho.below h4.below (Nat.le_refl _) (by have:=h4.below.size;omega)⟩,?_,?_⟩
 ·obtain⟨y1,y2,y3⟩:=h4.saws y hy;refine⟨Strs.apart y1 (fun a n c e hne=>blk (y2 hne).1 (y2 hne).2 a n c e),fun hne=>⟨(y2 hne).1,fun a n c e=>Nat.lt_of_lt_of_le ((y2 hne).2 a n c e) hs2⟩,y3⟩
 ·exact Strs.apart hS (fun a n c e hne=>blk (clear_of_far (hsf hne) hub h.own) (strs_lt hS hne) a n c e)
 ·exact fun hne=>⟨clear_of_far (hsf hne) hub h.own,fun a n c e=>Nat.lt_of_lt_of_le (strs_lt hS hne a n c e) hs2⟩
theorem RunW.added{w7:World}{y:Value×Dn}{g n' cap:Nat}{o:Obj}(h:RunW len wb done out files u0 u1 v9 v12 wr)(hy:Strs wr y.1 y.2.saw/\(y.2.saw≠[]->Clear y.1 wb.heap.size v12/\∀a n c,y.1=.slice (some a) n c->a.block<wr.heap.size)/\y.2.out.size<=140737488355328)
  (hown:w7.ownsRow (wb.heap.size+1+1) 59 3 (.slice (some ⟨g,0,none⟩) n' cap) (out.length+1) (jO out++[.int .i64 y.2.step,y.1,.string y.2.out])) (hg:(wr.alloc o).grownBy w7 v12.ownBlock) (hl:v12.ownBlock=some g\/g=wr.heap.size+1):
  RunW len wb done (out++[y]) files u0 u1 v9 (.slice (some ⟨g,0,none⟩) n' cap) w7:=by
 have hub:wb.heap.size+1<wr.heap.size:=h.map.lt;have hz:wr.heap.size+1<=w7.heap.size:=zN
 have keep:∀k,k<wr.heap.size->v12.ownBlock≠some k->w7.heap[k]? =wr.heap[k]? :=fun k hk hne=>by
  rw[hg.block k wQ (fun e=>hne e.symm),Below.heap_alloc _ _ _ hk]
 have clr:∀{v:Value},Clear v wb.heap.size v12->(∀a n c,v=.slice (some a) n c->a.block<wr.heap.size)->Clear v wb.heap.size (.slice (some ⟨g,0,none⟩) n' cap):=fun hc hlt a n c e=>by
  obtain⟨c1,c2,c3⟩:=hc a n c e;have:=hlt a n c e;refine⟨c1,c2,fun e2=>?_⟩;have e3:g=a.block:=by simpa[Value.ownBlock] using e2
  rcases hl with hl|hl
  ·exact c3 (by rw[hl,e3])
  ·omega
 have blk:∀{v:Value},Clear v wb.heap.size v12->(∀a n c,v=.slice (some a) n c->a.block<wr.heap.size)->∀a n c,v=.slice (some a) n c->w7.heap[a.block]? =wr.heap[a.block]? :=fun hc hlt a n c e=>keep _ (hlt a n c e) (hc a n c e).2.2
 have one:∀z:Value×Dn,(Strs wr z.1 z.2.saw/\(z.2.saw≠[]->Clear z.1 wb.heap.size v12/\∀a n c,z.1=.slice (some a) n c->a.block<wr.heap.size)/\z.2.out.size<=140737488355328)->
   Strs w7 z.1 z.2.saw/\(z.2.saw≠[]->Clear z.1 wb.heap.size (.slice (some ⟨g,0,none⟩) n' cap)/\∀a n c,z.1=.slice (some a) n c->a.block<w7.heap.size)/\z.2.out.size<=140737488355328:=fun z ⟨z1,z2,z3⟩=>
  ⟨Strs.apart z1 (fun a n c e hne=>blk (z2 hne).1 (z2 hne).2 a n c e),fun hne=>⟨clr (z2 hne).1 (z2 hne).2,fun a n c e=>by have:=(z2 hne).2 a n c e;omega⟩,z3⟩
 have nown:∀k,k<wb.heap.size+1+1->v12.ownBlock≠some k:=fun k hk e=>by have:=(h.own.lt k e).1;omega
 refine⟨by rw[keep _ vT (nown _ vT)];exact h.used,h.map.of_block (keep _ hub (nown _ vT)),?_,eP.apart h.fils (fun a n c e hne=>blk (h.fclr hne) (h.flt hne) a n c e),fun hne=>clr (h.fclr hne) (h.flt hne),fun hne a n c e=>by have:=h.flt hne a n c e;omega,fun z hz=>?_,?_⟩
 ·rw[List.length_append,List.length_singleton,<-dnCells_snoc];exact hown
 ·rcases List.mem_append.1 hz with hz|hz
  ·exact one z (h.saws z hz)
  ·simp at hz;subst hz;exact one z hy
 ·have hb:=h.below;exact⟨hg.os.trans hb.os,hg.tape.trans hb.tape,hg.output.trans hb.output,by have:=hb.size;omega,fun j hj=>(keep j vT (nown j vT)).trans (hb.block j hj)⟩
theorem RunW.marked{w8:World}{done':Nat->Bool}(h:RunW len wb done out files u0 u1 v9 v12 wr)(hm:iS w8 (wb.heap.size+1) done' len)(hg:wr.grownBy w8 (some (wb.heap.size+1))):RunW len wb done' out files u0 u1 v9 v12 w8:=by
 have ho:=iX hg;have hM:=h.map.isMap;have hs:=ho.size;have hub:wb.heap.size+1<wr.heap.size:=h.map.lt;refine⟨hM.box ho h.used,hm,nL h.own ho vT,h.fils.onlyMap hM ho,h.fclr,fun hne a n c e=>Nat.lt_of_lt_of_le (h.flt hne a n c e) hs,fun y hy=>?_,ho.below h.below vT vT⟩;obtain⟨y1,y2,y3⟩:=h.saws y hy;exact⟨y1.onlyMap hM ho,fun hne=>⟨(y2 hne).1,fun a n c e=>Nat.lt_of_lt_of_le ((y2 hne).2 a n c e) hs⟩,y3⟩
theorem RunW.dns(h:RunW len wb done out files u0 u1 v9 v12 wr):Dns wr v12 out:=dns_of_owns h.own (fun y hy=>⟨(h.saws y hy).1,(h.saws y hy).2.2⟩)
theorem RunW.first{vf:Value}(hf:eP wb vf files)(h60:len<=60):
  RunW len wb (fun _=>false) [] files 0 0 vf (.slice none 0 0) ((wb.alloc (.cells #[.int .i64 0,.int .i64 0] 31)).alloc (.map #[] 0)):=by
 have B1:=aA wb (.cells #[.int .i64 0,.int .i64 0] 31);have B2:=aA (wb.alloc (.cells #[.int .i64 0,.int .i64 0] 31)) (.map #[] 0);have hl:∀hne:files≠[],∀a n c,vf=.slice (some a) n c->a.block<wb.heap.size:=fun hne=>fils_lt hf hne;refine⟨aD B2 (aN _ _),?_,by simpa[jO] using World.ownsRow_nil _ _ _ _,hf.later (aB B1 B2),fun hne a n c e=>?_,fun hne a n c e=>?_,fun y hy=>(by cases hy),aB B1 B2⟩
 ·have:=iS.first (wb.alloc (.cells #[.int .i64 0,.int .i64 0] 31)) len vT;simpa only[World.size_alloc] using this
 ·have:=hl hne a n c e;exact⟨vT,vT,zX⟩
 ·have:=hl hne a n c e;simp only[World.size_alloc];omega
end
structure RunS (C:ByteArray->Int×ByteArray) (r:Rcp) (clock order next:List Int) (len:Nat) (done:Nat->Bool) (out:List (Value×Dn)) (files:List Fil) (u0 u1:Int):Prop where
 cnt:out.length+dR done len=len
 b0:0<=u0/\u0<=1000*out.length
 b1:0<=u1/\u1<=1000*out.length
 left:oF C r clock order next=gS C r.steps clock order next (dR done len+1) done (out.map (·.2)) files u0 u1
def RunPost(w:World)(res:Except Int (List Dn×ByteArray))(e:Ending)(w':World):Prop:=
 Below w.heap.size w w'/\match res with
  | .error c=>e=.returned (.tuple #[.slice none 0 0,.string ⟨#[]⟩,.int .i64 c])
  | .ok (out,text)=>∃v L,e=.returned (.tuple #[v,.string text,.int .i64 0])/\Dns w' v L/\L.map (·.2)=out
section
variable {C:ByteArray->Int×ByteArray} {r:Rcp} {clock order next:List Int} {len:Nat} {done:Nat->Bool} {out:List (Value×Dn)} {files:List Fil} {u0 u1:Int}
theorem RunS.first(hl:r.steps.length=len):RunS C r clock order next len (fun _=>false) [] r.inputs 0 0:=
 ⟨by rw[nU];simp,vZ,vZ,by rw[nU,<-hl];rfl⟩
theorem RunS.pick(_h:RunS C r clock order next len done out files u0 u1)(hl:r.steps.length=len)(hr:bG r.steps done≠[]):∃s,r.steps[eC (bG r.steps done) next out.length]? =some s/\eC (bG r.steps done) next out.length<len/\done (eC (bG r.steps done) next out.length)=false:=by
 obtain⟨h1,h2,-⟩:=lJ (choose_mem next out.length hr);exact⟨_,List.getElem?_eq_getElem h1,by rw[<-hl];exact h1,h2⟩
theorem RunS.at_(h:RunS C r clock order next len done out files u0 u1)(hr:bG r.steps done≠[]){s:Stp}(hs:r.steps[eC (bG r.steps done) next out.length]? =some s):
  oF C r clock order next=match aX C s files clock order u0 u1 with
   | .error e=>.error e
   | .ok (text,saw,a,b)=>gS C r.steps clock order next (dR done len) (kM done (eC (bG r.steps done) next out.length)) (out.map (·.2)++[⟨(eC (bG r.steps done) next out.length:Nat),saw,text⟩]) (cG s files text) a b:=by
 rw[h.left,gS,if_neg (by simpa using hr),List.length_map];show(match r.steps[eC (bG r.steps done) next out.length]? with|none=>_|some s=>_)=_;rw[hs];rfl
theorem RunS.end_(h:RunS C r clock order next len done out files u0 u1)(hr:bG r.steps done=[]):oF C r clock order next=.ok (out.map (·.2),files):=by
 rw[h.left,gS,if_pos (by simp[hr])]
theorem RunS.next_(h:RunS C r clock order next len done out files u0 u1)(hl:r.steps.length=len)(hr:bG r.steps done≠[]){s:Stp}(hs:r.steps[eC (bG r.steps done) next out.length]? =some s){text:ByteArray}{saw:List ByteArray}{a b:Int}{v:Value}
  (hd:aX C s files clock order u0 u1=.ok (text,saw,a,b)):RunS C r clock order next len (kM done (eC (bG r.steps done) next out.length)) (out++[(v,⟨(eC (bG r.steps done) next out.length:Nat),saw,text⟩)]) (cG s files text) a b:=by
 obtain⟨-,-,h1,h2⟩:=h.pick hl hr;have h3:=gM h2 len h1;obtain⟨h4,-,-,h5,h6⟩:=pP hd;have h7:=(dS h4).2.2.1;have e:=h.at_ hr hs;rw[hd] at e;have h8:=h.cnt;have h9:=h.b0;have h10:=h.b1;refine⟨wQ,wQ,wQ,?_⟩;rw[e,h3,List.map_append];rfl
end
end Go.Proofs.YtacgopankhpnbaaGreatDoor
namespace Go.Proofs.YtacgopankhpnbaaGreatDoor
set_option maxHeartbeats 8000000
set_option maxRecDepth 100000
open Go.RowKit
def DoAll(C:ByteArray->Int×ByteArray)(s:Stp):Prop:=∀files clock order vf vl vc vo vn u0 u1 w,DoIn s files clock order vf vl vc vo vn u0 u1 w->Calls Tryz.prog 17 (kK s vf vl vc vo vn u0 u1) w (DoFar w s files u0 u1 (aX C s files clock order u0 u1))
theorem doAll_plain{C:ByteArray->Int×ByteArray}{s:Stp}(h5:s.kind≠5):DoAll C s:=fun files clock order vf vl vc vo vn u0 u1 w h=>do_far C s files clock order vf vl vc vo vn u0 u1 w h h5
structure oX (clock order next:List Int) (vc vo vn:Value) (w:World):Prop where
 clk:gZ w vc clock
 ord:gZ w vo order
 nxt:gZ w vn next
 cwf:∀x,x∈clock->(Lit.int .i64 x).wf=true
 owf:∀x,x∈order->(Lit.int .i64 x).wf=true
 nwf:∀x,x∈next->(Lit.int .i64 x).wf=true
section
variable {clock order next:List Int} {vc vo vn:Value} {w w':World}
theorem oX.later(h:oX clock order next vc vo vn w)(hb:Below w.heap.size w w'):oX clock order next vc vo vn w':=⟨h.clk.later hb,h.ord.later hb,h.nxt.later hb,h.cwf,h.owf,h.nwf⟩
theorem oX.slices(h:oX clock order next vc vo vn w):(∃a c,vc=.slice a clock.length c)/\(∃a c,vo=.slice a order.length c)/\(∃a c,vn=.slice a next.length c):=by
 obtain⟨a,c,h1,-⟩:=h.clk;obtain⟨a',c',h2,-⟩:=h.ord;obtain⟨a'',c'',h3,-⟩:=h.nxt;exact⟨⟨a,c,h1⟩,⟨a',c',h2⟩,⟨a'',c'',h3⟩⟩
end
theorem box2{w:World}{k:Nat}{a b:Value}{t:TypeId}(h:w.heap[k]? =some (.cells #[a,b] t)):w.cell? ⟨k,0,none⟩=some a/\w.cell? ⟨k,1,none⟩=some b/\w.frozen? ⟨k,0,none⟩=false/\w.frozen? ⟨k,1,none⟩=false:=by
 refine⟨?_,?_,?_,?_⟩<;>simp[World.cell?,World.frozen?,h]
theorem set2{w:World}{k:Nat}{a b x y:Value}{t:TypeId}(h:w.heap[k]? =some (.cells #[a,b] t)):((w.setCell ⟨k,0,none⟩ x).setCell ⟨k,1,none⟩ y).heap[k]? =some (.cells #[x,y] t):=by
 exact tS
theorem nY{w:World}{v:Value}{l:List Fil}(h:eP w v l):∃a c,v=.slice a l.length c:=by
 exact uX
theorem own_form{w:World}{base:Nat}{e:TypeId}{size:Nat}{v:Value}{n:Nat}{xs:List Value}(h:w.ownsRow base e size v n xs):∃a c,v=.slice a n c:=by
 rcases h.2 with⟨rfl,h0⟩|⟨g,cap,cur,rfl,_⟩
 ·subst h0;exact⟨_,_,rfl⟩
 ·exact⟨_,_,rfl⟩
theorem dZ{w:World}{b b' o o' o'':Nat}{v v' x:Value}(hlt:b<b')(h:w.cell? ⟨b,o,none⟩=some x):((w.setCell ⟨b',o',none⟩ v).setCell ⟨b',o'',none⟩ v').cell? ⟨b,o,none⟩=some x:=cell_set2 (Apart.of vT) h
def ldUsed:Op:=.load 31 (.tmp 10)
theorem ldUsed_def:ldUsed=Op.load 31 (Operand.tmp 10):=rfl
abbrev kY(vc vo vn:Value):Obj:=.cells #[vc,vo,vn] 28
theorem run_bad(C:ByteArray->Int×ByteArray)(r:Rcp)(L:List (Value×Stp))(vi vs vc vo vn:Value)(clock order next:List Int)(w:World)(h:fZ r L vi vs w)(hw:oX clock order next vc vo vn w)(he:bC r≠0):
  Calls Tryz.prog 29 #[nD vi vs r.output,.agg #[vc,vo,vn]] w (RunPost w (pR C r clock order next)):=by
 have HI:=zh (h.later (aB (aA w (dG vi vs r.output)) (aA _ (kY vc vo vn)))).inspect;have HR:=zh (show pR C r clock order next=.error (bC r) by unfold pR;rw[if_pos he]);rw[HR.out];obtain⟨⟨a1,c1,rfl⟩,⟨a2,c2,rfl⟩,⟨a3,c3,rfl⟩⟩:=hw.slices;obtain⟨ai,ci,av,cv,rfl,rfl⟩:=h.slices;have h0:(bC r==0)=false:=beq_eq_false_iff_ne.2 he;have h1:(bC r != 0)=true:=AL;obtain⟨q,hq⟩:∃q,q=bC r:=⟨_,rfl⟩;have HQ:=zh hq;rw[<-hq] at h0 h1 ⊢;clear h he hw HR hq;go_enter Tryz.func29,Tryz.ntmps29;go_wp2_with fail;refine HI.out.mono ?_;rintro e w2 ⟨rfl,hb,-⟩;rw[<-HQ.out];have HB:=zh hb;clear hb;go_wp2_with fail;refine bodyPost_ret (v:=.tuple #[.slice none 0 0,.string ⟨#[]⟩,.int .i64 q]) yN rfl ⟨?_,rfl⟩;exact aB (aB (aB (aA _ _) (aA _ _)) HB.out) (aA _ _)
theorem doStep_err{C:ByteArray->Int×ByteArray}{s:Stp}{files:List Fil}{clock order:List Int}{u0 u1 q:Int}(h:aX C s files clock order u0 u1=.error q):q≠0:=by
 unfold aX at h;split at h
 ·cases h;decide
 split at h
 ·cases h;decide
 split at h
 ·cases h;decide
 split at h
 ·cases h;decide
 split at h
 ·split at h
  ·rename_i hq;cases h;exact hq
  ·split at h
   ·cases h;decide
   ·cases h
 ·split at h
  ·cases h;decide
  ·cases h
def finishL(o:ByteArray):Except Int (List Dn×List Fil)->Except Int (List Dn×ByteArray)
 | .error e=>.error e
 | .ok (out,files)=>.ok (out,(aI files o).getD ByteArray.empty)
theorem run_good(C:ByteArray->Int×ByteArray)(r:Rcp)(L:List (Value×Stp))(vi vs vc vo vn:Value)(clock order next:List Int)(w:World)(h:fZ r L vi vs w)(hw:oX clock order next vc vo vn w)(hG:bV w)(hD:∀s,s∈r.steps->DoAll C s)(he:bC r=0):
  Calls Tryz.prog 29 #[nD vi vs r.output,.agg #[vc,vo,vn]] w (RunPost w (pR C r clock order next)):=by
 have HI:=zh (h.later (aB (aA w (dG vi vs r.output)) (aA _ (kY vc vo vn)))).inspect;have HE:=zh (show pR C r clock order next=finishL r.output (oF C r clock order next) by unfold pR;rw[if_neg (by simp[he])];rfl);rw[HE.out];have HR:=zh (mY he);have hlen:=h.len;have hL60:L.length<=60:=by have:=HR.out.few;omega
 have HSrc:=zh (show ∀y,y∈L->y.2.src.length<=1000000 from fun y hy=>by
  have:=HR.out.steps y.2 zS;have:=(dS this).2.2.1
  omega)
 have HRcp:=zh h;have HWld:=zh hw;have HG:=zh hG;have HD:=zh hD;have hmm:=@run_makeMap Tryz.prog;obtain⟨⟨a1,c1,rfl⟩,⟨a2,c2,rfl⟩,⟨a3,c3,rfl⟩⟩:=hw.slices;obtain⟨ai,ci,av,cv,rfl,rfl⟩:=h.slices;have H0:=zh he;have HLen:=zh hlen;have hil:r.inputs.length<=60:=by have:=HR.out.room;omega
 clear h he hlen HE hw hG hD;go_enter Tryz.func29,Tryz.ntmps29;go_wp2_with fail;refine HI.out.mono ?_;rintro e w2 ⟨rfl,hb,hm⟩;obtain⟨nw,ni,hmw,-⟩:=hm H0.out;have B1:=aA w (dG (.slice ai r.inputs.length ci) (.slice av L.length cv) r.output);have B2:=aA (w.alloc (dG (.slice ai r.inputs.length ci) (.slice av L.length cv) r.output)) (kY (.slice a1 clock.length c1) (.slice a2 order.length c2) (.slice a3 next.length c3));have B4:=aA w2 (cD (.slice ai r.inputs.length ci) (.slice av L.length cv) r.output (w.heap.size+1+1+1+1) (w.heap.size+1+1+1+1+1));have HB3:=zh (aB (aB (aB B1 B2) hb) B4);have HRb:=zh (aD (aB (aB B2 hb) B4) (aN w (dG (.slice ai r.inputs.length ci) (.slice av L.length cv) r.output)))
 have HWb:=zh (show(w2.alloc (cD (.slice ai r.inputs.length ci) (.slice av L.length cv) r.output (w.heap.size+1+1+1+1) (w.heap.size+1+1+1+1+1))).heap[w.heap.size+1]? =some (kY (.slice a1 clock.length c1) (.slice a2 order.length c2) (.slice a3 next.length c3)) by
  have:=aD (aB hb B4) (aN (w.alloc (dG (.slice ai r.inputs.length ci) (.slice av L.length cv) r.output)) (kY (.slice a1 clock.length c1) (.slice a2 order.length c2) (.slice a3 next.length c3)))
  simpa only[World.size_alloc] using this)
 have HGb:=zh (aN w2 (cD (.slice ai r.inputs.length ci) (.slice av L.length cv) r.output (w.heap.size+1+1+1+1) (w.heap.size+1+1+1+1+1)))
 have HMW:=zh (show bD eZ vInt (w2.alloc (cD (.slice ai r.inputs.length ci) (.slice av L.length cv) r.output (w.heap.size+1+1+1+1) (w.heap.size+1+1+1+1+1))) (w.heap.size+1+1+1+1) nw (kZ r.steps) by
  have:=hmw.later B4;simpa only[World.size_alloc] using this)
 rw[H0.out];have r0:=(gY HRb.out).1;clear hb hm hmw HI B1 B2 B4;go_wp2_with fail;generalize w2.alloc (cD (.slice ai r.inputs.length ci) (.slice av L.length cv) r.output (w.heap.size+1+1+1+1) (w.heap.size+1+1+1+1+1))=w3 at HB3 HRb HWb HGb HMW r0 ⊢;generalize w2.heap.size=pg at HGb ⊢;refine(clone_any r.inputs _ w3 (HRcp.out.inp.later HB3.out) vT).mono ?_;rintro e wb ⟨v9,rfl,hown,hb⟩;have HBb:=zh (aB HB3.out hb)
 replace HRb:=zh (aD hb HRb.out)
 replace HWb:=zh (aD hb HWb.out)
 replace HGb:=zh (aD hb HGb.out)
 replace HMW:=zh (HMW.out.later hb)
 have HF9:=zh (nR hown (fun f hf=>fils_size HRcp.out.inp hf));have HGr:=zh (show Grf r L (.slice ai r.inputs.length ci) (.slice av L.length cv) (w.heap.size+1+1+1+1) (w.heap.size+1+1+1+1+1) wb from⟨HRcp.out.later HBb.out,⟨nw,HMW.out⟩,hL60,HSrc.out⟩);have HRW:=zh (RunW.first (len:=L.length) HF9.out hL60);have HRS:=zh (RunS.first (C:=C) (clock:=clock) (order:=order) (next:=next) HLen.out)
 have HRd:Hid (∀done W,Below wb.heap.size wb W->iS W (wb.heap.size+1) done L.length->Calls Tryz.prog 64 #[grfV (.slice ai r.inputs.length ci) (.slice av L.length cv) r.output (w.heap.size+1+1+1+1) (w.heap.size+1+1+1+1+1),.map (some (wb.heap.size+1))] W (gG (bG r.steps done) W)):=
  zh fun done W hb hd=>ready_any r L _ _ _ _ (wb.heap.size+1) done W (HGr.out.later hb) hd.is
 obtain⟨g0,g1,g2,g3,g4⟩:=box5 (aD HRW.out.below HGb.out);clear hown hb r0;go_wp2_with fail;refine(HRd.out (fun _=>false) _ HRW.out.below HRW.out.map).mono ?_;rintro e w6 ⟨v13,rfl,hI,-,hb⟩;have HI:=zh hI;have HRW6:=zh (HRW.out.later hb);clear hI hb HRW g0 g1 g2 g3 g4;obtain⟨i0,hi0,hz0,hz1,hz2⟩:=info_parts dnInfo;go_wp2_with fail;go_loopw [9,12,13] (fun v9 v12 v13 wr=>∃(done:Nat->Bool)(out:List (Value×Dn))(files:List Fil)(u0 u1:Int),Hid (RunW L.length wb done out files u0 u1 v9 v12 wr)/\Hid (RunS C r clock order next L.length done out files u0 u1)/\Hid (gZ wr v13 (bI (bG r.steps done)))) (fun _ v12 _ _=>L.length-lV v12)
 case atStart=>exact⟨_,_,_,_,_,HRW6,HRS,HI⟩
 case round=>
  clear HRW6 HRS HI HF9;obtain⟨done,out,files,c0,c1',HRW,HRS,HI⟩:=hrel;rename World=>wr
  generalize hv9:u9=v9 at *;generalize hv12:u12=v12 at *;generalize hv13:u13=v13 at *;clear hv9 hv12 hv13
  obtain⟨a13,c13,e13⟩:∃a c,v13=.slice a (bG r.steps done).length c:=by
   obtain⟨a,c,hv,-⟩:=HI.out;exact⟨a,c,by rw[hv];simp⟩
  obtain⟨a9,c9,e9⟩:=nY HRW.out.fils;obtain⟨a12,c12,e12⟩:=own_form HRW.out.own;subst e13 e9 e12;have HBr:=zh (aB HBb.out HRW.out.below);obtain⟨r0,r1,r2⟩:=gY (aD HRW.out.below HRb.out);by_cases hr:bG r.steps done=[]
  ·have HEnd:=zh (HRS.out.end_ hr);have HRe:=zh hr;(have h0:(bG r.steps done).length=0:=by rw[hr];rfl);rw[h0];clear hr h0;go_wp2_with fail;refine(mD files _ r.output _ HRW.out.fils).mono ?_;rintro e w7 ⟨rfl,hb⟩;have HD7:=zh (HRW.out.later hb).dns;have HB7:=zh (aB HBr.out hb);clear hb
   cases hf:aI files r.output with
   |none=>
    have HFv:=zh (show iD files r.output=.tuple #[.string ByteArray.empty,.bool false] by unfold iD;rw[hf]);have HFf:=zh hf;clear hf;rw[HFv.out];go_wp2_with fail;refine bodyPost_ret (v:=.tuple #[.slice a12 out.length c12,.string ByteArray.empty,.int .i64 0]) yN rfl ?_;rw[HEnd.out];exact⟨HB7.out,_,out,by rw[HFf.out];rfl,HD7.out,rfl⟩
   |some t=>
    have HFv:=zh (show iD files r.output=.tuple #[.string t,.bool true] by unfold iD;rw[hf]);have HFf:=zh hf;clear hf;rw[HFv.out];go_wp2_with fail;refine bodyPost_ret (v:=.tuple #[.slice a12 out.length c12,.string t,.int .i64 0]) yN rfl ?_;rw[HEnd.out];exact⟨HB7.out,_,out,by rw[HFf.out];rfl,HD7.out,rfl⟩
  ·have hpos:0<(bG r.steps done).length:=List.length_pos_iff.2 hr;obtain⟨st,hs,hlt,hdn⟩:=HRS.out.pick HLen.out hr;have HRn:=zh hr;have HC:=zh (choose_any (bG r.steps done) next out.length _ (.slice a3 next.length c3) wr HI.out (HWld.out.later HBr.out).nxt hpos HWld.out.nwf);have HAt:=zh (HRS.out.at_ hr hs);have HNx:=zh (fun(text:ByteArray)(saw:List ByteArray)(a b:Int)(v:Value)(hd:aX C st files clock order c0 c1'=.ok (text,saw,a,b))=>HRS.out.next_ (v:=v) HLen.out hr hs hd);(generalize eC (bG r.steps done) next out.length=i at HC hs hlt hdn HAt HNx);obtain⟨x0,x1,x2⟩:=gY (aD HRW.out.below HWb.out)
   obtain⟨y,hy,hym⟩:∃y,L[i]? =some y/\y.2=st:=by
    obtain⟨y,hy,-⟩:=getElem?_of_lt hlt;refine⟨y,hy,?_⟩;(have:(L.map (·.2))[i]? =some st:=by rw[HRcp.out.map];exact hs);rw[List.getElem?_map,hy] at this;exact Option.some.inj this
   subst hym;rcases HRcp.out.stp.cases with⟨e,-⟩|⟨b,o,cc,e,-,-,-,hbl,hc⟩
   ·rw[e] at hlt;simp at hlt
   (obtain⟨rfl,rfl⟩:av=some ⟨b,o,none⟩/\cc=cv:=by injection e with e1 e2 e3;exact⟨e1,e3.symm⟩);obtain⟨s0,s1,s2,s3,hsrc,hso⟩:=hc i y hy;have HS2:=zh s2
   replace s0:=aC HBr.out s0
   replace s1:=aC HBr.out s1
   replace s2:=aC HBr.out s2
   replace s3:=aC HBr.out s3
   replace hsrc:=hsrc.later HBr.out
   have hk1:w.heap.size+1<wb.heap.size:=(Array.getElem?_eq_some_iff.1 HWb.out).1;have hk0:w.heap.size<wb.heap.size:=vT;have hkb:b<wb.heap.size:=vT;obtain⟨t0,t1,f0,f1⟩:=box2 HRW.out.used;have hb0:=HRS.out.b0;have hb1:=HRS.out.b1
   have hol:out.length<L.length:=by
    have h1:=HRS.out.cnt;have h2:=leftN_pos hlt hdn;omega
   have HDi:=zh (show DoIn y.2 files clock order y.1 (.slice a9 files.length c9) (.slice a1 clock.length c1) (.slice a2 order.length c2) (.slice a3 next.length c3) c0 c1' wr.drew from
    ⟨(HG.out.later HBr.out).later (Below.refl _ _).drew,hsrc.later (Below.refl _ _).drew,hso,HRW.out.fils.later (Below.refl _ _).drew,(HWld.out.later HBr.out).clk.later (Below.refl _ _).drew,(HWld.out.later HBr.out).ord.later (Below.refl _ _).drew,⟨_,_,_,rfl⟩,vT,vT,HWld.out.cwf,HWld.out.owf⟩)
   have HDo:=zh (HD.out y.2 (List.mem_of_getElem? hs) _ _ _ _ _ _ _ _ _ _ _ HDi.out);have hub:=HRW.out.map.lt;have HDn:=zh hdn;have HSl:=zh (show lV (.slice a12 out.length c12)=out.length from rfl);clear hc e hr hs hdn HI;obtain⟨yv,kind,src,yo,sorted⟩:=y;obtain⟨ya,yc,hyv⟩:=cB hsrc;simp only at s0 s1 s2 s3 hso HDo HAt HNx hyv;subst hyv;have HSo:=zh hso;have hbi0:(0:Int)<=(i:Int):=vT;have hbi1:(i:Int)<(L.length:Int):=vT;clear hsrc hso hy;go_wp2_with fail;refine HC.out.mono ?_;rintro e w7 ⟨rfl,rfl⟩;go_wp2_with fail;have hld:=ldUsed_def
   cases hd:aX C ⟨kind,src,yo,sorted⟩ files clock order c0 c1' with
   |error q=>
    rw[hd] at HDo HAt;have hq:=doStep_err hd;have hq0:(q==0)=false:=beq_eq_false_iff_ne.2 hq;(have hq1:(q != 0)=true:=by rw[bne_iff_ne];exact hq);clear hd HNx hq;rw[<-ldUsed_def]
    go_region_held3 (fun W=>W.cell? ⟨w.heap.size,1,none⟩=some (.slice (some ⟨b,o,none⟩) L.length cc)/\(W.cell? ⟨b,o+i*4,none⟩=some (.int .i64 kind)/\W.cell? ⟨b,o+i*4+1,none⟩=some (.slice ya src.length yc)/\W.cell? ⟨b,o+i*4+2,none⟩=some (.string yo)/\W.cell? ⟨b,o+i*4+3,none⟩=some (.bool sorted))/\(W.cell? ⟨w.heap.size+1,0,none⟩=some (.slice a1 clock.length c1)/\W.cell? ⟨w.heap.size+1,1,none⟩=some (.slice a2 order.length c2)/\W.cell? ⟨w.heap.size+1,2,none⟩=some (.slice a3 next.length c3)))
     (first|(with_reducible exact⟨r1,⟨s0,s1,s2,s3⟩,x0,x1,x2⟩)|(with_reducible exact⟨l1,⟨m0,m1,m2,m3⟩,n0,n1,n2⟩)|exact⟨dZ hk0 l1,⟨dZ hkb m0,dZ hkb m1,dZ hkb m2,dZ hkb m3⟩,dZ hk1 n0,dZ hk1 n1,dZ hk1 n2⟩|go_keep)
     (first|(go_at_call 17;(with_reducible refine HDo.out.mono ?_);rintro e w8 ⟨hb,rfl⟩;have hb8:Below wr.heap.size wr w8:=(Below.refl _ wr).drew.trans hb;have l1:=aC hb8 r1;have m0:=aC hb8 s0;have m1:=aC hb8 s1;have m2:=aC hb8 s2;have m3:=aC hb8 s3;have n0:=aC hb8 x0;have n1:=aC hb8 x1;have n2:=aC hb8 x2;obtain⟨p0,p1,q0,q1⟩:=box2 (aD hb8 HRW.out.used);have HB8:=zh hb8;clear hb hb8))
    have HBe:=zh (show Below w.heap.size w ((w8.setCell ⟨wb.heap.size,0,none⟩ (.int .i64 c0)).setCell ⟨wb.heap.size,1,none⟩ (.int .i64 c1')) from
     ((aB HBr.out HB8.out).setCell (by have:=HBb.out.size;simp;omega) _).setCell (by have:=HBb.out.size;simp;omega) _)
    go_wp2_with fail;refine bodyPost_ret (v:=.tuple #[.slice none 0 0,.string ⟨#[]⟩,.int .i64 q]) yN rfl ?_;rw[HAt.out];exact⟨HBe.out,rfl⟩
   |ok res=>
    obtain⟨text,saw,ua,ub⟩:=res;rw[hd] at HDo;have HNx2:=zh (fun v=>HNx.out _ _ _ _ v hd);have HUs:=zh (pP hd);clear hd HAt HNx;rw[<-ldUsed_def]
    go_region_held3 (fun W=>W.cell? ⟨w.heap.size,1,none⟩=some (.slice (some ⟨b,o,none⟩) L.length cc)/\(W.cell? ⟨b,o+i*4,none⟩=some (.int .i64 kind)/\W.cell? ⟨b,o+i*4+1,none⟩=some (.slice ya src.length yc)/\W.cell? ⟨b,o+i*4+2,none⟩=some (.string yo)/\W.cell? ⟨b,o+i*4+3,none⟩=some (.bool sorted))/\(W.cell? ⟨w.heap.size+1,0,none⟩=some (.slice a1 clock.length c1)/\W.cell? ⟨w.heap.size+1,1,none⟩=some (.slice a2 order.length c2)/\W.cell? ⟨w.heap.size+1,2,none⟩=some (.slice a3 next.length c3)))
     (first|(with_reducible exact⟨r1,⟨s0,s1,s2,s3⟩,x0,x1,x2⟩)|(with_reducible exact⟨l1,⟨m0,m1,m2,m3⟩,n0,n1,n2⟩)|exact⟨dZ hk0 l1,⟨dZ hkb m0,dZ hkb m1,dZ hkb m2,dZ hkb m3⟩,dZ hk1 n0,dZ hk1 n1,dZ hk1 n2⟩|go_keep)
     (first|(go_at_call 17;(with_reducible refine HDo.out.mono ?_);rintro e w8 ⟨hb,vfl,vsaw,rfl,hF,hS,hff,hsf⟩;have hb8:Below wr.heap.size wr w8:=(Below.refl _ wr).drew.trans hb;have l1:=aC hb8 r1;have m0:=aC hb8 s0;have m1:=aC hb8 s1;have m2:=aC hb8 s2;have m3:=aC hb8 s3;have n0:=aC hb8 x0;have n1:=aC hb8 x1;have n2:=aC hb8 x2;obtain⟨p0,p1,q0,q1⟩:=box2 (aD hb8 HRW.out.used);have HF8:=zh hF;have HS8:=zh hS;have HFf:=zh hff;have HSf:=zh hsf;have HB8:=zh hb8;clear hb hF hS hff hsf hb8))
    have HDid:=HRW.out.did HB8.out HF8.out HFf.out HS8.out HSf.out ((bU.setCell w8).trans (bU.setCell _)) (set2 (x:=.int .i64 ua) (y:=.int .i64 ub) (aD HB8.out HRW.out.used));obtain⟨hW9,hS9,hC9⟩:=HDid
    have HFd:=zh (show iD (cG ⟨kind,src,yo,sorted⟩ files text) yo=.tuple #[.string text,.bool true] by
     unfold iD;rw[find_doFiles (s:=⟨kind,src,yo,sorted⟩) HUs.out.2.1])
    generalize cG ⟨kind,src,yo,sorted⟩ files text=files' at hW9 HNx2 HFd;have HW9:=zh hW9;have HS9:=zh hS9;have HC9:=zh hC9;obtain⟨af,cf,ef⟩:=nY HW9.out.fils;obtain⟨as',cs',es⟩:=cB HS9.out;subst ef es;have hts:=HUs.out.2.2.1;clear hW9 hS9 hC9 HF8 HS8 HFf HSf l1 m0 m1 m2 m3 n0 n1 n2 p0 p1 q0 q1 r0 r1 r2 x0 x1 x2 s0 s1 s2 s3 t0 t1 f0 f1;generalize ((w8.setCell ⟨wb.heap.size,0,none⟩ (.int .i64 ua)).setCell ⟨wb.heap.size,1,none⟩ (.int .i64 ub))=w9 at HW9 HS9 HC9 ⊢;obtain⟨r0,r1,r2⟩:=gY (aD HW9.out.below HRb.out);have s2:=aC (aB HBb.out HW9.out.below) HS2.out;go_wp2_with fail;refine(mD files' _ yo _ HW9.out.fils).mono ?_;rw[HFd.out];rintro e w10 ⟨rfl,hb⟩;have HW10:=zh (HW9.out.later hb)
    have HY:=zh (show Strs w10 (.slice as' saw.length cs') saw/\(saw≠[]->Clear (.slice as' saw.length cs') wb.heap.size (.slice a12 out.length c12)/\∀a n c,Value.slice as' saw.length cs'=.slice (some a) n c->a.block<w10.heap.size)/\text.size<=140737488355328 from
     ⟨HS9.out.later hb,fun hne=>⟨(HC9.out hne).1,fun a n c e=>Nat.lt_of_lt_of_le ((HC9.out hne).2 a n c e) hb.size⟩,vT⟩)
    have hw10:=HW10.out.map.lt;clear hb r0 r1 r2 s2;go_wp2_with(at_builtin;refine wpList_append_lies _ rfl _ _ 54 rfl (wb.heap.size+1+1) 59 i0 (.agg #[.int .i64 0,.slice none 0 0,.string ByteArray.empty]) 3 48 Tryz.underlying54 hi0 hz0 hz1 hz2 rfl vT (.slice a12 out.length c12) out.length (jO out) xK (HW10.out.own.alloc _) ⟨w10.heap.size,0,none⟩ 1 1 [.int .i64 i,.slice as' saw.length cs',.string text] xK rfl (World.news_of_block (cs:=#[.int .i64 i,.slice as' saw.length cs',.string text]) (t:=59) (fr:=(0,0)) (heap_alloc_new w10 _)) wN vT wK vT wQ (w10.heap.size+1) vZ ?_);intro g cap w11 hown hgrow hat hlt11;have HW11:=zh (HW10.out.added (y:=(.slice as' saw.length cs',⟨(i:Int),saw,text⟩)) HY.out hown hgrow hat);obtain⟨w12,hrun,hm12,hg12⟩:=HW11.out.map.set (i:=i) hlt HDn.out vT;have HW12:=zh (HW11.out.marked hm12 hg12);obtain⟨g0,g1,g2,g3,g4⟩:=box5 (aD HW12.out.below HGb.out);clear hown hgrow hat hm12 hg12;go_wp2_with fail;refine(HRd.out _ w12 HW12.out.below HW12.out.map).mono ?_;rintro e w13 ⟨v13',rfl,hI,-,hb⟩;have HI13:=zh hI;have HW13:=zh (HW12.out.later hb);clear hI hb g0 g1 g2 g3 g4;go_wp2_with fail;go_roundw;(case rel=>exact⟨_,_,_,_,_,HW13,zh (HNx2.out _),HI13⟩);case measure=>simp[lV];omega
end Go.Proofs.YtacgopankhpnbaaGreatDoor
namespace Go.Proofs.YtacgopankhpnbaaGreatDoor
open Go.RowKit
structure Off (S:Nat->Prop) (w w':World):Prop where
 os:w'.os=w.os
 tape:w'.tape=w.tape
 output:w'.output=w.output
 size:w.heap.size<=w'.heap.size
 block:∀k,k<w.heap.size->¬S k->w'.heap[k]? =w.heap[k]?
theorem Off.refl(S:Nat->Prop)(w:World):Off S w w:=⟨rfl,rfl,rfl,Nat.le_refl _,fun _ _ _=>rfl⟩
theorem Off.trans{S:Nat->Prop}{u v w:World}(h:Off S u v)(k:Off S v w):Off S u w:=
 ⟨k.os.trans h.os,k.tape.trans h.tape,k.output.trans h.output,Nat.le_trans h.size k.size,fun i hi hne=>(k.block i (Nat.lt_of_lt_of_le hi h.size) hne).trans (h.block i hi hne)⟩
theorem Off.of_below{S:Nat->Prop}{w w':World}(h:Below w.heap.size w w'):Off S w w':=⟨h.os,h.tape,h.output,h.size,fun k hk _=>h.block k hk⟩
theorem Off.of_only{S:Nat->Prop}{b:Nat}{w w':World}(h:bU b w w')(hb:S b):Off S w w':=⟨h.os,h.tape,h.output,h.size,fun k hk hn=>h.block k hk (fun e=>hn (e▸hb))⟩
theorem Off.below{S:Nat->Prop}{u w w':World}{B:Nat}(h:Below B u w)(k:Off S w w')(hb:∀k,S k->B<=k)(hB:B<=w.heap.size):Below B u w':=
 ⟨k.os.trans h.os,k.tape.trans h.tape,k.output.trans h.output,Nat.le_trans h.size k.size,fun i hi=>(k.block i vT (fun hs=>by have:=hb i hs;omega)).trans (h.block i hi)⟩
theorem Off.cell{S:Nat->Prop}{w w':World}(h:Off S w w'){k o:Nat}{v:Value}(hn:¬S k)(hc:w.cell? ⟨k,o,none⟩=some v):w'.cell? ⟨k,o,none⟩=some v:=
 (World.cell?_of_block (w:=w) (h.block k (dC hc) hn)).trans hc
theorem Off.heap{S:Nat->Prop}{w w':World}(h:Off S w w'){k:Nat}{o:Obj}(hn:¬S k)(hc:w.heap[k]? =some o):w'.heap[k]? =some o:=
 (h.block k (Array.getElem?_eq_some_iff.1 hc).1 hn).trans hc
theorem Off.setCell{S:Nat->Prop}{b o:Nat}{v:Value}(w:World)(hb:S b):Off S w (w.setCell ⟨b,o,none⟩ v):=Off.of_only (bU.setCell w) hb
theorem Off.drew{S:Nat->Prop}{u w:World}(h:Off S u w):Off S u w.drew:=⟨h.os,h.tape,h.output,h.size,h.block⟩
theorem aU{w:World}{g i:Nat}{cs:Array Value}{t:TypeId}{fr:Nat×Nat}(h:w.heap[g]? =some (.cells cs t fr))(v:Value):(w.setCell ⟨g,i,none⟩ v).heap[g]? =some (.cells (cs.setIfInBounds i v) t fr):=by
 exact tS
end Go.Proofs.YtacgopankhpnbaaGreatDoor
