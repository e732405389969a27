/- Texts of this seat, joined. -/
import Derived.Test.YtacgopankhpnbaaGreatDoorSP
import Derived.Test.YtacgopankhpnbaaGreatDoorSQ
set_option maxHeartbeats 8000000
set_option maxRecDepth 100000
set_option linter.unusedVariables false
set_option linter.unusedSimpArgs false
namespace Go.Proofs.YtacgopankhpnbaaGreatDoor
open Go.RowKit
theorem S9{p:Prop}(h:p:=by
 obtain⟨g0,g1,g2,g3,g4⟩:=HW.out.gcells;obtain⟨⟨z0,z1,z2,z3,z4⟩,f0,f1,f2,f3,f4⟩:=HW.out.zcells;go_wp2_with fail
 exact HW.out.ret rfl rfl rfl HE.out (fun h=>absurd h VI)):p:=h
theorem inspectE_twice{r:Rcp}(h1:(!aR r.inputs||decide (60<r.steps.length)||r.steps.any (fun s=> !aM s))=false)(h2:nS r=true):aU r=5:=by
 unfold aU;rw[if_neg (by simp[h1]),if_pos h2]
theorem inspectE_full{r:Rcp}(h1:(!aR r.inputs||decide (60<r.steps.length)||r.steps.any (fun s=> !aM s))=false)(h2:nS r=false)(h3:60<r.inputs.length+r.steps.length):aU r=6:=by
 unfold aU;rw[if_neg (by simp[h1]),if_neg (by simp[h2]),if_pos h3]
theorem inspectE_none{r:Rcp}(h1:(!aR r.inputs||decide (60<r.steps.length)||r.steps.any (fun s=> !aM s))=false)(h2:nS r=false)(h3:¬60<r.inputs.length+r.steps.length)
  (h4:(!aI r r.output||r.steps.any (fun s=>s.src.any fun x=> !aI r x))=true):aU r=4:=by
 unfold aU;rw[if_neg (by simp[h1]),if_neg (by simp[h2]),if_neg h3,if_pos h4]
theorem inspectE_last{r:Rcp}(h1:(!aR r.inputs||decide (60<r.steps.length)||r.steps.any (fun s=> !aM s))=false)(h2:nS r=false)(h3:¬60<r.inputs.length+r.steps.length)
  (h4:(!aI r r.output||r.steps.any (fun s=>s.src.any fun x=> !aI r x))=false):aU r=if kG r.steps then 15 else 0:=by
 unfold aU;rw[if_neg (by simp[h1]),if_neg (by simp[h2]),if_neg h3,if_neg (by simp[h4])]
theorem inspect_good(r:Rcp)(L:List (Value×Stp))(vi vs:Value)(w:World)(xC:iB w vi r.inputs)(vE:lD w vs L)(hL:L.map (·.2)=r.steps)(hout:r.output.size<=140737488355328)
  (h1:aR r.inputs=true) (h2:L.length<=60) (h3:(L.any fun y=> !aM y.2)=false):
  Calls Tryz.prog 63 #[lY vi vs r.output] w (InspPost vi vs r.output r w):=by
 have H1:Hid ((!aR r.inputs||decide (60<r.steps.length)||r.steps.any (fun s=> !aM s))=false):=zh (by
  rw[h1,<-hL,List.any_map,List.length_map];have:(L.any ((fun s=> !aM s) ∘ fun x=>x.snd))=false:=h3
  rw[this];simp;omega)
 have HI60:r.inputs.length<=60:=by
  unfold aR at h1;simp only[Bool.and_eq_true,decide_eq_true_eq] at h1;exact h1.2
 obtain⟨ai,ci,NI,-⟩:=id xC;obtain⟨av,cv,LA⟩:=stps_slice vE;subst NI LA;have HW:=zh (jK.first (.slice ai r.inputs.length ci) (.slice av L.length cv) r.output w);have HF:=zh (gV r.inputs _ _ (xC.later HW.out.below));rw[h1] at HF
 have HC:Hid (∀W,Below w.heap.size w W->Calls Tryz.prog 90 #[.slice av L.length cv,.func (.func 91) #[] #[]] W fun e w'=>e=.returned (.bool false)/\Below W.heap.size W w'):=
  zh fun W hb=>by
   have:=lN 91 #[] (fun y=> !aM y.2) L (.slice av L.length cv) W (vE.later hb) enters_inspect1 (fun y hy W' qU=>inspect1_any y W' ((vE.src hy).1.later (aB hb qU)) (vE.src hy).2);rw[h3] at this;exact this
 have vZ:=@run_makeMap Tryz.prog;have yJ:=zh xC;have DI:=zh vE;have HL:=zh hL;have H3:=zh h3;have hlen:r.steps.length=L.length:=by rw[<-hL];simp
 have sD:=zh hlen;clear xC vE hL h1 h3 hlen;go_enter Tryz.func63,Tryz.ntmps63;go_wp2_with fail;refine HF.out.mono ?_;rintro e w2 ⟨rfl,hb⟩
 replace HW:=zh (HW.out.later hb)
 obtain⟨r0,r1,r2⟩:=HW.out.rcells;clear vZ hb HF;go_wp2_with fail;refine(HC.out _ HW.out.below).mono ?_;rintro e w3 ⟨rfl,hb⟩
 replace HW:=zh (HW.out.later hb)
 clear r0 r1 r2 hb HC;obtain⟨r0,r1,r2⟩:=HW.out.rcells;go_wp2_with fail;clear r0 r1 r2;go_loopw [33] (fun i wr=>∃k:Nat,k<=r.inputs.length/\i=.int .i64 k/\Hid (jK (.slice ai r.inputs.length ci) (.slice av L.length cv) r.output w 0 k (fun _=>none) (iMap (r.inputs.take k)) wr)) (fun i _=>r.inputs.length-(intOf i).toNat)
 case atStart=>exact⟨0,Nat.zero_le _,rfl,HW⟩
 case round=>
  clear HW;obtain⟨k,hk,rfl,HW⟩:=hrel;rename World=>wr
  by_cases pT:k<r.inputs.length
  ·obtain⟨f,hf,-⟩:=getElem?_of_lt pT;rcases yJ.out.cases with⟨e,-⟩|⟨b,o,c,e,-,-,-,-,hc⟩
   ·rw[e] at pT;simp at pT
   ·(obtain rfl:ai=some ⟨b,o,none⟩:=by injection e);obtain⟨c1,c2,s1,-⟩:=hc k f hf
    replace c1:=aC HW.out.below c1
    replace c2:=aC HW.out.below c2
    obtain⟨-,-,-,-,g4⟩:=(HW.out.later (aA wr (.cells #[.string f.name,.string f.text] 40))).gcells;have IV:=HW.out.below.size;have LP:=HW.out.mi.lt;obtain⟨w4,sB,hm4,P9⟩:=(HW.out.mi.alloc (.cells #[.string f.name,.string f.text] 40)).store Tryz.underlying99 VR (x:=f.name) (Nat.le_trans s1 kF) (y:=true) trivial;have hrun':(Instr.mapUpdate 99 (.map (some (w.heap.size+1+1+1))) (.string f.name) (.bool true)).run Tryz.prog (wr.alloc (.cells #[.string f.name,.string f.text] 40))=.ok () w4:=sB;have sV:=zh ((HW.out.later (aA wr (.cells #[.string f.name,.string f.text] 40))).setI P9 (hm4.ext (fun z=>@iMap_snoc _ _ _ hf z (Classical.propDecidable _))));clear sB hm4 P9 hc e hf s1 LP;exact VC
  ·obtain rfl:k=r.inputs.length:=VG;rw[List.take_length] at HW;obtain⟨r0,r1,r2⟩:=HW.out.rcells;go_wp2_with fail;clear r0 r1 r2;(go_loopw [45] (fun i wr=>∃k:Nat,k<=L.length/\i=.int .i64 k/\Hid (jK (.slice ai r.inputs.length ci) (.slice av L.length cv) r.output w k r.inputs.length (kD (r.steps.take k)) (iMap r.inputs) wr)/\Hid (nS r=kJ r k (L.length-k))) (fun i _=>L.length-(intOf i).toNat));case atStart=>exact⟨0,Nat.zero_le _,rfl,HW,zh (by unfold nS;rw[sD.out];rfl)⟩
   case round=>
    clear HW;obtain⟨k,hk,rfl,HW,HT⟩:=hrel;(rename World=>wr);by_cases pT:k<L.length
    ·obtain⟨y,hy,ES⟩:=getElem?_of_lt pT;rcases DI.out.cases with⟨e,-⟩|⟨b,o,c,e,-,-,-,-,hc⟩
     ·rw[e] at pT;simp at pT
     ·(obtain⟨rfl,rfl⟩:av=some ⟨b,o,none⟩/\c=cv:=by injection e with e1 e2 e3;exact⟨e1,e3.symm⟩);obtain⟨c1,c2,c3,c4,PF,ho⟩:=hc k y hy
      replace c1:=aC HW.out.below c1
      replace c2:=aC HW.out.below c2
      replace c3:=aC HW.out.below c3
      replace c4:=aC HW.out.below c4
      have hsk:r.steps[k]? =some y.2:=by rw[<-HL.out,List.getElem?_map,hy];rfl
      replace HT:=zh (HT.out.trans (twiceFrom_at pT hsk))
      have AZ:=zh (known_any (.slice ai r.inputs.length ci) (.slice (some ⟨b,o,none⟩) L.length c) r.output y.2.out (w.heap.size+1+1) (w.heap.size+1+1+1) k r.inputs.length _ _ _ (HW.out.later (aA wr (.cells #[.int .i64 y.2.kind,y.1,.string y.2.out,.bool y.2.sorted] 24))).mw (HW.out.later (aA wr (.cells #[.int .i64 y.2.kind,y.1,.string y.2.out,.bool y.2.sorted] 24))).mi ho);rw[show((kD (r.steps.take k) y.2.out).isSome||(iMap r.inputs y.2.out).getD false)=lR r k y.2.out by rw[wMap_isSome,iMap_getD];rfl] at AZ;have HSk:=zh hsk;obtain⟨v,kind,src,yo,sorted⟩:=y;simp only at c1 c2 c3 c4 ho PF HT AZ HSk;obtain⟨sa,cs,AE⟩:=gI PF;subst AE;have HO:=zh ho
      replace HW:=zh (HW.out.later (aA wr (.cells #[.int .i64 kind,.slice sa src.length cs,.string yo,.bool sorted] 24)))
      obtain⟨g0,g1,g2,g3,g4⟩:=HW.out.gcells;have IV:=HW.out.below.size;have LP:=HW.out.mi.lt;clear hc e hy ES hsk PF ho
      cases zM:lR r k yo with
      |true=>
       rw[zM] at AZ HT;have HE:=zh (inspectE_twice H1.out HT.out);go_wp2_with fail;refine AZ.out.mono ?_;rintro e w5 ⟨rfl,hb⟩
       replace HW:=zh (HW.out.later hb)
       clear g0 g1 g2 g3 g4 hb zM;exact S9
      |false=>
       rw[zM] at AZ HT
       have HWn:=zh (show bF (r.steps.take k) yo=none by
        unfold lR at zM;rw[Bool.or_eq_false_iff] at zM
        simpa using zM.1)
       go_wp2_with fail;refine AZ.out.mono ?_;rintro e w5 ⟨rfl,hb⟩;have IW:=aF hb (aN wr (.cells #[.int .i64 kind,.slice sa src.length cs,.string yo,.bool sorted] 24));obtain⟨-,-,x2,-⟩:=box4' IW
       replace HW:=zh (HW.out.later hb)
       clear g0 g1 g2 g3 g4 hb zM IW AZ;obtain⟨-,-,-,g3,-⟩:=HW.out.gcells;obtain⟨w6,sB,NN,P8⟩:=HW.out.mw.store Tryz.underlying98 VR (x:=yo) (Nat.le_trans HO.out kF) (y:=(k:Int)) (nat_wf VG);have hrun':(Instr.mapUpdate 98 (.map (some (w.heap.size+1+1))) (.string yo) (.int .i64 (k:Int))).run Tryz.prog w5=.ok () w6:=sB;have sV:=zh (HW.out.setW P8 (NN.ext (fun z=>@wMap_snoc _ _ _ HSk.out HWn.out z (Classical.propDecidable _))));clear sB NN P8;go_wp2_with fail;go_roundw;(case rel=>exact⟨k+1,VG,VT,sV,zh HT.out⟩);case measure=>simp[intOf];omega
    ·obtain rfl:k=L.length:=VG
     replace HT:=zh (show nS r=false by rw[HT.out,Nat.sub_self];rfl)
     (have vE:r.steps.take L.length=r.steps:=by rw[<-sD.out,List.take_length]);rw[vE] at HW;clear vE;obtain⟨r0,r1,r2⟩:=HW.out.rcells;by_cases AL:60<r.inputs.length+L.length
     ·have HE:=zh (inspectE_full H1.out HT.out (by rw[sD.out];exact AL));exact S9
     ·have H60:=zh (show ¬60<r.inputs.length+r.steps.length by rw[sD.out];exact AL);have HFN:=zh (aA wr (.cells #[.func (.func 93) #[] #[.pointer (some ⟨w.heap.size+1+1+1+1,0,none⟩)]] 92));have HIp:=zh (show Insp (.slice ai r.inputs.length ci) (.slice av L.length cv) r.output (w.heap.size+1+1+1+1) wr.heap.size (w.heap.size+1+1) (w.heap.size+1+1+1) L.length r.inputs.length (kD r.steps) (iMap r.inputs) _ from⟨(HW.out.later HFN.out).bg,aN wr _,(HW.out.later HFN.out).mw,(HW.out.later HFN.out).mi⟩);have IV:w.heap.size+1+1+1+1<wr.heap.size:=(Array.getElem?_eq_some_iff.1 HW.out.bg).1
      replace HW:=zh (HW.out.later HFN.out)
      obtain⟨s0,s1,s2⟩:=HW.out.rcells;have HU:=zh (inspect2_any (.slice ai r.inputs.length ci) (.slice av L.length cv) r.output r.output (w.heap.size+1+1+1+1) (w.heap.size+1+1) (w.heap.size+1+1+1) L.length r.inputs.length (kD r.steps) (iMap r.inputs) _ HIp.out.box HIp.out.wr HIp.out.inp hout);(have hkr:∀x,((kD r.steps x).isSome||(iMap r.inputs x).getD false)=aI r x:=fun x=>by rw[wMap_isSome,iMap_getD];rfl);rw[hkr] at HU;have HKr:=zh hkr;clear hkr;have eg:=enters_inspect2
      cases zM:aI r r.output with
      |false=>
       rw[zM] at HU;have HE:=zh (inspectE_none H1.out HT.out H60.out (by rw[zM];rfl));clear zM;go_wp2_with(go_at_fn 93;(with_reducible refine HU.out.mono ?_);rintro e w5 ⟨rfl,hb⟩;replace HW:=zh (HW.out.later hb);obtain⟨g0,g1,g2,g3,g4⟩:=HW.out.gcells;obtain⟨⟨z0,z1,z2,z3,z4⟩,f0,f1,f2,f3,f4⟩:=HW.out.zcells;clear hb r0 r1 r2 s0 s1 s2);exact HW.out.ret rfl rfl rfl HE.out (fun h=>absurd h VI)
      |true=>
       rw[zM] at HU;have AZ:=zh zM;clear zM
       have M6:Hid (∀W,Below (wr.alloc (.cells #[.func (.func 93) #[] #[.pointer (some ⟨w.heap.size+1+1+1+1,0,none⟩)]] 92)).heap.size (wr.alloc (.cells #[.func (.func 93) #[] #[.pointer (some ⟨w.heap.size+1+1+1+1,0,none⟩)]] 92)) W->Below w.heap.size w W->
         Calls Tryz.prog 90 #[.slice av L.length cv,.func (.func 94) #[] #[.pointer (some ⟨wr.heap.size,0,none⟩)]] W fun e w'=>e=.returned (.bool (r.steps.any fun s=>s.src.any fun x=> !aI r x))/\Below W.heap.size W w'):=
        zh fun W hb QH=>by
         have hc:=lN 94 #[.pointer (some ⟨wr.heap.size,0,none⟩)] (fun y=>y.2.src.any fun x=> !((kD r.steps x).isSome||(iMap r.inputs x).getD false)) L (.slice av L.length cv) W (DI.out.later QH) enters_inspect3
          (fun y hy W' qU=>inspect3_any y _ _ _ _ _ _ _ _ _ _ _ W' ((HIp.out.later hb).later qU) ((DI.out.src hy).1.later (aB QH qU)))
         have e:(L.any fun y=>y.2.src.any fun x=> !((kD r.steps x).isSome||(iMap r.inputs x).getD false))=r.steps.any fun s=>s.src.any fun x=> !aI r x:=by
          rw[<-HL.out,List.any_map];congr 1;funext y;show _=y.2.src.any _;congr 1;funext x;rw[HL.out,HKr.out]
         rw[e] at hc;exact hc
       go_wp2_with(go_at_fn 93;(with_reducible refine HU.out.mono ?_);rintro e w5 ⟨rfl,hb⟩;replace HW:=zh (HW.out.later hb);have OX:=zh hb;clear hb r0 r1 r2 s0 s1 s2;obtain⟨r0,r1,r2⟩:=HW.out.rcells);have zW:=zh (M6.out w5 OX.out HW.out.below)
       cases hun:(r.steps.any fun s=>s.src.any fun x=> !aI r x) with
       |true=>
        rw[hun] at zW;have HE:=zh (inspectE_none H1.out HT.out H60.out (by rw[hun,Bool.or_true]));clear hun;refine zW.out.mono ?_;rintro e w6 ⟨rfl,hb⟩
        replace HW:=zh (HW.out.later hb)
        clear hb r0 r1 r2;exact S9
       |false=>
        rw[hun] at zW;have HE:=zh (inspectE_last H1.out HT.out H60.out (by rw[hun,AZ.out];rfl));clear hun;refine zW.out.mono ?_;rintro e w6 ⟨rfl,hb⟩
        replace HW:=zh (HW.out.later hb)
        clear hb r0 r1 r2;obtain⟨g0,g1,g2,g3,g4⟩:=HW.out.gcells
        have HCi:=zh (circle_any L (.slice ai r.inputs.length ci) (.slice av L.length cv) r.output (w.heap.size+1+1) (w.heap.size+1+1+1) L.length w6 (DI.out.later HW.out.below) (by rw[HL.out];exact HW.out.mw) h2
         (fun y hy=>by
          have h3:=H3.out;rw[List.any_eq_false] at h3;have:=h3 y hy;have hr:aM y.2=true:=YK;have:=(dS hr).2.2.1
          omega))
        rw[HL.out] at HCi
        cases hci:kG r.steps with
        |true=>
         rw[hci] at HCi HE;clear hci;go_wp2_with fail;refine HCi.out.mono ?_;rintro e w7 ⟨rfl,hb⟩
         replace HW:=zh (HW.out.later hb)
         clear hb g0 g1 g2 g3 g4;exact S9
        |false=>
         rw[hci] at HCi HE;clear hci;go_wp2_with fail;refine HCi.out.mono ?_;rintro e w7 ⟨rfl,hb⟩
         replace HW:=zh (HW.out.later hb)
         clear hb g0 g1 g2 g3 g4;obtain⟨g0,g1,g2,g3,g4⟩:=HW.out.gcells;obtain⟨⟨z0,z1,z2,z3,z4⟩,f0,f1,f2,f3,f4⟩:=HW.out.zcells;go_wp2_with fail;exact HW.out.ret rfl rfl rfl HE.out (fun _=>⟨rfl,rfl⟩)
theorem inspect_any(r:Rcp)(L:List (Value×Stp))(vi vs:Value)(w:World)(xC:iB w vi r.inputs)(vE:lD w vs L)(hL:L.map (·.2)=r.steps)(hout:r.output.size<=140737488355328):
  Calls Tryz.prog 63 #[lY vi vs r.output] w (InspPost vi vs r.output r w):=by
 by_cases h:aR r.inputs=false\/60<L.length\/(L.any fun y=> !aM y.2)=true
 ·exact inspect_arg r L vi vs w xC vE hL h
 ·refine inspect_good r L vi vs w xC vE hL hout ?_ ?_ ?_
  ·cases hh:aR r.inputs with
   |true=>rfl
   |false=>exact absurd (.inl hh) h
  ·have:¬60<L.length:=fun hh=>h (.inr (.inl hh));omega
  ·cases hh:(L.any fun y=> !aM y.2) with
   |false=>rfl
   |true=>exact absurd (.inr (.inr hh)) h
theorem UD{p:Prop}(h:p:=by
 go_wp2_with fail;refine HI.out.mono ?_;rintro e w2 ⟨rfl,hb,-⟩;generalize aU r=q at h0 h1;have HB:=zh hb;clear hb;go_wp2_with fail;go_ret
 exact⟨rfl,aB (aB (aA _ _) HB.out) (aA _ _)⟩):p:=h
structure eL (r:Rcp) (L:List (Value×Stp)) (vi vs:Value) (w:World):Prop where
 inp:iB w vi r.inputs
 stp:lD w vs L
 map:L.map (·.2)=r.steps
 out:r.output.size<=140737488355328
section
variable {r:Rcp} {L:List (Value×Stp)} {vi vs:Value} {w w':World}
theorem eL.later(h:eL r L vi vs w)(hb:Below w.heap.size w w'):eL r L vi vs w':=⟨h.inp.later hb,h.stp.later hb,h.map,h.out⟩
theorem eL.onlyMap{b:Nat}(h:eL r L vi vs w)(hm:cQ w b)(ho:bL b w w'):eL r L vi vs w':=⟨h.inp.onlyMap hm ho,h.stp.onlyMap hm ho,h.map,h.out⟩
theorem eL.slices(h:eL r L vi vs w):∃ai ci av cv,vi=.slice ai r.inputs.length ci/\vs=.slice av L.length cv:=by
 obtain⟨ai,ci,NI,-⟩:=h.inp;obtain⟨av,cv,LA⟩:=stps_slice h.stp;exact⟨ai,ci,av,cv,NI,LA⟩
theorem eL.len(h:eL r L vi vs w):r.steps.length=L.length:=by rw[<-h.map];simp
theorem eL.inspect(h:eL r L vi vs w):Calls Tryz.prog 63 #[lY vi vs r.output] w (InspPost vi vs r.output r w):=inspect_any r L vi vs w h.inp h.stp h.map h.out
end
theorem right_any(r:Rcp)(L:List (Value×Stp))(vi vs:Value)(w:World)(h:eL r L vi vs w):
  Calls Tryz.prog 35 #[lY vi vs r.output] w fun e w'=>e=.returned (.int .i64 (aU r))/\Below w.heap.size w w':=by
 have HI:=zh (h.later (aA w (bK vi vs r.output))).inspect;obtain⟨ai,ci,av,cv,rfl,rfl⟩:=h.slices;clear h;go_enter Tryz.func35,Tryz.ntmps35;go_wp2_with fail;refine HI.out.mono ?_;rintro e w2 ⟨rfl,hb,-⟩;have HB:=zh hb;clear hb;go_wp2_with fail;go_ret;exact⟨rfl,aB (aB (aA _ _) HB.out) (aA _ _)⟩
theorem order_bad(r:Rcp)(L:List (Value×Stp))(vi vs:Value)(w:World)(h:eL r L vi vs w)(he:aU r≠0):
  Calls Tryz.prog 33 #[lY vi vs r.output] w fun e w'=>e=.returned (.slice none 0 0)/\Below w.heap.size w w':=by
 have HI:=zh (h.later (aA w (bK vi vs r.output))).inspect;obtain⟨ai,ci,av,cv,rfl,rfl⟩:=h.slices;have h0:(aU r==0)=false:=beq_eq_false_iff_ne.2 he;have h1:(aU r != 0)=true:=YE;clear h he;go_enter Tryz.func33,Tryz.ntmps33;exact UD
theorem slice_bad(r:Rcp)(L:List (Value×Stp))(vi vs:Value)(w:World)(h:eL r L vi vs w)(he:aU r≠0):
  Calls Tryz.prog 30 #[lY vi vs r.output] w fun e w'=>e=.returned (.slice none 0 0)/\Below w.heap.size w w':=by
 have HI:=zh (h.later (aA w (bK vi vs r.output))).inspect;obtain⟨ai,ci,av,cv,rfl,rfl⟩:=h.slices;have h0:(aU r==0)=false:=beq_eq_false_iff_ne.2 he;have h1:(aU r != 0)=true:=YE;clear h he;go_enter Tryz.func30,Tryz.ntmps30;exact UD
theorem pure_bad(r:Rcp)(L:List (Value×Stp))(vi vs:Value)(w:World)(h:eL r L vi vs w)(he:aU r≠0):
  Calls Tryz.prog 28 #[lY vi vs r.output] w fun e w'=>e=.returned (.bool false)/\Below w.heap.size w w':=by
 have HI:=zh (right_any r L vi vs _ (h.later (aA w (bK vi vs r.output))));obtain⟨ai,ci,av,cv,rfl,rfl⟩:=h.slices;have h0:(aU r==0)=false:=beq_eq_false_iff_ne.2 he;clear h he;generalize aU r=q at h0 HI;go_enter Tryz.func28,Tryz.ntmps28;go_wp2_with fail;refine HI.out.mono ?_;rintro e w2 ⟨rfl,hb⟩;have HB:=zh hb;clear hb;go_wp2_with fail;go_ret;exact⟨rfl,aB (aA _ _) HB.out⟩
end Go.Proofs.YtacgopankhpnbaaGreatDoor
namespace Go.Proofs.YtacgopankhpnbaaGreatDoor
open Go.RowKit
structure Grf (r:Rcp) (L:List (Value×Stp)) (vi vs:Value) (bw bi:Nat) (w:World):Prop where
 rcp:eL r L vi vs w
 wr:∃nw,aW eI vInt w bw nw (kD r.steps)
 few:L.length<=60
 src:∀y,y∈L->y.2.src.length<=1000000
section
variable {r:Rcp} {L:List (Value×Stp)} {vi vs:Value} {bw bi:Nat} {w w':World}
theorem Grf.later(h:Grf r L vi vs bw bi w)(hb:Below w.heap.size w w'):Grf r L vi vs bw bi w':=by
 obtain⟨nw,hw⟩:=h.wr;exact⟨h.rcp.later hb,⟨nw,hw.later hb⟩,h.few,h.src⟩
theorem Grf.onlyMap{b:Nat}(h:Grf r L vi vs bw bi w)(hm:cQ w b)(ho:bL b w w')(pQ:bw≠b):Grf r L vi vs bw bi w':=by
 obtain⟨nw,hw⟩:=h.wr;exact⟨h.rcp.onlyMap hm ho,⟨nw,hw.of_block (ho.block _ hw.lt pQ)⟩,h.few,h.src⟩
theorem Grf.needs(h:Grf r L vi vs bw bi w){i:Nat}(hi:i<L.length):Calls Tryz.prog 67 #[grfV vi vs r.output bw bi,.int .i64 i] w (fK (aY r.steps i) w):=by
 obtain⟨nw,hw⟩:=h.wr;obtain⟨y,hy,ES⟩:=getElem?_of_lt hi;have e:aY r.steps i=eF r.steps y.2:=by rw[<-h.rcp.map];exact needsAt_of hy
 rw[e];exact needs_any r.steps vi vs r.output bw bi nw L i y w h.rcp.stp hy hw (h.src y ES)
end
def DoneIs(w:World)(b:Nat)(done:Nat->Bool):Prop:=∃n m,aW kInt dD w b n m/\n<=1000/\∀i:Nat,(m i).getD false=done i
theorem DoneIs.later{w w':World}{b:Nat}{done:Nat->Bool}(h:DoneIs w b done)(hb:Below w.heap.size w w'):DoneIs w' b done:=by
 obtain⟨n,m,h1,h2,h3⟩:=h;exact⟨n,m,h1.later hb,h2,h3⟩
theorem DoneIs.look{w:World}{b:Nat}{done:Nat->Bool}(h:DoneIs w b done){i:Nat}(hi:i<9223372036854775808):(Instr.lookup 104 (.map (some b)) (.int .i64 i) false).run Tryz.prog w=.ok (.bool (done i)) w:=by
 obtain⟨n,m,h1,-,h3⟩:=h;have:=h1.look Tryz.underlying104 (x:=(i:Int)) (nat_wf hi);rw[show(m i).getD dD.zero=done i from h3 i] at this;exact this
theorem ready1_any(k p b:Nat)(done:Nat->Bool)(w:World)(hp:w.cell? ⟨p,0,none⟩=some (.map (some b)))(hd:DoneIs w b done)(hk:k<9223372036854775808):
  Calls Tryz.prog 96 #[.int .i64 k,.pointer (some ⟨p,0,none⟩)] w fun e w'=>e=.returned (.bool (!done k))/\w=w':=by
 have hl:=hd.look hk;generalize done k=q at hl ⊢;clear hd;go_enter Tryz.func96,Tryz.ntmps96;exact U9
theorem enters_ready1:∀args w,(callFunc 96 args).run Tryz.prog w=.ok (.enter 96 args) w:=enters_of Tryz.func96 VH rfl
theorem anyV_unit(p:Nat->Bool):∀l:List Nat,jR (fun(s:Unit)k=>(s,p k)) () l=((),l.any p)
 |[]=>rfl
 |k::r=>by
  rw[jR]
  cases h:p k with
  |true=>simp[h]
  |false=>rw[if_neg VL,anyV_unit p r];simp[h]
theorem nK(g:FuncId)(cap:Array Value)(p:Nat->Bool)(l:List Nat)(v:Value)(w:World)(hI:gN w v (bE l))(eg:∀args w,(callFunc g args).run Tryz.prog w=.ok (.enter g args) w)
  (hp:∀x,x∈l->∀W,Below w.heap.size w W->Calls Tryz.prog g (#[.int .i64 (x:Int)]++cap) W fun e W'=>e=.returned (.bool (p x))/\Below W.heap.size W W'):
  Calls Tryz.prog 61 #[v,.func (.func g) #[] cap] w fun e w'=>e=.returned (.bool (l.any p))/\Below w.heap.size w w':=by
 refine(pJ g cap (fun(s:Unit)k=>(s,p k)) l v (fun W _=>Below w.heap.size w W) w () (Below.refl _ _) ⟨fun W _ hb=>hI.later hb,eg,fun x hx W s hb=>?_⟩).mono ?_
 ·refine(hp x hx W hb).mono ?_;rintro e W' ⟨rfl,h⟩;exact⟨rfl,aB hb h⟩
 ·rw[anyV_unit];rintro e W' ⟨rfl,h⟩;exact⟨rfl,h⟩
end Go.Proofs.YtacgopankhpnbaaGreatDoor
namespace Go.Proofs.YtacgopankhpnbaaGreatDoor
open Go.RowKit
structure Gath (W0:World) (l:List Nat) (v:Value) (wr:World):Prop where
 own:wr.ownsRow W0.heap.size 3 1 v l.length ((bE l).map (Value.int .i64))
 below:Below W0.heap.size W0 wr
theorem Gath.first(W0:World):Gath W0 [] (.slice none 0 0) W0:=⟨by simpa using World.ownsRow_nil _ _ _ _,Below.refl _ _⟩
theorem Gath.later{W0 wr w2:World}{l:List Nat}{v:Value}(h:Gath W0 l v wr)(hb:Below wr.heap.size wr w2):Gath W0 l v w2:=
 ⟨h.own.kept (row:=none) ⟨hb.os,hb.tape,hb.output,hb.size,fun k hk _=>hb.block k hk⟩ (Classical.em _),h.below.trans (hb.mono h.below.size)⟩
theorem Gath.added{W0 wr w3:World}{l:List Nat}{v v':Value}{j:Nat}{o:Obj}(h:Gath W0 l v wr)(pP:w3.ownsRow W0.heap.size 3 1 v' (l.length+1) ((bE l).map (Value.int .i64)++[.int .i64 j]))(hg:(wr.alloc o).grownBy w3 v.ownBlock):Gath W0 (l++[j]) v' w3:=by
 have hz:wr.heap.size+1<=w3.heap.size:=XP;have uM:=h.below;refine⟨XN,?_⟩;exact TW
theorem Gath.post{w W0 w':World}{l:List Nat}{v:Value}(h:Gath W0 l v w')(hw:Below w.heap.size w W0):fK l w (.returned v) w':=by
 refine⟨v,rfl,ints_of_owns (by simpa[bE] using h.own),fun a n c e=>?_,aB hw h.below⟩;subst e;have:=(h.own.lt a.block rfl).1;have:=hw.size;omega
def kV(steps:List Stp)(done:Nat->Bool)(k:Nat):List Nat:=(List.range k).filter (iZ steps done)
theorem readyTo_yes{steps:List Stp}{done:Nat->Bool}{k:Nat}(h:iZ steps done k=true):kV steps done (k+1)=kV steps done k++[k]:=by
 unfold kV;rw[List.range_succ,List.filter_append];simp[h]
theorem readyTo_no{steps:List Stp}{done:Nat->Bool}{k:Nat}(h:iZ steps done k=false):kV steps done (k+1)=kV steps done k:=by
 unfold kV;rw[List.range_succ,List.filter_append];simp[h]
theorem readyTo_len(steps:List Stp)(done:Nat->Bool)(k:Nat):(kV steps done k).length<=k:=by
 unfold kV;have:=List.length_filter_le (iZ steps done) (List.range k);simpa using this
theorem ready_any(r:Rcp)(L:List (Value×Stp))(vi vs:Value)(bw bi bd:Nat)(done:Nat->Bool)(w:World)(h:Grf r L vi vs bw bi w)(hd:DoneIs w bd done):
  Calls Tryz.prog 64 #[grfV vi vs r.output bw bi,.map (some bd)] w (fK (bC r.steps done) w):=by
 have BP:Below w.heap.size w ((w.alloc (bR vi vs r.output bw bi)).alloc (.cells #[.map (some bd)] 104)):=aB (aA _ _) (aA _ _);have sG:=zh BP;have HBox:=zh (aF (aA _ (.cells #[.map (some bd)] 104)) (aN w (bR vi vs r.output bw bi)))
 have HDb:=zh (show((w.alloc (bR vi vs r.output bw bi)).alloc (.cells #[.map (some bd)] 104)).heap[w.heap.size+1]? =some (.cells #[.map (some bd)] 104) by
  have:=aN (w.alloc (bR vi vs r.output bw bi)) (.cells #[.map (some bd)] 104)
  simpa only[World.size_alloc] using this)
 obtain⟨i0,tF,rS,qI,qH⟩:=info_parts intInfo;obtain⟨ai,ci,av,cv,rfl,rfl⟩:=h.rcp.slices;have AL:=h.few;have hlen:=h.rcp.len;have HR:=zh (show bC r.steps done=kV r.steps done L.length by unfold bC kV;rw[hlen]);rw[HR.out];have HG:=zh h;have HD:=zh hd;clear h hd BP hlen HR;go_enter Tryz.func64,Tryz.ntmps64;go_wp2_with fail;generalize hW:(w.alloc (bR (.slice ai r.inputs.length ci) (.slice av L.length cv) r.output bw bi)).alloc (.cells #[.map (some bd)] 104)=W0 at sG HBox HDb ⊢;clear hW;go_loopw [5,11] (fun v i wr=>∃k:Nat,k<=L.length/\i=.int .i64 k/\Hid (Gath W0 (kV r.steps done k) v wr)) (fun _ i _=>L.length-(intOf i).toNat)
 case atStart=>exact⟨0,Nat.zero_le _,rfl,zh (Gath.first W0)⟩
 case round=>
  obtain⟨k,hk,rfl,HR⟩:=hrel;rename World=>wr
  rename Value=>vo
  by_cases pT:k<L.length
  ·have sA:=zh (aB sG.out HR.out.below);have hdb:=box1 (aF HR.out.below HDb.out);have hl:=(HD.out.later sA.out).look (i:=k) VG;have hrl:=readyTo_len r.steps done k;have IV:W0.heap.size<=wr.heap.size:=HR.out.below.size
   cases N5:done k with
   |true=>
    rw[N5] at hl;have HN:=zh (readyTo_no (steps:=r.steps) (show iZ r.steps done k=false by unfold iZ;rw[N5];rfl));clear N5;go_wp2_with fail;go_roundw;(case rel=>exact⟨k+1,VG,VT,zh (by rw[HN.out];exact HR.out)⟩);case measure=>simp[intOf];omega
   |false=>
    rw[N5] at hl;have HNe:=zh ((HG.out.later sA.out).needs pT);obtain⟨g0,g1,g2,g3,g4⟩:=box5 (aF HR.out.below HBox.out)
    have KV:Hid (∀v W,Below wr.heap.size wr W->gN W v (bE (aY r.steps k))->Calls Tryz.prog 61 #[v,.func (.func 96) #[] #[.pointer (some ⟨w.heap.size+1,0,none⟩)]] W fun e w'=>e=.returned (.bool ((aY r.steps k).any fun j=> !done j))/\Below W.heap.size W w'):=
     zh fun v W hb hI=>nK 96 #[.pointer (some ⟨w.heap.size+1,0,none⟩)] (fun j=> !done j) (aY r.steps k) v W hI enters_ready1 (fun x hx W' qU=>by
      have pR:=aB hb qU;refine(ready1_any x (w.heap.size+1) bd done W' (aC pR hdb) ((HD.out.later sA.out).later pR) (by have:=lJ hx;have:=HG.out.rcp.len;omega)).mono ?_;rintro e w' ⟨rfl,rfl⟩
      exact⟨rfl,Below.refl _ _⟩)
    cases hq:(aY r.steps k).any fun j=> !done j with
    |true=>
     rw[hq] at KV;have HN:=zh (readyTo_no (steps:=r.steps) (show iZ r.steps done k=false by unfold iZ;rw[N5,hq];rfl));clear N5 hq;go_wp2_with fail;refine HNe.out.mono ?_;rintro e w2 ⟨v,rfl,hI,-,hb⟩;have zX:=zh (KV.out v w2 hb hI);have qM:=zh hb;clear hI hb;go_wp2_with fail;refine zX.out.mono ?_;rintro e w3 ⟨rfl,hb⟩;have vJ:=zh hb;clear hb;go_wp2_with fail;go_roundw;(case rel=>exact⟨k+1,VG,VT,zh (by rw[HN.out];exact HR.out.later (aB qM.out vJ.out))⟩);case measure=>simp[intOf];omega
    |false=>
     rw[hq] at KV;have HN:=zh (readyTo_yes (steps:=r.steps) (show iZ r.steps done k=true by unfold iZ;rw[N5,hq];rfl));clear N5 hq;go_wp2_with fail;refine HNe.out.mono ?_;rintro e w2 ⟨v,rfl,hI,-,hb⟩;have zX:=zh (KV.out v w2 hb hI);have qM:=zh hb;clear hI hb;go_wp2_with fail;refine zX.out.mono ?_;rintro e w3 ⟨rfl,hb⟩;have MW:=zh (HR.out.later (aB qM.out hb));have hbz3:W0.heap.size<=w3.heap.size:=MW.out.below.size;clear hb;go_wp2_with(at_builtin;refine wpList_append_own _ rfl _ _ 26 rfl W0.heap.size 3 i0 (.int .i64 0) 1 8 Tryz.underlying26 tF rS qI qH rfl VI _ _ _ rfl (MW.out.own.alloc _) ⟨w3.heap.size,0,none⟩ 1 1 [.int .i64 k] rfl rfl (cell_one_new _ _ _) VX VR VG VZ ?_);intro v' w4 pP pO _;have sV:=zh (MW.out.added XN pO);clear pP pO;go_wp2_with fail;go_roundw;(case rel=>exact⟨k+1,VG,VT,zh (by rw[HN.out];exact sV.out)⟩);case measure=>simp[intOf];omega
  ·obtain rfl:k=L.length:=VG;go_wp2_with fail;go_ret;exact HR.out.post sG.out
theorem choose_any(l:List Nat)(next:List Int)(u:Nat)(vl vn:Value)(w:World)(hl:gN w vl (bE l))(hn:gN w vn next)(rL:0<l.length)(hwf:∀x,x∈next->(Lit.int .i64 x).wf=true):
  Calls Tryz.prog 65 #[vl,vn,.int .i64 u] w fun e w'=>e=.returned (.int .i64 (eG l next u))/\w=w':=by
 rcases hl.cases with⟨e,-⟩|⟨b,o,c,rfl,-,pS,pR,-,hc⟩
 ·rw[bE,List.map_eq_nil_iff] at e;subst e;simp at rL
 rw[show(bE l).length=l.length by simp] at pS ⊢;have hk:fT (next.getD u 0) l.length<l.length:=(tmod_cases _ _ rL).2;have hT:=(tmod_cases (next.getD u 0) _ rL).1;generalize hK:fT (next.getD u 0) l.length=k at hk hT
 have qZ:w.cell? ⟨b,o+k,none⟩=some (.int .i64 (eG l next u)):=by
  have:(bE l)[k]? =some (eG l next u:Int):=by
   unfold eG bE;rw[List.getElem?_map,hK,List.getD_eq_getElem?_getD,List.getElem?_eq_getElem hk];rfl
  exact hc k _ this
 have HK:=zh hK;clear hK;have HC:=zh hc;clear hc hl;generalize eG l next u=R at qZ ⊢
 by_cases pT:u<next.length
 ·rcases hn.cases with⟨e,-⟩|⟨bn,on,cn,rfl,-,zL,hn2,-,hcn⟩
  ·subst e;simp at pT
  obtain⟨x,hx,BN⟩:=getElem?_of_lt pT;have hcx:w.cell? ⟨bn,on+u,none⟩=some (.int .i64 x):=hcn u x hx;have hX:next.getD u 0=x:=by rw[List.getD_eq_getElem?_getD,hx];rfl
  rw[hX] at hT;obtain⟨DQ,EU⟩:=i64_bounds (hwf x BN);have QT:(x.tmod l.length<0/\x.tmod l.length=(k:Int)-l.length)\/(0<=x.tmod l.length/\x.tmod l.length=(k:Int)):=VG;clear hT hX hcn hx BN hwf hn;rcases QT with⟨uJ,QT⟩|⟨uJ,QT⟩
  all_goals
   go_enter Tryz.func65,Tryz.ntmps65;go_wp2_with fail;go_ret;exact⟨rfl,rfl⟩
 ·have hX:next.getD u 0=0:=by rw[List.getD_eq_getElem?_getD,List.getElem?_eq_none VG];rfl
  rw[hX,Int.zero_tmod] at hT;obtain rfl:k=0:=VG;rw[Nat.add_zero] at qZ;obtain⟨an,cn,hvn,-⟩:=id hn;subst hvn;clear hT hX hwf hn;go_enter Tryz.func65,Tryz.ntmps65;exact U9
def hZ(w:World)(b:Nat)(done:Nat->Bool)(len:Nat):Prop:=∃n m,aW kInt dD w b n m/\n+dF done len<=100/\∀i:Nat,(m i).getD false=done i
theorem hZ.is{w:World}{b len:Nat}{done:Nat->Bool}(h:hZ w b done len):DoneIs w b done:=by
 obtain⟨n,m,h1,h2,h3⟩:=h;exact⟨n,m,h1,VG,h3⟩
theorem hZ.lt{w:World}{b len:Nat}{done:Nat->Bool}(h:hZ w b done len):b<w.heap.size:=by obtain⟨n,m,h1,-⟩:=h;exact h1.lt
theorem hZ.isMap{w:World}{b len:Nat}{done:Nat->Bool}(h:hZ w b done len):cQ w b:=by obtain⟨n,m,h1,-⟩:=h;exact cQ.of h1
theorem hZ.later{w w':World}{b len:Nat}{done:Nat->Bool}(h:hZ w b done len)(hb:Below w.heap.size w w'):hZ w' b done len:=by
 obtain⟨n,m,h1,h2,h3⟩:=h;exact⟨n,m,h1.later hb,h2,h3⟩
theorem hZ.of_block{w w':World}{b len:Nat}{done:Nat->Bool}(h:hZ w b done len)(hb:w'.heap[b]? =w.heap[b]?):hZ w' b done len:=by
 obtain⟨n,m,h1,h2,h3⟩:=h;exact⟨n,m,h1.of_block hb,h2,h3⟩
open Classical in
theorem hZ.set{w:World}{b len i:Nat}{done:Nat->Bool}(h:hZ w b done len)(hi:i<len)(hd:done i=false)(hl:len<=1000000):
  ∃w',(Instr.mapUpdate 104 (.map (some b)) (.int .i64 i) (.bool true)).run Tryz.prog w=.ok () w'/\hZ w' b (jI done i) len/\w.grownBy w' (some b):=by
 obtain⟨n,m,h1,h2,h3⟩:=h;have hp:=gL hd len hi;obtain⟨w',sB,hm',hg⟩:=h1.store Tryz.underlying104 VR (x:=(i:Int)) (nat_wf VG) (y:=true) trivial;refine⟨w',sB,⟨n+1,_,hm',VG,fun j=>?_⟩,hg⟩;by_cases hj:j=i
 ·subst hj;simp[jI]
 ·have:¬(j:Int)=i:=VG;simp only[this,if_false,jI,hj];exact h3 j
theorem hZ.first(w:World)(len:Nat)(h:len<=100):hZ (w.alloc (.map #[] 0)) w.heap.size (fun _=>false) len:=
 ⟨0,fun _=>none,aW.made (K:=kInt) (V:=dD) w,by have:=leftN_le (fun _=>false) len;omega,fun _=>rfl⟩
structure OrdSt (steps:List Stp) (len:Nat) (wb:World) (done:Nat->Bool) (out:List Nat) (v6:Value) (wr:World):Prop where
 map:hZ wr wb.heap.size done len
 own:wr.ownsRow (wb.heap.size+1) 3 1 v6 out.length ((bE out).map (Value.int .i64))
 cnt:out.length+dF done len=len
 below:Below wb.heap.size wb wr
 left:orderAll steps=oY steps (dF done len+1) done out
theorem grown_below{w wr w1:World}{b:Nat}(h:Below w.heap.size w wr)(hg:wr.grownBy w1 (some b))(hb:w.heap.size<=b):Below w.heap.size w w1:=(iE hg).below h hb h.size
theorem own_map{wr w1:World}{bd:Nat}{v:Value}{l:List Nat}(h:wr.ownsRow (bd+1) 3 1 v l.length ((bE l).map (Value.int .i64)))(hg:wr.grownBy w1 (some bd)):w1.ownsRow (bd+1) 3 1 v l.length ((bE l).map (Value.int .i64)):=
 mJ h (iE hg) VG
theorem own_later{wr w1:World}{B:Nat}{v:Value}{l:List Nat}(h:wr.ownsRow B 3 1 v l.length ((bE l).map (Value.int .i64)))(hb:Below wr.heap.size wr w1):w1.ownsRow B 3 1 v l.length ((bE l).map (Value.int .i64)):=
 h.kept (row:=none) ⟨hb.os,hb.tape,hb.output,hb.size,fun k hk _=>hb.block k hk⟩ (Classical.em _)
theorem grown_block{wr w3:World}{o:Obj}{v:Value}{B j:Nat}{e:TypeId}{size n:Nat}{xs:List Value}(hg:(wr.alloc o).grownBy w3 v.ownBlock)(pP:wr.ownsRow B e size v n xs)(hj:j<wr.heap.size)(hB:j<B):w3.heap[j]? =wr.heap[j]? :=by
 rw[hg.block j VZ (fun e=>by have:=(pP.lt j e.symm).1;omega),Below.heap_alloc _ _ _ VG]
theorem grown_below2{w wr w3:World}{o:Obj}{v:Value}{B:Nat}{e:TypeId}{size n:Nat}{xs:List Value}(h:Below w.heap.size w wr)(hg:(wr.alloc o).grownBy w3 v.ownBlock)(pP:wr.ownsRow B e size v n xs)(hB:w.heap.size<=B):Below w.heap.size w w3:=by
 have hz:wr.heap.size+1<=w3.heap.size:=XP;have hs:=h.size;exact⟨hg.os.trans h.os,hg.tape.trans h.tape,hg.output.trans h.output,VG,fun j hj=>(grown_block hg pP VG VG).trans (h.block j hj)⟩
theorem OrdSt.later{steps:List Stp}{len:Nat}{wb:World}{done:Nat->Bool}{out:List Nat}{v6:Value}{wr w':World}(h:OrdSt steps len wb done out v6 wr)(hb:Below wr.heap.size wr w'):OrdSt steps len wb done out v6 w':=
 ⟨h.map.later hb,own_later h.own hb,h.cnt,aB h.below hb,h.left⟩
theorem mS:∀n,dF (fun _=>false) n=n
 |0=>rfl
 |n+1=>by rw[dF,mS n];rfl
theorem OrdSt.first{steps:List Stp}{len:Nat}(wb:World)(hl:steps.length=len)(AL:len<=60):OrdSt steps len wb (fun _=>false) [] (.slice none 0 0) (wb.alloc (.map #[] 0)):=
 ⟨hZ.first wb len VG,by simpa using World.ownsRow_nil _ _ _ _,by rw[mS];simp,aA _ _,by rw[mS,<-hl];rfl⟩
theorem own_len{w:World}{base:Nat}{e:TypeId}{size:Nat}{v:Value}{n:Nat}{xs:List Value}(h:w.ownsRow base e size v n xs):kS v=n:=by
 rcases h.2 with⟨rfl,h0⟩|⟨g,cap,cur,rfl,_⟩
 ·exact h0.symm
 ·rfl
theorem OrdSt.post{steps:List Stp}{len:Nat}{wb w wr:World}{done:Nat->Bool}{out:List Nat}{v6:Value}(h:OrdSt steps len wb done out v6 wr)(hr:bC steps done=[])(hb:Below w.heap.size w wb):fK (orderAll steps) w (.returned v6) wr:=by
 have e:orderAll steps=out:=by
  rw[h.left,oY,hr]
 have hs:=hb.size;rw[e];refine⟨v6,rfl,ints_of_owns (by simpa[bE] using h.own),fun a n c e=>?_,hb.trans (h.below.mono hs)⟩;have:=owns_block h.own (Nat.le_refl _) a n c e;omega
theorem OrdSt.next{steps:List Stp}{len:Nat}{wb:World}{done:Nat->Bool}{out:List Nat}{v6 v':Value}{wr w1 w3:World}{i:Nat}{rest:List Nat}{o:Obj}(h:OrdSt steps len wb done out v6 wr)
  (hr:bC steps done=i::rest) (hm:hZ w1 wb.heap.size (jI done i) len) (hg:wr.grownBy w1 (some wb.heap.size))
  (pP:w3.ownsRow (wb.heap.size+1) 3 1 v' (out.length+1) ((bE out).map (Value.int .i64)++[.int .i64 i])) (KN:(w1.alloc o).grownBy w3 v6.ownBlock) (pT:steps.length=len):OrdSt steps len wb (jI done i) (out++[i]) v' w3:=by
 obtain⟨h1,h2,-⟩:=oW (show i∈bC steps done by rw[hr];simp);have hl:=gL h2 len VG;have vO:=own_map h.own hg;have rZ:=h.below.size;refine⟨hm.of_block (grown_block KN vO hm.lt VG),XN,by have:=h.cnt;simp;omega,grown_below2 (grown_below h.below hg VG) KN vO VG,?_⟩;rw[h.left,<-hl,oY,hr]
theorem order_good(r:Rcp)(L:List (Value×Stp))(vi vs:Value)(w:World)(h:eL r L vi vs w)(he:aU r=0):
  Calls Tryz.prog 33 #[lY vi vs r.output] w (fK (orderL r) w):=by
 have HI:=zh (h.later (aA w (bK vi vs r.output))).inspect;have HE:=zh (show orderL r=orderAll r.steps by unfold orderL;rw[if_neg (by simp[he])]);rw[HE.out];have HR:=zh (lU he);have uQ:=zh h;have hlen:=h.len;have yA:L.length<=60:=by have:=HR.out.few;omega
 obtain⟨i0,tF,rS,qI,qH⟩:=info_parts intInfo;have vZ:=@run_makeMap Tryz.prog;obtain⟨ai,ci,av,cv,rfl,rfl⟩:=h.slices;have H0:=zh he
 have JG:=zh (show ∀y,y∈L->y.2.src.length<=1000000 from fun y hy=>by
  have:=HR.out.steps y.2 XV;have:=(dS this).2.2.1
  omega)
 have sD:=zh hlen;clear h he hlen HE;go_enter Tryz.func33,Tryz.ntmps33;go_wp2_with fail;refine HI.out.mono ?_;rintro e w2 ⟨rfl,hb,hm⟩;obtain⟨nw,ni,NM,LP⟩:=hm H0.out;have HB:=zh (aB (aB (aA w _) hb) (aA w2 (bR (.slice ai r.inputs.length ci) (.slice av L.length cv) r.output (w.heap.size+1+1+1) (w.heap.size+1+1+1+1))))
 have HG:=zh (show Grf r L (.slice ai r.inputs.length ci) (.slice av L.length cv) (w.heap.size+1+1+1) (w.heap.size+1+1+1+1) (w2.alloc (bR (.slice ai r.inputs.length ci) (.slice av L.length cv) r.output (w.heap.size+1+1+1) (w.heap.size+1+1+1+1))) from
  ⟨uQ.out.later HB.out,⟨nw,by have:=NM.later (aA w2 (bR (.slice ai r.inputs.length ci) (.slice av L.length cv) r.output (w.heap.size+1+1+1) (w.heap.size+1+1+1+1)));simpa only[World.size_alloc] using this⟩,yA,JG.out⟩)
 have DN:=zh (aN w2 (bR (.slice ai r.inputs.length ci) (.slice av L.length cv) r.output (w.heap.size+1+1+1) (w.heap.size+1+1+1+1)));have HO:=zh (OrdSt.first (steps:=r.steps) (w2.alloc (bR (.slice ai r.inputs.length ci) (.slice av L.length cv) r.output (w.heap.size+1+1+1) (w.heap.size+1+1+1+1))) sD.out yA);have qX:(w2.alloc (bR (.slice ai r.inputs.length ci) (.slice av L.length cv) r.output (w.heap.size+1+1+1) (w.heap.size+1+1+1+1))).heap.size=w2.heap.size+1:=World.size_alloc _ _;have RF:=zh qX;rw[H0.out];clear hb hm NM LP HI qX;go_wp2_with fail;generalize hWb:w2.alloc (bR (.slice ai r.inputs.length ci) (.slice av L.length cv) r.output (w.heap.size+1+1+1) (w.heap.size+1+1+1+1))=wb at HB HG DN HO RF ⊢;clear hWb
 have AV:Hid (∀done W,Below wb.heap.size wb W->hZ W wb.heap.size done L.length->Calls Tryz.prog 64 #[grfV (.slice ai r.inputs.length ci) (.slice av L.length cv) r.output (w.heap.size+1+1+1) (w.heap.size+1+1+1+1),.map (some (w2.heap.size+1))] W (fK (bC r.steps done) W)):=
  zh fun done W hb hd=>by
   have:=ready_any r L _ _ _ _ wb.heap.size done W (HG.out.later hb) hd.is
   rwa [RF.out] at this
 refine(AV.out (fun _=>false) _ (aA _ _) HO.out.map).mono ?_;rintro e w3 ⟨v7,rfl,hI,-,hb⟩;have HI:=zh hI;have DL:=zh (HO.out.later hb);clear hI hb HO;go_wp2_with fail;go_loopw [6,7] (fun v6 v7 wr=>∃(done:Nat->Bool)(out:List Nat),Hid (OrdSt r.steps L.length wb done out v6 wr)/\Hid (gN wr v7 (bE (bC r.steps done)))) (fun v6 _ _=>L.length-kS v6)
 case atStart=>exact⟨_,_,DL,HI⟩
 case round=>
  clear DL HI;obtain⟨done,out,HO,HI⟩:=hrel;rename World=>wr
  generalize hv6:u6=v6 at *;generalize hv7:u7=v7 at *;clear hv6 hv7
  obtain⟨a7,c7,e7⟩:∃a c,v7=.slice a (bC r.steps done).length c:=by
   obtain⟨a,c,hv,-⟩:=HI.out;exact⟨a,c,by rw[hv];simp⟩
  subst e7
  cases hr:bC r.steps done with
  |nil=>
   have HF:=zh (HO.out.post hr HB.out);rw[hr] at HI;clear hr;go_wp2_with fail;go_ret;exact HF.out
  |cons i rest=>
   have C2:=zh hr;rw[hr] at HI;obtain⟨hi,hid,-⟩:=oW (show i∈bC r.steps done by rw[hr];simp)
   have hlen0:out.length<L.length:=by
    have h1:=HO.out.cnt;have h2:=leftN_pos (n:=L.length) (by rw[<-sD.out];exact hi) hid;omega
   obtain⟨w1,sB,xB,CA⟩:=HO.out.map.set (i:=i) (by rw[<-sD.out];exact hi) hid VG;rw[RF.out] at sB;have HM1:=zh xB;have HG1:=zh CA;have hsl:kS v6=out.length:=own_len HO.out.own;have AQ:=zh hsl;rcases HI.out.cases with⟨e,-⟩|⟨b,o,c,e,-,-,-,-,hc⟩
   ·simp at e
   obtain⟨rfl,rfl⟩:a7=some ⟨b,o,none⟩/\c7=c:=by
    simp only[bE,List.map_cons,List.length_cons,List.length_map] at e;injection e with e1 e2 e3;exact⟨e1,e3⟩
   have c0:wr.cell? ⟨b,o,none⟩=some (.int .i64 i):=hc 0 _ rfl;have c1:w1.cell? ⟨b,o,none⟩=some (.int .i64 i):=HO.out.map.isMap.cell (iE CA) c0;have vO:=own_map HO.out.own CA;have HOwn1:=zh vO;have QH:wb.heap.size<w1.heap.size:=xB.lt;clear hr hi hid xB CA hsl hc e vO;go_wp2_with(at_builtin;refine wpList_append_own _ rfl _ _ 26 rfl (wb.heap.size+1) 3 i0 (.int .i64 0) 1 8 Tryz.underlying26 tF rS qI qH rfl VI _ _ _ rfl (HOwn1.out.alloc _) ⟨w1.heap.size,0,none⟩ 1 1 [.int .i64 i] rfl rfl (cell_one_new _ _ _) VX VR VG VZ ?_);intro v' w3 pP pO _;have HN:=zh (HO.out.next C2.out HM1.out HG1.out XN pO sD.out);have hsl3:kS v'=out.length+1:=own_len pP;have ML:=zh hsl3;obtain⟨g0,g1,g2,g3,g4⟩:=box5 (aF HN.out.below DN.out);have zW:=zh (AV.out (jI done i) w3 HN.out.below HN.out.map);clear pP pO hsl3;go_wp2_with fail;refine zW.out.mono ?_;rintro e w4 ⟨v8,rfl,hI,-,hb⟩;have KU:=zh hI;have HN4:=zh (HN.out.later hb);clear hI hb g0 g1 g2 g3 g4;go_wp2_with fail;go_roundw;(case rel=>exact⟨_,_,HN4,KU⟩);case measure=>rw[ML.out,AQ.out];omega
end Go.Proofs.YtacgopankhpnbaaGreatDoor
