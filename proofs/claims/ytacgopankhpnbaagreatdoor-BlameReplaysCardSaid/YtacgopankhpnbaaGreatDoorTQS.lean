/- Texts of this seat, joined. -/
import Derived.Test.YtacgopankhpnbaaGreatDoorTQQ
import Derived.Test.YtacgopankhpnbaaGreatDoorTQR
set_option maxHeartbeats 8000000
set_option maxRecDepth 100000
set_option linter.unusedVariables false
set_option linter.unusedSimpArgs false
namespace Go.Proofs.YtacgopankhpnbaaGreatDoor
open Go.RowKit
theorem YR{p:Prop}(h:p:=by
 obtain⟨g0,g1,g2,g3,g4⟩:=HW.out.gcells;obtain⟨⟨z0,z1,z2,z3,z4⟩,f0,f1,f2,f3,f4⟩:=HW.out.zcells;go_wp2_with fail
 exact HW.out.ret rfl rfl rfl HE.out (fun h=>absurd h aAO)):p:=h
theorem aAy{p:Prop}(h:p:=by
 rw[e] at sE;simp at sE):p:=h
theorem inspectE_twice{r:Rcp}(h1:(!aT r.inputs||decide (60<r.steps.length)||r.steps.any (fun s=> !aM s))=false)(h2:twice r=true):aP r=5:=by
 unfold aP;rw[if_neg (by simp[h1]),if_pos h2]
theorem inspectE_full{r:Rcp}(h1:(!aT r.inputs||decide (60<r.steps.length)||r.steps.any (fun s=> !aM s))=false)(h2:twice r=false)(h3:60<r.inputs.length+r.steps.length):aP r=6:=by
 unfold aP;rw[if_neg (by simp[h1]),if_neg (by simp[h2]),if_pos h3]
theorem inspectE_none{r:Rcp}(h1:(!aT r.inputs||decide (60<r.steps.length)||r.steps.any (fun s=> !aM s))=false)(h2:twice r=false)(h3:¬60<r.inputs.length+r.steps.length)
  (h4:(!known r r.output||r.steps.any (fun s=>s.src.any fun x=> !known r x))=true):aP r=4:=by
 unfold aP;rw[if_neg (by simp[h1]),if_neg (by simp[h2]),if_neg h3,if_pos h4]
theorem inspectE_last{r:Rcp}(h1:(!aT r.inputs||decide (60<r.steps.length)||r.steps.any (fun s=> !aM s))=false)(h2:twice r=false)(h3:¬60<r.inputs.length+r.steps.length)
  (h4:(!known r r.output||r.steps.any (fun s=>s.src.any fun x=> !known r x))=false):aP r=if lC r.steps then 15 else 0:=by
 unfold aP;rw[if_neg (by simp[h1]),if_neg (by simp[h2]),if_neg h3,if_neg (by simp[h4])]
theorem inspect_good(r:Rcp)(L:List (Value×Stp))(vi vs:Value)(w:World)(xR:jZ w vi r.inputs)(vO:pZ w vs L)(hL:L.map (·.2)=r.steps)(hout:r.output.size<=140737488355328)
  (h1:aT r.inputs=true) (h2:L.length<=60) (h3:(L.any fun y=> !aM y.2)=false):
  Calls Tryz.prog 63 #[jD vi vs r.output] w (InspPost vi vs r.output r w):=by
 have H1:Hid ((!aT r.inputs||decide (60<r.steps.length)||r.steps.any (fun s=> !aM s))=false):=zh (by
  rw[h1,<-hL,List.any_map,List.length_map];have:(L.any ((fun s=> !aM s) ∘ fun x=>x.snd))=false:=h3
  rw[this];simp;omega)
 have HI60:r.inputs.length<=60:=by
  unfold aT at h1;simp only[Bool.and_eq_true,decide_eq_true_eq] at h1;exact h1.2
 obtain⟨ai,ci,SW,-⟩:=id xR;obtain⟨av,cv,QJ⟩:=stps_slice vO;subst SW QJ;have HW:=zh (kP.first (.slice ai r.inputs.length ci) (.slice av L.length cv) r.output w);have HF:=zh (iT r.inputs _ _ (xR.later HW.out.below));rw[h1] at HF
 have HC:Hid (∀W,Below w.heap.size w W->Calls Tryz.prog 90 #[.slice av L.length cv,.func (.func 91) #[] #[]] W fun e w'=>e=.returned (.bool false)/\Below W.heap.size W w'):=
  zh fun W hb=>by
   have:=nL 91 #[] (fun y=> !aM y.2) L (.slice av L.length cv) W (vO.later hb) enters_inspect1 (fun y hy W' tO=>inspect1_any y W' ((vO.src hy).1.later (aB hb tO)) (vO.src hy).2);rw[h3] at this;exact this
 have yV:=@run_makeMap Tryz.prog;have BJ:=zh xR;have CU:=zh vO;have HL:=zh hL;have H3:=zh h3;have hlen:r.steps.length=L.length:=by rw[<-hL];simp
 have vB:=zh hlen;clear xR vO hL h1 h3 hlen;go_enter Tryz.func63,Tryz.ntmps63;go_wp2_with fail;refine HF.out.mono ?_;rintro e w2 ⟨rfl,hb⟩
 replace HW:=zh (HW.out.later hb)
 obtain⟨r0,r1,r2⟩:=HW.out.rcells;clear yV hb HF;go_wp2_with fail;refine(HC.out _ HW.out.below).mono ?_;rintro e w3 ⟨rfl,hb⟩
 replace HW:=zh (HW.out.later hb)
 clear r0 r1 r2 hb HC;obtain⟨r0,r1,r2⟩:=HW.out.rcells;go_wp2_with fail;clear r0 r1 r2;go_loopw [33] (fun i wr=>∃k:Nat,k<=r.inputs.length/\i=.int .i64 k/\Hid (kP (.slice ai r.inputs.length ci) (.slice av L.length cv) r.output w 0 k (fun _=>none) (iMap (r.inputs.take k)) wr)) (fun i _=>r.inputs.length-(intOf i).toNat)
 case atStart=>exact⟨0,Nat.zero_le _,rfl,HW⟩
 case round=>
  clear HW;obtain⟨k,hk,rfl,HW⟩:=hrel;rename World=>wr
  by_cases sE:k<r.inputs.length
  ·obtain⟨f,hf,-⟩:=getElem?_of_lt sE;rcases BJ.out.cases with⟨e,-⟩|⟨b,o,c,e,-,-,-,-,hc⟩
   ·exact aAy
   (obtain rfl:ai=some ⟨b,o,none⟩:=by injection e);obtain⟨c1,c2,s1,-⟩:=hc k f hf
   replace c1:=aC HW.out.below c1
   replace c2:=aC HW.out.below c2
   obtain⟨-,-,-,-,g4⟩:=(HW.out.later (aA wr (pJ f.name f.text))).gcells;have NN:=HW.out.below.size;have U6:=HW.out.mi.lt;obtain⟨w4,tW,hm4,VK⟩:=(HW.out.mi.alloc (pJ f.name f.text)).store Tryz.underlying99 aAY (x:=f.name) (Nat.le_trans s1 gO) (y:=true) trivial;have hrun':(Instr.mapUpdate 99 (.map (some (w.heap.size+1+1+1))) (.string f.name) (.bool true)).run Tryz.prog (wr.alloc (pJ f.name f.text))=.ok () w4:=tW;have tN:=zh ((HW.out.later (aA wr (pJ f.name f.text))).setI VK (hm4.ext (fun z=>@iMap_snoc _ _ _ hf z (Classical.propDecidable _))));clear tW hm4 VK hc e hf s1 U6;exact aAI
  obtain rfl:k=r.inputs.length:=aAM;rw[List.take_length] at HW;obtain⟨r0,r1,r2⟩:=HW.out.rcells;go_wp2_with fail;clear r0 r1 r2;go_loopw [45] (fun i wr=>∃k:Nat,k<=L.length/\i=.int .i64 k/\Hid (kP (.slice ai r.inputs.length ci) (.slice av L.length cv) r.output w k r.inputs.length (lP (r.steps.take k)) (iMap r.inputs) wr)/\Hid (twice r=lY r k (L.length-k))) (fun i _=>L.length-(intOf i).toNat)
  case atStart=>exact⟨0,Nat.zero_le _,rfl,HW,zh (by unfold twice;rw[vB.out];rfl)⟩
  case round=>
   clear HW;obtain⟨k,hk,rfl,HW,HT⟩:=hrel;(rename World=>wr);by_cases sE:k<L.length
   ·obtain⟨y,hy,CE⟩:=getElem?_of_lt sE;rcases CU.out.cases with⟨e,-⟩|⟨b,o,c,e,-,-,-,-,hc⟩
    ·exact aAy
    (obtain⟨rfl,rfl⟩:av=some ⟨b,o,none⟩/\c=cv:=by injection e with e1 e2 e3;exact⟨e1,e3.symm⟩);obtain⟨c1,c2,c3,c4,hsr,ho⟩:=hc k y hy
    replace c1:=aC HW.out.below c1
    replace c2:=aC HW.out.below c2
    replace c3:=aC HW.out.below c3
    replace c4:=aC HW.out.below c4
    have PF:r.steps[k]? =some y.2:=by rw[<-HL.out,List.getElem?_map,hy];rfl
    replace HT:=zh (HT.out.trans (twiceFrom_at sE PF))
    have EI:=zh (known_any (.slice ai r.inputs.length ci) (.slice (some ⟨b,o,none⟩) L.length c) r.output y.2.out (w.heap.size+1+1) (w.heap.size+1+1+1) k r.inputs.length _ _ _ (HW.out.later (aA wr (oBx26 y.2.kind y.1 y.2.out y.2.sorted))).mw (HW.out.later (aA wr (oBx26 y.2.kind y.1 y.2.out y.2.sorted))).mi ho);rw[show((lP (r.steps.take k) y.2.out).isSome||(iMap r.inputs y.2.out).getD false)=oL r k y.2.out by rw[wMap_isSome,iMap_getD];rfl] at EI;have HSk:=zh PF;obtain⟨v,kind,src,yo,sorted⟩:=y;simp only at c1 c2 c3 c4 ho hsr HT EI HSk;obtain⟨sa,cs,KA⟩:=bW hsr;subst KA;have HO:=zh ho
    replace HW:=zh (HW.out.later (aA wr (oBx24 kind sa src.length cs yo sorted)))
    obtain⟨g0,g1,g2,g3,g4⟩:=HW.out.gcells;have NN:=HW.out.below.size;have U6:=HW.out.mi.lt;clear hc e hy CE PF hsr ho
    cases C8:oL r k yo with
    |true=>
     rw[C8] at EI HT;have HE:=zh (inspectE_twice H1.out HT.out);go_wp2_with fail;refine EI.out.mono ?_;rintro e w5 ⟨rfl,hb⟩
     replace HW:=zh (HW.out.later hb)
     clear g0 g1 g2 g3 g4 hb C8;exact YR
    |false=>
     rw[C8] at EI HT
     have HWn:=zh (show aK (r.steps.take k) yo=none by
      unfold oL at C8;rw[Bool.or_eq_false_iff] at C8
      simpa using C8.1)
     go_wp2_with fail;refine EI.out.mono ?_;rintro e w5 ⟨rfl,hb⟩;have NO:=aD hb (aH wr (oBx24 kind sa src.length cs yo sorted));obtain⟨-,-,x2,-⟩:=box4' NO
     replace HW:=zh (HW.out.later hb)
     clear g0 g1 g2 g3 g4 hb C8 NO EI;obtain⟨-,-,-,g3,-⟩:=HW.out.gcells;obtain⟨w6,tW,TA,hg6⟩:=HW.out.mw.store Tryz.underlying98 aAY (x:=yo) (Nat.le_trans HO.out gO) (y:=(k:Int)) (nat_wf aAM);have hrun':(Instr.mapUpdate 98 (.map (some (w.heap.size+1+1))) (.string yo) (.int .i64 (k:Int))).run Tryz.prog w5=.ok () w6:=tW;have tN:=zh (HW.out.setW hg6 (TA.ext (fun z=>@wMap_snoc _ _ _ HSk.out HWn.out z (Classical.propDecidable _))));clear tW TA hg6;go_wp2_with fail;go_roundw;(case rel=>exact⟨k+1,aAM,aAV,tN,zh HT.out⟩);case measure=>simp[intOf];omega
   obtain rfl:k=L.length:=aAM
   replace HT:=zh (show twice r=false by rw[HT.out,Nat.sub_self];rfl)
   (have vO:r.steps.take L.length=r.steps:=by rw[<-vB.out,List.take_length]);rw[vO] at HW;clear vO;obtain⟨r0,r1,r2⟩:=HW.out.rcells;by_cases DG:60<r.inputs.length+L.length
   ·have HE:=zh (inspectE_full H1.out HT.out (by rw[vB.out];exact DG));exact YR
   have H60:=zh (show ¬60<r.inputs.length+r.steps.length by rw[vB.out];exact DG);have HFN:=zh (aA wr (.cells #[.func (.func 93) #[] #[.pointer (some ⟨w.heap.size+1+1+1+1,0,none⟩)]] 92));have HIp:=zh (show Insp (.slice ai r.inputs.length ci) (.slice av L.length cv) r.output (w.heap.size+1+1+1+1) wr.heap.size (w.heap.size+1+1) (w.heap.size+1+1+1) L.length r.inputs.length (lP r.steps) (iMap r.inputs) _ from⟨(HW.out.later HFN.out).bg,aH wr _,(HW.out.later HFN.out).mw,(HW.out.later HFN.out).mi⟩);have NN:w.heap.size+1+1+1+1<wr.heap.size:=(Array.getElem?_eq_some_iff.1 HW.out.bg).1
   replace HW:=zh (HW.out.later HFN.out)
   obtain⟨s0,s1,s2⟩:=HW.out.rcells;have HU:=zh (inspect2_any (.slice ai r.inputs.length ci) (.slice av L.length cv) r.output r.output (w.heap.size+1+1+1+1) (w.heap.size+1+1) (w.heap.size+1+1+1) L.length r.inputs.length (lP r.steps) (iMap r.inputs) _ HIp.out.box HIp.out.wr HIp.out.inp hout);(have hkr:∀x,((lP r.steps x).isSome||(iMap r.inputs x).getD false)=known r x:=fun x=>by rw[wMap_isSome,iMap_getD];rfl);rw[hkr] at HU;have HKr:=zh hkr;clear hkr;have eg:=enters_inspect2
   cases C8:known r r.output with
   |false=>
    rw[C8] at HU;have HE:=zh (inspectE_none H1.out HT.out H60.out (by rw[C8];rfl));clear C8;go_wp2_with(go_at_fn 93;(with_reducible refine HU.out.mono ?_);rintro e w5 ⟨rfl,hb⟩;replace HW:=zh (HW.out.later hb);obtain⟨g0,g1,g2,g3,g4⟩:=HW.out.gcells;obtain⟨⟨z0,z1,z2,z3,z4⟩,f0,f1,f2,f3,f4⟩:=HW.out.zcells;clear hb r0 r1 r2 s0 s1 s2);exact HW.out.ret rfl rfl rfl HE.out (fun h=>absurd h aAO)
   |true=>
    rw[C8] at HU;have EI:=zh C8;clear C8
    have SK:Hid (∀W,Below (wr.alloc (.cells #[.func (.func 93) #[] #[.pointer (some ⟨w.heap.size+1+1+1+1,0,none⟩)]] 92)).heap.size (wr.alloc (.cells #[.func (.func 93) #[] #[.pointer (some ⟨w.heap.size+1+1+1+1,0,none⟩)]] 92)) W->Below w.heap.size w W->
      Calls Tryz.prog 90 #[.slice av L.length cv,.func (.func 94) #[] #[.pointer (some ⟨wr.heap.size,0,none⟩)]] W fun e w'=>e=.returned (.bool (r.steps.any fun s=>s.src.any fun x=> !known r x))/\Below W.heap.size W w'):=
     zh fun W hb TT=>by
      have hc:=nL 94 #[.pointer (some ⟨wr.heap.size,0,none⟩)] (fun y=>y.2.src.any fun x=> !((lP r.steps x).isSome||(iMap r.inputs x).getD false)) L (.slice av L.length cv) W (CU.out.later TT) enters_inspect3
       (fun y hy W' tO=>inspect3_any y _ _ _ _ _ _ _ _ _ _ _ W' ((HIp.out.later hb).later tO) ((CU.out.src hy).1.later (aB TT tO)))
      have e:(L.any fun y=>y.2.src.any fun x=> !((lP r.steps x).isSome||(iMap r.inputs x).getD false))=r.steps.any fun s=>s.src.any fun x=> !known r x:=by
       rw[<-HL.out,List.any_map];congr 1;funext y;show _=y.2.src.any _;congr 1;funext x;rw[HL.out,HKr.out]
      rw[e] at hc;exact hc
    go_wp2_with(go_at_fn 93;(with_reducible refine HU.out.mono ?_);rintro e w5 ⟨rfl,hb⟩;replace HW:=zh (HW.out.later hb);have EW:=zh hb;clear hb r0 r1 r2 s0 s1 s2;obtain⟨r0,r1,r2⟩:=HW.out.rcells);have DN:=zh (SK.out w5 EW.out HW.out.below)
    cases hun:(r.steps.any fun s=>s.src.any fun x=> !known r x) with
    |true=>
     rw[hun] at DN;have HE:=zh (inspectE_none H1.out HT.out H60.out (by rw[hun,Bool.or_true]));clear hun;refine DN.out.mono ?_;rintro e w6 ⟨rfl,hb⟩
     replace HW:=zh (HW.out.later hb)
     clear hb r0 r1 r2;exact YR
    |false=>
     rw[hun] at DN;have HE:=zh (inspectE_last H1.out HT.out H60.out (by rw[hun,EI.out];rfl));clear hun;refine DN.out.mono ?_;rintro e w6 ⟨rfl,hb⟩
     replace HW:=zh (HW.out.later hb)
     clear hb r0 r1 r2;obtain⟨g0,g1,g2,g3,g4⟩:=HW.out.gcells
     have HCi:=zh (circle_any L (.slice ai r.inputs.length ci) (.slice av L.length cv) r.output (w.heap.size+1+1) (w.heap.size+1+1+1) L.length w6 (CU.out.later HW.out.below) (by rw[HL.out];exact HW.out.mw) h2
      (fun y hy=>by
       have h3:=H3.out;rw[List.any_eq_false] at h3;have:=h3 y hy;have hr:aM y.2=true:=aBY;have:=(dI hr).2.2.1
       omega))
     rw[HL.out] at HCi
     cases hci:lC r.steps with
     |true=>
      rw[hci] at HCi HE;clear hci;go_wp2_with fail;refine HCi.out.mono ?_;rintro e w7 ⟨rfl,hb⟩
      replace HW:=zh (HW.out.later hb)
      clear hb g0 g1 g2 g3 g4;exact YR
     |false=>
      rw[hci] at HCi HE;clear hci;go_wp2_with fail;refine HCi.out.mono ?_;rintro e w7 ⟨rfl,hb⟩
      replace HW:=zh (HW.out.later hb)
      clear hb g0 g1 g2 g3 g4;obtain⟨g0,g1,g2,g3,g4⟩:=HW.out.gcells;obtain⟨⟨z0,z1,z2,z3,z4⟩,f0,f1,f2,f3,f4⟩:=HW.out.zcells;go_wp2_with fail;exact HW.out.ret rfl rfl rfl HE.out (fun _=>⟨rfl,rfl⟩)
theorem inspect_any(r:Rcp)(L:List (Value×Stp))(vi vs:Value)(w:World)(xR:jZ w vi r.inputs)(vO:pZ w vs L)(hL:L.map (·.2)=r.steps)(hout:r.output.size<=140737488355328):
  Calls Tryz.prog 63 #[jD vi vs r.output] w (InspPost vi vs r.output r w):=by
 by_cases h:aT r.inputs=false\/60<L.length\/(L.any fun y=> !aM y.2)=true
 ·exact inspect_arg r L vi vs w xR vO hL h
 refine inspect_good r L vi vs w xR vO hL hout ?_ ?_ ?_
 ·cases hh:aT r.inputs with
  |true=>rfl
  |false=>exact absurd (.inl hh) h
 ·have:¬60<L.length:=fun hh=>h (.inr (.inl hh));omega
 cases hh:(L.any fun y=> !aM y.2) with
 |false=>rfl
 |true=>exact absurd (.inr (.inr hh)) h
theorem ZY{p:Prop}(h:p:=by
 go_wp2_with fail;refine HI.out.mono ?_;rintro e w2 ⟨rfl,hb,-⟩;generalize aP r=q at h0 h1;have HB:=zh hb;clear hb;go_wp2_with fail;go_ret
 exact⟨rfl,aB (aB (aA _ _) HB.out) (aA _ _)⟩):p:=h
structure dR (r:Rcp) (L:List (Value×Stp)) (vi vs:Value) (w:World):Prop where
 inp:jZ w vi r.inputs
 stp:pZ w vs L
 map:L.map (·.2)=r.steps
 out:r.output.size<=140737488355328
section
variable {r:Rcp} {L:List (Value×Stp)} {vi vs:Value} {w w':World}
theorem dR.later(h:dR r L vi vs w)(hb:Below w.heap.size w w'):dR r L vi vs w':=⟨h.inp.later hb,h.stp.later hb,h.map,h.out⟩
theorem dR.slices(h:dR r L vi vs w):∃ai ci av cv,vi=.slice ai r.inputs.length ci/\vs=.slice av L.length cv:=by
 obtain⟨ai,ci,SW,-⟩:=h.inp;obtain⟨av,cv,QJ⟩:=stps_slice h.stp;exact⟨ai,ci,av,cv,SW,QJ⟩
theorem dR.len(h:dR r L vi vs w):r.steps.length=L.length:=by rw[<-h.map];simp
theorem dR.inspect(h:dR r L vi vs w):Calls Tryz.prog 63 #[jD vi vs r.output] w (InspPost vi vs r.output r w):=inspect_any r L vi vs w h.inp h.stp h.map h.out
end
theorem rH(r:Rcp)(L:List (Value×Stp))(vi vs:Value)(w:World)(h:dR r L vi vs w):
  Calls Tryz.prog 35 #[jD vi vs r.output] w fun e w'=>e=.returned (.int .i64 (aP r))/\Below w.heap.size w w':=by
 have HI:=zh (h.later (aA w (aY vi vs r.output))).inspect;obtain⟨ai,ci,av,cv,rfl,rfl⟩:=h.slices;clear h;go_enter Tryz.func35,Tryz.ntmps35;go_wp2_with fail;refine HI.out.mono ?_;rintro e w2 ⟨rfl,hb,-⟩;have HB:=zh hb;clear hb;go_wp2_with fail;go_ret;exact⟨rfl,aB (aB (aA _ _) HB.out) (aA _ _)⟩
theorem order_bad(r:Rcp)(L:List (Value×Stp))(vi vs:Value)(w:World)(h:dR r L vi vs w)(he:aP r≠0):
  Calls Tryz.prog 33 #[jD vi vs r.output] w fun e w'=>e=.returned (.slice none 0 0)/\Below w.heap.size w w':=by
 have HI:=zh (h.later (aA w (aY vi vs r.output))).inspect;obtain⟨ai,ci,av,cv,rfl,rfl⟩:=h.slices;have h0:(aP r==0)=false:=beq_eq_false_iff_ne.2 he;have h1:(aP r != 0)=true:=aB3;clear h he;go_enter Tryz.func33,Tryz.ntmps33;exact ZY
end Go.Proofs.YtacgopankhpnbaaGreatDoor
namespace Go.Proofs.YtacgopankhpnbaaGreatDoor
open Go.RowKit
structure Grf (r:Rcp) (L:List (Value×Stp)) (vi vs:Value) (bw bi:Nat) (w:World):Prop where
 rcp:dR r L vi vs w
 wr:∃nw,aX eQ vInt w bw nw (lP r.steps)
 few:L.length<=60
 src:∀y,y∈L->y.2.src.length<=1000000
section
variable {r:Rcp} {L:List (Value×Stp)} {vi vs:Value} {bw bi:Nat} {w w':World}
theorem Grf.later(h:Grf r L vi vs bw bi w)(hb:Below w.heap.size w w'):Grf r L vi vs bw bi w':=by
 obtain⟨nw,hw⟩:=h.wr;exact⟨h.rcp.later hb,⟨nw,hw.later hb⟩,h.few,h.src⟩
theorem Grf.needs(h:Grf r L vi vs bw bi w){i:Nat}(hi:i<L.length):Calls Tryz.prog 67 #[grfV vi vs r.output bw bi,.int .i64 i] w (gI (bL r.steps i) w):=by
 obtain⟨nw,hw⟩:=h.wr;obtain⟨y,hy,CE⟩:=getElem?_of_lt hi;have e:bL r.steps i=fD r.steps y.2:=by rw[<-h.rcp.map];exact needsAt_of hy
 rw[e];exact needs_any r.steps vi vs r.output bw bi nw L i y w h.rcp.stp hy hw (h.src y CE)
end
def DoneIs(w:World)(b:Nat)(done:Nat->Bool):Prop:=∃n m,aX kInt dS w b n m/\n<=1000/\∀i:Nat,(m i).getD false=done i
theorem DoneIs.later{w w':World}{b:Nat}{done:Nat->Bool}(h:DoneIs w b done)(hb:Below w.heap.size w w'):DoneIs w' b done:=by
 obtain⟨n,m,h1,h2,h3⟩:=h;exact⟨n,m,h1.later hb,h2,h3⟩
theorem DoneIs.look{w:World}{b:Nat}{done:Nat->Bool}(h:DoneIs w b done){i:Nat}(hi:i<9223372036854775808):(Instr.lookup 104 (.map (some b)) (.int .i64 i) false).run Tryz.prog w=.ok (.bool (done i)) w:=by
 obtain⟨n,m,h1,-,h3⟩:=h;have:=h1.look Tryz.underlying104 (x:=(i:Int)) (nat_wf hi);rw[show(m i).getD dS.zero=done i from h3 i] at this;exact this
theorem ready1_any(k p b:Nat)(done:Nat->Bool)(w:World)(hp:w.cell? ⟨p,0,none⟩=some (.map (some b)))(hd:DoneIs w b done)(hk:k<9223372036854775808):
  Calls Tryz.prog 96 #[.int .i64 k,.pointer (some ⟨p,0,none⟩)] w fun e w'=>e=.returned (.bool (!done k))/\w=w':=by
 have hl:=hd.look hk;generalize done k=q at hl ⊢;clear hd;go_enter Tryz.func96,Tryz.ntmps96;exact aAF
theorem enters_ready1:∀args w,(callFunc 96 args).run Tryz.prog w=.ok (.enter 96 args) w:=enters_of Tryz.func96 aAN rfl
theorem anyV_unit(p:Nat->Bool):∀l:List Nat,lS (fun(s:Unit)k=>(s,p k)) () l=((),l.any p)
 |[]=>rfl
 |k::r=>by
  rw[lS]
  cases h:p k with
  |true=>simp[h]
  |false=>rw[if_neg aAQ,anyV_unit p r];simp[h]
theorem pU(g:FuncId)(cap:Array Value)(p:Nat->Bool)(l:List Nat)(v:Value)(w:World)(hI:hJ w v (aU l))(eg:∀args w,(callFunc g args).run Tryz.prog w=.ok (.enter g args) w)
  (hp:∀x,x∈l->∀W,Below w.heap.size w W->Calls Tryz.prog g (#[.int .i64 (x:Int)]++cap) W fun e W'=>e=.returned (.bool (p x))/\Below W.heap.size W W'):
  Calls Tryz.prog 61 #[v,.func (.func g) #[] cap] w fun e w'=>e=.returned (.bool (l.any p))/\Below w.heap.size w w':=by
 refine(rV g cap (fun(s:Unit)k=>(s,p k)) l v (fun W _=>Below w.heap.size w W) w () (Below.refl _ _) ⟨fun W _ hb=>hI.later hb,eg,fun x hx W s hb=>?_⟩).mono ?_
 ·refine(hp x hx W hb).mono ?_;rintro e W' ⟨rfl,h⟩;exact⟨rfl,aB hb h⟩
 rw[anyV_unit];rintro e W' ⟨rfl,h⟩;exact⟨rfl,h⟩
end Go.Proofs.YtacgopankhpnbaaGreatDoor
namespace Go.Proofs.YtacgopankhpnbaaGreatDoor
open Go.RowKit
structure Gath (W0:World) (l:List Nat) (v:Value) (wr:World):Prop where
 own:wr.ownsRow W0.heap.size 3 1 v l.length ((aU l).map (Value.int .i64))
 below:Below W0.heap.size W0 wr
theorem Gath.first(W0:World):Gath W0 [] (.slice none 0 0) W0:=⟨by simpa using World.ownsRow_nil _ _ _ _,Below.refl _ _⟩
theorem Gath.later{W0 wr w2:World}{l:List Nat}{v:Value}(h:Gath W0 l v wr)(hb:Below wr.heap.size wr w2):Gath W0 l v w2:=
 ⟨h.own.kept (row:=none) ⟨hb.os,hb.tape,hb.output,hb.size,fun k hk _=>hb.block k hk⟩ (Classical.em _),h.below.trans (hb.mono h.below.size)⟩
theorem Gath.added{W0 wr w3:World}{l:List Nat}{v v':Value}{j:Nat}{o:Obj}(h:Gath W0 l v wr)(sB:w3.ownsRow W0.heap.size 3 1 v' (l.length+1) ((aU l).map (Value.int .i64)++[.int .i64 j]))(hg:(wr.alloc o).grownBy w3 v.ownBlock):Gath W0 (l++[j]) v' w3:=by
 have hz:wr.heap.size+1<=w3.heap.size:=aBJ;have wR:=h.below;refine⟨aBS,?_⟩;exact YT
theorem Gath.post{w W0 w':World}{l:List Nat}{v:Value}(h:Gath W0 l v w')(hw:Below w.heap.size w W0):gI l w (.returned v) w':=by
 refine⟨v,rfl,ints_of_owns (by simpa[aU] using h.own),fun a n c e=>?_,aB hw h.below⟩;subst e;have:=(h.own.lt a.block rfl).1;have:=hw.size;omega
def mP(steps:List Stp)(done:Nat->Bool)(k:Nat):List Nat:=(List.range k).filter (kD steps done)
theorem readyTo_yes{steps:List Stp}{done:Nat->Bool}{k:Nat}(h:kD steps done k=true):mP steps done (k+1)=mP steps done k++[k]:=by
 unfold mP;rw[List.range_succ,List.filter_append];simp[h]
theorem readyTo_no{steps:List Stp}{done:Nat->Bool}{k:Nat}(h:kD steps done k=false):mP steps done (k+1)=mP steps done k:=by
 unfold mP;rw[List.range_succ,List.filter_append];simp[h]
theorem readyTo_len(steps:List Stp)(done:Nat->Bool)(k:Nat):(mP steps done k).length<=k:=by
 unfold mP;have:=List.length_filter_le (kD steps done) (List.range k);simpa using this
theorem ready_any(r:Rcp)(L:List (Value×Stp))(vi vs:Value)(bw bi bd:Nat)(done:Nat->Bool)(w:World)(h:Grf r L vi vs bw bi w)(hd:DoneIs w bd done):
  Calls Tryz.prog 64 #[grfV vi vs r.output bw bi,.map (some bd)] w (gI (bK r.steps done) w):=by
 have EZ:Below w.heap.size w ((w.alloc (cD vi vs r.output bw bi)).alloc (.cells #[.map (some bd)] 104)):=aB (aA _ _) (aA _ _);have sH:=zh EZ;have HBox:=zh (aD (aA _ (.cells #[.map (some bd)] 104)) (aH w (cD vi vs r.output bw bi)))
 have xV:=zh (show((w.alloc (cD vi vs r.output bw bi)).alloc (.cells #[.map (some bd)] 104)).heap[w.heap.size+1]? =some (.cells #[.map (some bd)] 104) by
  have:=aH (w.alloc (cD vi vs r.output bw bi)) (.cells #[.map (some bd)] 104)
  simpa only[World.size_alloc] using this)
 obtain⟨i0,vA,tM,sY,sX⟩:=info_parts intInfo;obtain⟨ai,ci,av,cv,rfl,rfl⟩:=h.rcp.slices;have DG:=h.few;have hlen:=h.rcp.len;have HR:=zh (show bK r.steps done=mP r.steps done L.length by unfold bK mP;rw[hlen]);rw[HR.out];have HG:=zh h;have HD:=zh hd;clear h hd EZ hlen HR;go_enter Tryz.func64,Tryz.ntmps64;go_wp2_with fail;generalize hW:(w.alloc (cD (.slice ai r.inputs.length ci) (.slice av L.length cv) r.output bw bi)).alloc (.cells #[.map (some bd)] 104)=W0 at sH HBox xV ⊢;clear hW;go_loopw [5,11] (fun v i wr=>∃k:Nat,k<=L.length/\i=.int .i64 k/\Hid (Gath W0 (mP r.steps done k) v wr)) (fun _ i _=>L.length-(intOf i).toNat)
 case atStart=>exact⟨0,Nat.zero_le _,rfl,zh (Gath.first W0)⟩
 case round=>
  obtain⟨k,hk,rfl,HR⟩:=hrel;rename World=>wr
  rename Value=>vo
  by_cases sE:k<L.length
  ·have tP:=zh (aB sH.out HR.out.below);have hdb:=box1 (aD HR.out.below xV.out);have hl:=(HD.out.later tP.out).look (i:=k) aAM;have hrl:=readyTo_len r.steps done k;have NN:W0.heap.size<=wr.heap.size:=HR.out.below.size
   cases TR:done k with
   |true=>
    rw[TR] at hl;have HN:=zh (readyTo_no (steps:=r.steps) (show kD r.steps done k=false by unfold kD;rw[TR];rfl));clear TR;go_wp2_with fail;go_roundw;(case rel=>exact⟨k+1,aAM,aAV,zh (by rw[HN.out];exact HR.out)⟩);case measure=>simp[intOf];omega
   |false=>
    rw[TR] at hl;have UJ:=zh ((HG.out.later tP.out).needs sE);obtain⟨g0,g1,g2,g3,g4⟩:=box5 (aD HR.out.below HBox.out)
    have PW:Hid (∀v W,Below wr.heap.size wr W->hJ W v (aU (bL r.steps k))->Calls Tryz.prog 61 #[v,.func (.func 96) #[] #[.pointer (some ⟨w.heap.size+1,0,none⟩)]] W fun e w'=>e=.returned (.bool ((bL r.steps k).any fun j=> !done j))/\Below W.heap.size W w'):=
     zh fun v W hb hI=>pU 96 #[.pointer (some ⟨w.heap.size+1,0,none⟩)] (fun j=> !done j) (bL r.steps k) v W hI enters_ready1 (fun x hx W' tO=>by
      have sD:=aB hb tO;refine(ready1_any x (w.heap.size+1) bd done W' (aC sD hdb) ((HD.out.later tP.out).later sD) (by have:=pL hx;have:=HG.out.rcp.len;omega)).mono ?_;rintro e w' ⟨rfl,rfl⟩
      exact⟨rfl,Below.refl _ _⟩)
    cases hq:(bL r.steps k).any fun j=> !done j with
    |true=>
     rw[hq] at PW;have HN:=zh (readyTo_no (steps:=r.steps) (show kD r.steps done k=false by unfold kD;rw[TR,hq];rfl));clear TR hq;go_wp2_with fail;refine UJ.out.mono ?_;rintro e w2 ⟨v,rfl,hI,-,hb⟩;have BL:=zh (PW.out v w2 hb hI);have sW:=zh hb;clear hI hb;go_wp2_with fail;refine BL.out.mono ?_;rintro e w3 ⟨rfl,hb⟩;have wL:=zh hb;clear hb;go_wp2_with fail;go_roundw;(case rel=>exact⟨k+1,aAM,aAV,zh (by rw[HN.out];exact HR.out.later (aB sW.out wL.out))⟩);case measure=>simp[intOf];omega
    |false=>
     rw[hq] at PW;have HN:=zh (readyTo_yes (steps:=r.steps) (show kD r.steps done k=true by unfold kD;rw[TR,hq];rfl));clear TR hq;go_wp2_with fail;refine UJ.out.mono ?_;rintro e w2 ⟨v,rfl,hI,-,hb⟩;have BL:=zh (PW.out v w2 hb hI);have sW:=zh hb;clear hI hb;go_wp2_with fail;refine BL.out.mono ?_;rintro e w3 ⟨rfl,hb⟩;have R9:=zh (HR.out.later (aB sW.out hb));have hbz3:W0.heap.size<=w3.heap.size:=R9.out.below.size;clear hb;go_wp2_with(at_builtin;refine wpList_append_own _ rfl _ _ 26 rfl W0.heap.size 3 i0 (.int .i64 0) 1 8 Tryz.underlying26 vA tM sY sX rfl aAO _ _ _ rfl (R9.out.own.alloc _) ⟨w3.heap.size,0,none⟩ 1 1 [.int .i64 k] rfl rfl (cell_one_new _ _ _) aA1 aAY aAM aA0 ?_);intro v' w4 sB sA _;have tN:=zh (R9.out.added aBS sA);clear sB sA;go_wp2_with fail;go_roundw;(case rel=>exact⟨k+1,aAM,aAV,zh (by rw[HN.out];exact tN.out)⟩);case measure=>simp[intOf];omega
  obtain rfl:k=L.length:=aAM;go_wp2_with fail;go_ret;exact HR.out.post sH.out
theorem choose_any(l:List Nat)(next:List Int)(u:Nat)(vl vn:Value)(w:World)(hl:hJ w vl (aU l))(hn:hJ w vn next)(uD:0<l.length)(hwf:∀x,x∈next->(Lit.int .i64 x).wf=true):
  Calls Tryz.prog 65 #[vl,vn,.int .i64 u] w fun e w'=>e=.returned (.int .i64 (eZ l next u))/\w=w':=by
 rcases hl.cases with⟨e,-⟩|⟨b,o,c,rfl,-,sF,sD,-,hc⟩
 ·rw[aU,List.map_eq_nil_iff] at e;subst e;simp at uD
 rw[show(aU l).length=l.length by simp] at sF ⊢;have hk:gU (next.getD u 0) l.length<l.length:=(tmod_cases _ _ uD).2;have hT:=(tmod_cases (next.getD u 0) _ uD).1;generalize hK:gU (next.getD u 0) l.length=k at hk hT
 have tH:w.cell? ⟨b,o+k,none⟩=some (.int .i64 (eZ l next u)):=by
  have:(aU l)[k]? =some (eZ l next u:Int):=by
   unfold eZ aU;rw[List.getElem?_map,hK,List.getD_eq_getElem?_getD,List.getElem?_eq_getElem hk];rfl
  exact hc k _ this
 have HK:=zh hK;clear hK;have HC:=zh hc;clear hc hl;generalize eZ l next u=R at tH ⊢
 by_cases sE:u<next.length
 ·rcases hn.cases with⟨e,-⟩|⟨bn,on,cn,rfl,-,BE,PI,-,TS⟩
  ·subst e;simp at sE
  obtain⟨x,hx,EY⟩:=getElem?_of_lt sE;have LQ:w.cell? ⟨bn,on+u,none⟩=some (.int .i64 x):=TS u x hx;have hX:next.getD u 0=x:=by rw[List.getD_eq_getElem?_getD,hx];rfl
  rw[hX] at hT;obtain⟨G2,I8⟩:=i64_bounds (hwf x EY);have V5:(x.tmod l.length<0/\x.tmod l.length=(k:Int)-l.length)\/(0<=x.tmod l.length/\x.tmod l.length=(k:Int)):=aAM;clear hT hX TS hx EY hwf hn;rcases V5 with⟨vP,V5⟩|⟨vP,V5⟩
  all_goals
   go_enter Tryz.func65,Tryz.ntmps65;go_wp2_with fail;go_ret;exact⟨rfl,rfl⟩
 have hX:next.getD u 0=0:=by rw[List.getD_eq_getElem?_getD,List.getElem?_eq_none aAM];rfl
 rw[hX,Int.zero_tmod] at hT;obtain rfl:k=0:=aAM;rw[Nat.add_zero] at tH;obtain⟨an,cn,hvn,-⟩:=id hn;subst hvn;clear hT hX hwf hn;go_enter Tryz.func65,Tryz.ntmps65;exact aAF
def jC(w:World)(b:Nat)(done:Nat->Bool)(len:Nat):Prop:=∃n m,aX kInt dS w b n m/\n+dZ done len<=100/\∀i:Nat,(m i).getD false=done i
theorem jC.is{w:World}{b len:Nat}{done:Nat->Bool}(h:jC w b done len):DoneIs w b done:=by
 obtain⟨n,m,h1,h2,h3⟩:=h;exact⟨n,m,h1,aAM,h3⟩
theorem jC.lt{w:World}{b len:Nat}{done:Nat->Bool}(h:jC w b done len):b<w.heap.size:=by obtain⟨n,m,h1,-⟩:=h;exact h1.lt
theorem jC.isMap{w:World}{b len:Nat}{done:Nat->Bool}(h:jC w b done len):dG w b:=by obtain⟨n,m,h1,-⟩:=h;exact dG.of h1
theorem jC.later{w w':World}{b len:Nat}{done:Nat->Bool}(h:jC w b done len)(hb:Below w.heap.size w w'):jC w' b done len:=by
 obtain⟨n,m,h1,h2,h3⟩:=h;exact⟨n,m,h1.later hb,h2,h3⟩
theorem jC.of_block{w w':World}{b len:Nat}{done:Nat->Bool}(h:jC w b done len)(hb:w'.heap[b]? =w.heap[b]?):jC w' b done len:=by
 obtain⟨n,m,h1,h2,h3⟩:=h;exact⟨n,m,h1.of_block hb,h2,h3⟩
open Classical in
theorem jC.set{w:World}{b len i:Nat}{done:Nat->Bool}(h:jC w b done len)(hi:i<len)(hd:done i=false)(hl:len<=1000000):
  ∃w',(Instr.mapUpdate 104 (.map (some b)) (.int .i64 i) (.bool true)).run Tryz.prog w=.ok () w'/\jC w' b (gS done i) len/\w.grownBy w' (some b):=by
 obtain⟨n,m,h1,h2,h3⟩:=h;have hp:=gP hd len hi;obtain⟨w',tW,hm',hg⟩:=h1.store Tryz.underlying104 aAY (x:=(i:Int)) (nat_wf aAM) (y:=true) trivial;refine⟨w',tW,⟨n+1,_,hm',aAM,fun j=>?_⟩,hg⟩;by_cases hj:j=i
 ·subst hj;simp[gS]
 have:¬(j:Int)=i:=aAM;simp only[this,if_false,gS,hj];exact h3 j
theorem jC.first(w:World)(len:Nat)(h:len<=100):jC (w.alloc (.map #[] 0)) w.heap.size (fun _=>false) len:=
 ⟨0,fun _=>none,aX.made (K:=kInt) (V:=dS) w,by have:=leftN_le (fun _=>false) len;omega,fun _=>rfl⟩
structure OrdSt (steps:List Stp) (len:Nat) (wb:World) (done:Nat->Bool) (out:List Nat) (v6:Value) (wr:World):Prop where
 map:jC wr wb.heap.size done len
 own:wr.ownsRow (wb.heap.size+1) 3 1 v6 out.length ((aU out).map (Value.int .i64))
 cnt:out.length+dZ done len=len
 below:Below wb.heap.size wb wr
 left:jN steps=kT steps (dZ done len+1) done out
theorem grown_below{w wr w1:World}{b:Nat}(h:Below w.heap.size w wr)(hg:wr.grownBy w1 (some b))(hb:w.heap.size<=b):Below w.heap.size w w1:=(iJ hg).below h hb h.size
theorem own_map{wr w1:World}{bd:Nat}{v:Value}{l:List Nat}(h:wr.ownsRow (bd+1) 3 1 v l.length ((aU l).map (Value.int .i64)))(hg:wr.grownBy w1 (some bd)):w1.ownsRow (bd+1) 3 1 v l.length ((aU l).map (Value.int .i64)):=
 oJ h (iJ hg) aAM
theorem own_later{wr w1:World}{B:Nat}{v:Value}{l:List Nat}(h:wr.ownsRow B 3 1 v l.length ((aU l).map (Value.int .i64)))(hb:Below wr.heap.size wr w1):w1.ownsRow B 3 1 v l.length ((aU l).map (Value.int .i64)):=
 h.kept (row:=none) ⟨hb.os,hb.tape,hb.output,hb.size,fun k hk _=>hb.block k hk⟩ (Classical.em _)
theorem grown_block{wr w3:World}{o:Obj}{v:Value}{B j:Nat}{e:TypeId}{size n:Nat}{xs:List Value}(hg:(wr.alloc o).grownBy w3 v.ownBlock)(sB:wr.ownsRow B e size v n xs)(hj:j<wr.heap.size)(hB:j<B):w3.heap[j]? =wr.heap[j]? :=by
 rw[hg.block j aA0 (fun e=>by have:=(sB.lt j e.symm).1;omega),Below.heap_alloc _ _ _ aAM]
theorem grown_below2{w wr w3:World}{o:Obj}{v:Value}{B:Nat}{e:TypeId}{size n:Nat}{xs:List Value}(h:Below w.heap.size w wr)(hg:(wr.alloc o).grownBy w3 v.ownBlock)(sB:wr.ownsRow B e size v n xs)(hB:w.heap.size<=B):Below w.heap.size w w3:=by
 have hz:wr.heap.size+1<=w3.heap.size:=aBJ;have hs:=h.size;exact⟨hg.os.trans h.os,hg.tape.trans h.tape,hg.output.trans h.output,aAM,fun j hj=>(grown_block hg sB aAM aAM).trans (h.block j hj)⟩
theorem OrdSt.later{steps:List Stp}{len:Nat}{wb:World}{done:Nat->Bool}{out:List Nat}{v6:Value}{wr w':World}(h:OrdSt steps len wb done out v6 wr)(hb:Below wr.heap.size wr w'):OrdSt steps len wb done out v6 w':=
 ⟨h.map.later hb,own_later h.own hb,h.cnt,aB h.below hb,h.left⟩
theorem oS:∀n,dZ (fun _=>false) n=n
 |0=>rfl
 |n+1=>by rw[dZ,oS n];rfl
theorem OrdSt.first{steps:List Stp}{len:Nat}(wb:World)(hl:steps.length=len)(DG:len<=60):OrdSt steps len wb (fun _=>false) [] (.slice none 0 0) (wb.alloc (.map #[] 0)):=
 ⟨jC.first wb len aAM,by simpa using World.ownsRow_nil _ _ _ _,by rw[oS];simp,aA _ _,by rw[oS,<-hl];rfl⟩
theorem own_len{w:World}{base:Nat}{e:TypeId}{size:Nat}{v:Value}{n:Nat}{xs:List Value}(h:w.ownsRow base e size v n xs):mL v=n:=by
 rcases h.2 with⟨rfl,h0⟩|⟨g,cap,cur,rfl,_⟩
 ·exact h0.symm
 rfl
theorem OrdSt.post{steps:List Stp}{len:Nat}{wb w wr:World}{done:Nat->Bool}{out:List Nat}{v6:Value}(h:OrdSt steps len wb done out v6 wr)(hr:bK steps done=[])(hb:Below w.heap.size w wb):gI (jN steps) w (.returned v6) wr:=by
 have e:jN steps=out:=by
  rw[h.left,kT,hr]
 have hs:=hb.size;rw[e];refine⟨v6,rfl,ints_of_owns (by simpa[aU] using h.own),fun a n c e=>?_,hb.trans (h.below.mono hs)⟩;have:=owns_block h.own (Nat.le_refl _) a n c e;omega
theorem OrdSt.next{steps:List Stp}{len:Nat}{wb:World}{done:Nat->Bool}{out:List Nat}{v6 v':Value}{wr w1 w3:World}{i:Nat}{rest:List Nat}{o:Obj}(h:OrdSt steps len wb done out v6 wr)
  (hr:bK steps done=i::rest) (hm:jC w1 wb.heap.size (gS done i) len) (hg:wr.grownBy w1 (some wb.heap.size))
  (sB:w3.ownsRow (wb.heap.size+1) 3 1 v' (out.length+1) ((aU out).map (Value.int .i64)++[.int .i64 i])) (PL:(w1.alloc o).grownBy w3 v6.ownBlock) (sE:steps.length=len):OrdSt steps len wb (gS done i) (out++[i]) v' w3:=by
 obtain⟨h1,h2,-⟩:=nF (show i∈bK steps done by rw[hr];simp);have hl:=gP h2 len aAM;have E7:=own_map h.own hg;have uZ:=h.below.size;refine⟨hm.of_block (grown_block PL E7 hm.lt aAM),aBS,by have:=h.cnt;simp;omega,grown_below2 (grown_below h.below hg aAM) PL E7 aAM,?_⟩;rw[h.left,<-hl,kT,hr]
theorem order_good(r:Rcp)(L:List (Value×Stp))(vi vs:Value)(w:World)(h:dR r L vi vs w)(he:aP r=0):
  Calls Tryz.prog 33 #[jD vi vs r.output] w (gI (orderL r) w):=by
 have HI:=zh (h.later (aA w (aY vi vs r.output))).inspect;have HE:=zh (show orderL r=jN r.steps by unfold orderL;rw[if_neg (by simp[he])]);rw[HE.out];have HR:=zh (gG he);have xX:=zh h;have hlen:=h.len;have IG:L.length<=60:=by have:=HR.out.few;omega
 obtain⟨i0,vA,tM,sY,sX⟩:=info_parts intInfo;have yV:=@run_makeMap Tryz.prog;obtain⟨ai,ci,av,cv,rfl,rfl⟩:=h.slices;have H0:=zh he
 have A4:=zh (show ∀y,y∈L->y.2.src.length<=1000000 from fun y hy=>by
  have:=HR.out.steps y.2 aCd;have:=(dI this).2.2.1
  omega)
 have vB:=zh hlen;clear h he hlen HE;go_enter Tryz.func33,Tryz.ntmps33;go_wp2_with fail;refine HI.out.mono ?_;rintro e w2 ⟨rfl,hb,hm⟩;obtain⟨nw,ni,G8,U6⟩:=hm H0.out;have HB:=zh (aB (aB (aA w _) hb) (aA w2 (cD (.slice ai r.inputs.length ci) (.slice av L.length cv) r.output (w.heap.size+1+1+1) (w.heap.size+1+1+1+1))))
 have HG:=zh (show Grf r L (.slice ai r.inputs.length ci) (.slice av L.length cv) (w.heap.size+1+1+1) (w.heap.size+1+1+1+1) (w2.alloc (cD (.slice ai r.inputs.length ci) (.slice av L.length cv) r.output (w.heap.size+1+1+1) (w.heap.size+1+1+1+1))) from
  ⟨xX.out.later HB.out,⟨nw,by have:=G8.later (aA w2 (cD (.slice ai r.inputs.length ci) (.slice av L.length cv) r.output (w.heap.size+1+1+1) (w.heap.size+1+1+1+1)));simpa only[World.size_alloc] using this⟩,IG,A4.out⟩)
 have uV:=zh (aH w2 (cD (.slice ai r.inputs.length ci) (.slice av L.length cv) r.output (w.heap.size+1+1+1) (w.heap.size+1+1+1+1)));have HO:=zh (OrdSt.first (steps:=r.steps) (w2.alloc (cD (.slice ai r.inputs.length ci) (.slice av L.length cv) r.output (w.heap.size+1+1+1) (w.heap.size+1+1+1+1))) vB.out IG);have tI:(w2.alloc (cD (.slice ai r.inputs.length ci) (.slice av L.length cv) r.output (w.heap.size+1+1+1) (w.heap.size+1+1+1+1))).heap.size=w2.heap.size+1:=World.size_alloc _ _;have DH:=zh tI;rw[H0.out];clear hb hm G8 U6 HI tI;go_wp2_with fail;generalize hWb:w2.alloc (cD (.slice ai r.inputs.length ci) (.slice av L.length cv) r.output (w.heap.size+1+1+1) (w.heap.size+1+1+1+1))=wb at HB HG uV HO DH ⊢;clear hWb
 have AB:Hid (∀done W,Below wb.heap.size wb W->jC W wb.heap.size done L.length->Calls Tryz.prog 64 #[grfV (.slice ai r.inputs.length ci) (.slice av L.length cv) r.output (w.heap.size+1+1+1) (w.heap.size+1+1+1+1),.map (some (w2.heap.size+1))] W (gI (bK r.steps done) W)):=
  zh fun done W hb hd=>by
   have:=ready_any r L _ _ _ _ wb.heap.size done W (HG.out.later hb) hd.is
   rwa [DH.out] at this
 refine(AB.out (fun _=>false) _ (aA _ _) HO.out.map).mono ?_;rintro e w3 ⟨v7,rfl,hI,-,hb⟩;have HI:=zh hI;have LY:=zh (HO.out.later hb);clear hI hb HO;go_wp2_with fail;go_loopw [6,7] (fun v6 v7 wr=>∃(done:Nat->Bool)(out:List Nat),Hid (OrdSt r.steps L.length wb done out v6 wr)/\Hid (hJ wr v7 (aU (bK r.steps done)))) (fun v6 _ _=>L.length-mL v6)
 case atStart=>exact⟨_,_,LY,HI⟩
 case round=>
  clear LY HI;obtain⟨done,out,HO,HI⟩:=hrel;rename World=>wr
  generalize hv6:u6=v6 at *;generalize hv7:u7=v7 at *;clear hv6 hv7
  obtain⟨a7,c7,e7⟩:∃a c,v7=.slice a (bK r.steps done).length c:=by
   obtain⟨a,c,hv,-⟩:=HI.out;exact⟨a,c,by rw[hv];simp⟩
  subst e7
  cases hr:bK r.steps done with
  |nil=>
   have HF:=zh (HO.out.post hr HB.out);rw[hr] at HI;clear hr;go_wp2_with fail;go_ret;exact HF.out
  |cons i rest=>
   have F7:=zh hr;rw[hr] at HI;obtain⟨hi,hid,-⟩:=nF (show i∈bK r.steps done by rw[hr];simp)
   have TI:out.length<L.length:=by
    have h1:=HO.out.cnt;have h2:=leftN_pos (n:=L.length) (by rw[<-vB.out];exact hi) hid;omega
   obtain⟨w1,tW,zQ,H6⟩:=HO.out.map.set (i:=i) (by rw[<-vB.out];exact hi) hid aAM;rw[DH.out] at tW;have HM1:=zh zQ;have HG1:=zh H6;have PE:mL v6=out.length:=own_len HO.out.own;have D9:=zh PE;rcases HI.out.cases with⟨e,-⟩|⟨b,o,c,e,-,-,-,-,hc⟩
   ·simp at e
   obtain⟨rfl,rfl⟩:a7=some ⟨b,o,none⟩/\c7=c:=by
    simp only[aU,List.map_cons,List.length_cons,List.length_map] at e;injection e with e1 e2 e3;exact⟨e1,e3⟩
   have c0:wr.cell? ⟨b,o,none⟩=some (.int .i64 i):=hc 0 _ rfl;have c1:w1.cell? ⟨b,o,none⟩=some (.int .i64 i):=HO.out.map.isMap.cell (iJ H6) c0;have E7:=own_map HO.out.own H6;have HOwn1:=zh E7;have TT:wb.heap.size<w1.heap.size:=zQ.lt;clear hr hi hid zQ H6 PE hc e E7;go_wp2_with(at_builtin;refine wpList_append_own _ rfl _ _ 26 rfl (wb.heap.size+1) 3 i0 (.int .i64 0) 1 8 Tryz.underlying26 vA tM sY sX rfl aAO _ _ _ rfl (HOwn1.out.alloc _) ⟨w1.heap.size,0,none⟩ 1 1 [.int .i64 i] rfl rfl (cell_one_new _ _ _) aA1 aAY aAM aA0 ?_);intro v' w3 sB sA _;have HN:=zh (HO.out.next F7.out HM1.out HG1.out aBS sA vB.out);have hsl3:mL v'=out.length+1:=own_len sB;have RZ:=zh hsl3;obtain⟨g0,g1,g2,g3,g4⟩:=box5 (aD HN.out.below uV.out);have DN:=zh (AB.out (gS done i) w3 HN.out.below HN.out.map);clear sB sA hsl3;go_wp2_with fail;refine DN.out.mono ?_;rintro e w4 ⟨v8,rfl,hI,-,hb⟩;have HI4:=zh hI;have HN4:=zh (HN.out.later hb);clear hI hb g0 g1 g2 g3 g4;go_wp2_with fail;go_roundw;(case rel=>exact⟨_,_,HN4,HI4⟩);case measure=>rw[RZ.out,D9.out];omega
theorem Z5{p:Prop}(h:p:=by
 have:=congrArg (fun t:List Value=>t[k]?) r4;rw[List.getElem?_take,if_pos hk,hu] at this;have h2:cur[k]? =some u:=aBY
 simp[World.cell?,yY,h2]):p:=h
theorem Z8{p:Prop}(h:p:=by
 intro a n c e;rcases h.cases with⟨h0,-⟩|⟨b,o,c',hv,-,-,-,hb,-⟩
 ·exact absurd h0 sC
 rw[hv] at e;injection e with e1;cases e1;exact hb):p:=h
def encDn(w:World)(y:Value×Dn)(cs:List Value):Prop:=cs=[.int .i64 y.2.step,y.1,.string y.2.out]/\Strs w y.1 y.2.saw/\y.2.out.size<=140737488355328
def Dns(w:World)(v:Value)(l:List (Value×Dn)):Prop:=Row 3 encDn w v l
theorem Dns.later{w w':World}{v:Value}{l:List (Value×Dn)}(hb:Below w.heap.size w w')(h:Dns w v l):Dns w' v l:=
 Row.later hb (fun _ _ h=>⟨h.1,h.2.1.later hb,h.2.2⟩) h
theorem Dns.cases{w:World}{v:Value}{l:List (Value×Dn)}(h:Dns w v l):
  (l=[]/\∃a c,v=.slice a 0 c)\/(∃b o c,v=.slice (some ⟨b,o,none⟩) l.length c/\0<l.length/\l.length<=c/\c<=9223372036854775807/\b<w.heap.size/\
   ∀i y,l[i]? =some y->w.cell? ⟨b,o+i*3,none⟩=some (.int .i64 y.2.step)/\w.cell? ⟨b,o+i*3+1,none⟩=some y.1/\w.cell? ⟨b,o+i*3+2,none⟩=some (.string y.2.out)/\Strs w y.1 y.2.saw/\y.2.out.size<=140737488355328):=by
 rcases Row.cases h with h|⟨b,o,c,hv,h0,h1,h2,hb,hc⟩
 ·exact .inl h
 refine .inr ⟨b,o,c,hv,h0,h1,h2,hb,fun i y hy=>?_⟩;obtain⟨cs,⟨e,hs,hz⟩,-,hj⟩:=hc i y hy;subst e;exact⟨hj 0 _ rfl,hj 1 _ rfl,hj 2 _ rfl,hs,hz⟩
theorem fB{w:World}{v:Value}{l:List (Value×Dn)}(h:Dns w v l):∃a c,v=.slice a l.length c:=by
 exact aAH
def bN(l:List (Value×Dn)):List Value:=l.flatMap fun y=>[.int .i64 y.2.step,y.1,.string y.2.out]
theorem dnCells_snoc(l:List (Value×Dn))(y:Value×Dn):bN l++[.int .i64 y.2.step,y.1,.string y.2.out]=bN (l++[y]):=by simp[bN]
theorem pT:∀(l:List (Value×Dn))(i:Nat)(y:Value×Dn),l[i]? =some y->(bN l)[i*3]? =some (.int .i64 y.2.step)/\(bN l)[i*3+1]? =some y.1/\(bN l)[i*3+2]? =some (.string y.2.out)
 |[],i,y,h=>aBF
 |x::l,0,y,h=>by simp at h;subst h;exact⟨rfl,rfl,rfl⟩
 |x::l,i+1,y,h=>by
  have:=pT l i y aBn;rw[show bN (x::l)=[.int .i64 x.2.step,x.1,.string x.2.out]++bN l from rfl,show(i+1)*3=i*3+1+1+1 by omega];exact this
theorem dns_of_owns{w:World}{base:Nat}{e:TypeId}{v:Value}{l:List (Value×Dn)}(h:w.ownsRow base e 3 v l.length (bN l))(hz:∀y,y∈l->Strs w y.1 y.2.saw/\y.2.out.size<=140737488355328):Dns w v l:=by
 rcases h.2 with⟨rfl,h0⟩|⟨g,cap,cur,rfl,hg,yY,r1,r2,r3,r4⟩
 ·exact Y7
 refine⟨_,cap,rfl,r1,r2,fun _=>⟨g,0,rfl,fun i y hy=>⟨_,⟨rfl,hz y (List.mem_of_getElem? hy)⟩,rfl,fun j u hu=>?_⟩⟩⟩;have hi:=(Yb.1 hy).1;obtain⟨d0,d1,d2⟩:=pT l i y hy
 have get:∀k u,k<l.length*3->(bN l)[k]? =some u->w.cell? ⟨g,0+k,none⟩=some u:=fun k u hk hu=>by
  exact Z5
 match j,hu with
 |0,hu=>cases hu;exact get _ _ aAM d0
 |1,hu=>cases hu;rw[Nat.add_assoc];exact get _ _ aAM d1
 |2,hu=>cases hu;rw[Nat.add_assoc];exact get _ _ aAM d2
theorem Row.apart{α:Type}{k:Nat}{enc:World->α->List Value->Prop}{w w':World}{v:Value}{l:List α}(he:∀x cs,enc w x cs->enc w' x cs)(h:Row k enc w v l)
  (hb:∀a n c,v=.slice (some a) n c->l≠[]->w'.heap[a.block]? =w.heap[a.block]?):Row k enc w' v l:=by
 obtain⟨a,c,hv,h1,h2,h3⟩:=h;refine⟨a,c,hv,h1,h2,fun sC=>?_⟩;obtain⟨b,o,ha,hc⟩:=h3 sC;have hh:w'.heap[b]? =w.heap[b]? :=hb ⟨b,o,none⟩ _ _ (by rw[hv,ha]) sC;refine⟨b,o,ha,fun i x hx=>?_⟩;obtain⟨cs,e,hl,hj⟩:=hc i x hx;exact⟨cs,he x cs e,hl,fun j u hu=>(World.cell?_of_block (w:=w) (a:=⟨b,o+i*k+j,none⟩) hh).trans (hj j u hu)⟩
theorem jZ.apart{w w':World}{v:Value}{l:List Fil}(h:jZ w v l)(hb:∀a n c,v=.slice (some a) n c->l≠[]->w'.heap[a.block]? =w.heap[a.block]?):jZ w' v l:=Row.apart (w:=w) (fun _ _ h=>h) h hb
theorem Strs.apart{w w':World}{v:Value}{l:List bA}(h:Strs w v l)(hb:∀a n c,v=.slice (some a) n c->l≠[]->w'.heap[a.block]? =w.heap[a.block]?):Strs w' v l:=Row.apart (w:=w) (fun _ _ h=>h) h hb
theorem dnInfo:(Tryz.prog.info? 59).map (fun i=>(i.zero,i.size,i.bytes))=some (some (oBx34 0 none 0 0 ByteArray.empty),3,48):=aAN
theorem doStep_used{C:bA->Int×bA}{s:Stp}{files:List Fil}{clock order:List Int}{u0 u1 a b:Int}{text:bA}{saw:List bA}(h:cH C s files clock order u0 u1=.ok (text,saw,a,b)):
  aM s=true/\aI files s.out=none/\text.size<=65536/\(a=u0\/a=u0+1)/\(b=u1\/b=u1+s.src.length):=by
 unfold cH at h;split at h
 ·cases h
 rename_i h1;split at h
 ·cases h
 rename_i h2;split at h
 ·cases h
 split at h
 ·cases h
 rename_i saw0 hs
 have hr:aM s=true:=by
  cases hh:aM s with
  |true=>rfl
  |false=>rw[hh] at h1;simp at h1
 have hf:aI files s.out=none:=by simpa using h2
 split at h
 ·split at h
  ·cases h
  split at h
  ·cases h
  cases h;exact⟨hr,hf,aAM,.inl rfl,.inl rfl⟩
 split at h
 ·cases h
 rename_i tC;injection h with h
 refine⟨hr,hf,?_⟩;unfold bE at h tC;split at h
 ·rename_i hk;rw[if_pos hk] at tC;cases h;exact⟨aDd,.inl rfl,.inl rfl⟩
 rename_i hk;rw[if_neg hk] at tC;split at h
 ·rename_i CG;rw[if_pos CG] at tC;cases h;exact⟨aDd,.inl rfl,.inl rfl⟩
 rename_i CG;rw[if_neg CG] at tC;split at h
 ·rename_i C9;rw[if_pos C9] at tC;cases h;exact⟨aDd,.inr rfl,.inl rfl⟩
 rename_i C9;rw[if_neg C9] at tC;split at h
 ·rename_i hk4;rw[if_pos hk4] at tC;cases h;exact⟨aDd,.inl rfl,.inl rfl⟩
 rename_i hk4;rw[if_neg hk4] at tC;cases h;exact⟨aDd,.inl rfl,.inr rfl⟩
theorem find_doFiles{s:Stp}{files:List Fil}{text:bA}(h:aI files s.out=none):aI (eY s files text) s.out=some text:=by
 unfold aI at h ⊢;unfold eY;rw[Option.map_eq_none_iff] at h;rw[List.find?_append,h];simp
def Clear(v:Value)(ub:Nat)(yO:Value):Prop:=∀a n c,v=.slice (some a) n c->a.block≠ub/\a.block≠ub+1/\yO.ownBlock≠some a.block
structure RunW (len:Nat) (wb:World) (done:Nat->Bool) (out:List (Value×Dn)) (files:List Fil) (u0 u1:Int) (v9 yO:Value) (wr:World):Prop where
 used:wr.heap[wb.heap.size]? =some (oBx22 u0 u1)
 map:jC wr (wb.heap.size+1) done len
 own:wr.ownsRow (wb.heap.size+1+1) 59 3 yO out.length (bN out)
 fils:jZ wr v9 files
 fclr:files≠[]->Clear v9 wb.heap.size yO
 flt:files≠[]->∀a n c,v9=.slice (some a) n c->a.block<wr.heap.size
 saws:∀y,y∈out->Strs wr y.1 y.2.saw/\(y.2.saw≠[]->Clear y.1 wb.heap.size yO/\∀a n c,y.1=.slice (some a) n c->a.block<wr.heap.size)/\y.2.out.size<=140737488355328
 below:Below wb.heap.size wb wr
theorem strs_lt{w:World}{v:Value}{l:List bA}(h:Strs w v l)(sC:l≠[]):∀a n c,v=.slice (some a) n c->a.block<w.heap.size:=by
 exact Z8
theorem fils_lt{w:World}{v:Value}{l:List Fil}(h:jZ w v l)(sC:l≠[]):∀a n c,v=.slice (some a) n c->a.block<w.heap.size:=by
 exact Z8
theorem clear_of_far{wr:World}{v yO:Value}{wb:World}{e:TypeId}{size n:Nat}{xs:List Value}(h:FarFrom wr v)(sE:wb.heap.size+1<wr.heap.size)(sB:wr.ownsRow (wb.heap.size+1+1) e size yO n xs):Clear v wb.heap.size yO:=by
 intro a m c ha;have h1:=h a m c ha;refine⟨aAM,aAM,fun h2=>?_⟩;have:=(sB.lt _ h2).2;omega
section
variable {len:Nat} {wb:World} {done:Nat->Bool} {out:List (Value×Dn)} {files:List Fil} {u0 u1:Int} {v9 yO:Value} {wr:World}
theorem RunW.later{w':World}(h:RunW len wb done out files u0 u1 v9 yO wr)(hb:Below wr.heap.size wr w'):RunW len wb done out files u0 u1 v9 yO w':=by
 have hs:=hb.size
 exact⟨aD hb h.used,h.map.later hb,h.own.kept (row:=none) ⟨hb.os,hb.tape,hb.output,hb.size,fun k hk _=>hb.block k hk⟩ (Classical.em _),h.fils.later hb,h.fclr,
  fun sC a n c e=>Nat.lt_of_lt_of_le (h.flt sC a n c e) hs,
  fun y hy=>⟨(h.saws y hy).1.later hb,fun sC=>⟨((h.saws y hy).2.1 sC).1,fun a n c e=>Nat.lt_of_lt_of_le (((h.saws y hy).2.1 sC).2 a n c e) hs⟩,(h.saws y hy).2.2⟩,aB h.below hb⟩
theorem RunW.did{w4 w5:World}{files':List Fil}{vfl vsaw:Value}{saw:List bA}{a b:Int}(h:RunW len wb done out files u0 u1 v9 yO wr)(hb:Below wr.heap.size wr w4)(hF:jZ w4 vfl files')(LO:FarFrom wr vfl)(hS:Strs w4 vsaw saw)(QO:saw≠[]->FarFrom wr vsaw)
  (ho:bS wb.heap.size w4 w5) (hu:w5.heap[wb.heap.size]? =some (oBx22 a b)):
  RunW len wb done out files' a b vfl yO w5/\Strs w5 vsaw saw/\(saw≠[]->Clear vsaw wb.heap.size yO/\∀a n c,vsaw=.slice (some a) n c->a.block<w5.heap.size):=by
 have h4:=h.later hb;have UY:wb.heap.size+1<wr.heap.size:=h.map.lt;have xG:=hb.size;have JC:=ho.size;have NL:=clear_of_far LO UY h.own;have blk:∀{v:Value},Clear v wb.heap.size yO->(∀a n c,v=.slice (some a) n c->a.block<w4.heap.size)->∀a n c,v=.slice (some a) n c->w5.heap[a.block]? =w4.heap[a.block]? :=fun hc hl a n c e=>ho.block _ (hl a n c e) (hc a n c e).1;refine⟨⟨hu,h4.map.of_block (ho.block _ h4.map.lt aAM),oJ h4.own ho aAM,jZ.apart hF (fun a n c e sC=>blk NL (fils_lt hF sC) a n c e),fun _=>NL,fun sC a n c e=>Nat.lt_of_lt_of_le (fils_lt hF sC a n c e) JC,fun y hy=>?_,ho.below h4.below (Nat.le_refl _) (by have:=h4.below.size;omega)⟩,?_,?_⟩
 ·obtain⟨y1,y2,y3⟩:=h4.saws y hy;refine⟨Strs.apart y1 (fun a n c e sC=>blk (y2 sC).1 (y2 sC).2 a n c e),fun sC=>⟨(y2 sC).1,fun a n c e=>Nat.lt_of_lt_of_le ((y2 sC).2 a n c e) JC⟩,y3⟩
 ·exact Strs.apart hS (fun a n c e sC=>blk (clear_of_far (QO sC) UY h.own) (strs_lt hS sC) a n c e)
 exact fun sC=>⟨clear_of_far (QO sC) UY h.own,fun a n c e=>Nat.lt_of_lt_of_le (strs_lt hS sC a n c e) JC⟩
theorem RunW.added{w7:World}{y:Value×Dn}{g n' cap:Nat}{o:Obj}(h:RunW len wb done out files u0 u1 v9 yO wr)(hy:Strs wr y.1 y.2.saw/\(y.2.saw≠[]->Clear y.1 wb.heap.size yO/\∀a n c,y.1=.slice (some a) n c->a.block<wr.heap.size)/\y.2.out.size<=140737488355328)
  (sB:w7.ownsRow (wb.heap.size+1+1) 59 3 (.slice (some ⟨g,0,none⟩) n' cap) (out.length+1) (bN out++[.int .i64 y.2.step,y.1,.string y.2.out])) (hg:(wr.alloc o).grownBy w7 yO.ownBlock) (hl:yO.ownBlock=some g\/g=wr.heap.size+1):
  RunW len wb done (out++[y]) files u0 u1 v9 (.slice (some ⟨g,0,none⟩) n' cap) w7:=by
 have UY:wb.heap.size+1<wr.heap.size:=h.map.lt;have hz:wr.heap.size+1<=w7.heap.size:=aBJ
 have keep:∀k,k<wr.heap.size->yO.ownBlock≠some k->w7.heap[k]? =wr.heap[k]? :=fun k hk sC=>by
  rw[hg.block k aA0 (fun e=>sC e.symm),Below.heap_alloc _ _ _ hk]
 have clr:∀{v:Value},Clear v wb.heap.size yO->(∀a n c,v=.slice (some a) n c->a.block<wr.heap.size)->Clear v wb.heap.size (.slice (some ⟨g,0,none⟩) n' cap):=fun hc sE a n c e=>by
  obtain⟨c1,c2,c3⟩:=hc a n c e;have:=sE a n c e;refine⟨c1,c2,fun e2=>?_⟩;have e3:g=a.block:=by simpa[Value.ownBlock] using e2
  rcases hl with hl|hl
  ·exact c3 (by rw[hl,e3])
  omega
 have blk:∀{v:Value},Clear v wb.heap.size yO->(∀a n c,v=.slice (some a) n c->a.block<wr.heap.size)->∀a n c,v=.slice (some a) n c->w7.heap[a.block]? =wr.heap[a.block]? :=fun hc sE a n c e=>keep _ (sE a n c e) (hc a n c e).2.2
 have one:∀z:Value×Dn,(Strs wr z.1 z.2.saw/\(z.2.saw≠[]->Clear z.1 wb.heap.size yO/\∀a n c,z.1=.slice (some a) n c->a.block<wr.heap.size)/\z.2.out.size<=140737488355328)->
   Strs w7 z.1 z.2.saw/\(z.2.saw≠[]->Clear z.1 wb.heap.size (.slice (some ⟨g,0,none⟩) n' cap)/\∀a n c,z.1=.slice (some a) n c->a.block<w7.heap.size)/\z.2.out.size<=140737488355328:=fun z ⟨z1,z2,z3⟩=>
  ⟨Strs.apart z1 (fun a n c e sC=>blk (z2 sC).1 (z2 sC).2 a n c e),fun sC=>⟨clr (z2 sC).1 (z2 sC).2,fun a n c e=>by have:=(z2 sC).2 a n c e;omega⟩,z3⟩
 have nown:∀k,k<wb.heap.size+1+1->yO.ownBlock≠some k:=fun k hk e=>by have:=(h.own.lt k e).1;omega
 refine⟨by rw[keep _ aAM (nown _ aAM)];exact h.used,h.map.of_block (keep _ UY (nown _ aAM)),?_,jZ.apart h.fils (fun a n c e sC=>blk (h.fclr sC) (h.flt sC) a n c e),fun sC=>clr (h.fclr sC) (h.flt sC),fun sC a n c e=>by have:=h.flt sC a n c e;omega,fun z hz=>?_,?_⟩
 ·rw[List.length_append,List.length_singleton,<-dnCells_snoc];exact sB
 ·rcases List.mem_append.1 hz with hz|hz
  ·exact one z (h.saws z hz)
  simp at hz;subst hz;exact one z hy
 have hb:=h.below;exact⟨hg.os.trans hb.os,hg.tape.trans hb.tape,hg.output.trans hb.output,by have:=hb.size;omega,fun j hj=>(keep j aAM (nown j aAM)).trans (hb.block j hj)⟩
theorem RunW.marked{w8:World}{done':Nat->Bool}(h:RunW len wb done out files u0 u1 v9 yO wr)(hm:jC w8 (wb.heap.size+1) done' len)(hg:wr.grownBy w8 (some (wb.heap.size+1))):RunW len wb done' out files u0 u1 v9 yO w8:=by
 have ho:=iJ hg;have hM:=h.map.isMap;have hs:=ho.size;have UY:wb.heap.size+1<wr.heap.size:=h.map.lt;refine⟨hM.box ho h.used,hm,oJ h.own ho aAM,h.fils.onlyMap hM ho,h.fclr,fun sC a n c e=>Nat.lt_of_lt_of_le (h.flt sC a n c e) hs,fun y hy=>?_,ho.below h.below aAM aAM⟩;obtain⟨y1,y2,y3⟩:=h.saws y hy;exact⟨y1.onlyMap hM ho,fun sC=>⟨(y2 sC).1,fun a n c e=>Nat.lt_of_lt_of_le ((y2 sC).2 a n c e) hs⟩,y3⟩
theorem RunW.dns(h:RunW len wb done out files u0 u1 v9 yO wr):Dns wr yO out:=dns_of_owns h.own (fun y hy=>⟨(h.saws y hy).1,(h.saws y hy).2.2⟩)
theorem RunW.first{vf:Value}(hf:jZ wb vf files)(DG:len<=60):
  RunW len wb (fun _=>false) [] files 0 0 vf (.slice none 0 0) ((wb.alloc (oBx22 0 0)).alloc (.map #[] 0)):=by
 have B1:=aA wb (oBx22 0 0);have B2:=aA (wb.alloc (oBx22 0 0)) (.map #[] 0);have hl:∀sC:files≠[],∀a n c,vf=.slice (some a) n c->a.block<wb.heap.size:=fun sC=>fils_lt hf sC;refine⟨aD B2 (aH _ _),?_,by simpa[bN] using World.ownsRow_nil _ _ _ _,hf.later (aB B1 B2),fun sC a n c e=>?_,fun sC a n c e=>?_,fun y hy=>(by cases hy),aB B1 B2⟩
 ·have:=jC.first (wb.alloc (oBx22 0 0)) len aAM;exact Y9
 ·have:=hl sC a n c e;exact⟨aAM,aAM,aCj⟩
 have:=hl sC a n c e;simp only[World.size_alloc];omega
end
structure RunS (C:bA->Int×bA) (r:Rcp) (clock order next:List Int) (len:Nat) (done:Nat->Bool) (out:List (Value×Dn)) (files:List Fil) (u0 u1:Int):Prop where
 cnt:out.length+dZ done len=len
 b0:0<=u0/\u0<=1000*out.length
 b1:0<=u1/\u1<=1000*out.length
 left:runAll C r clock order next=kR C r.steps clock order next (dZ done len+1) done (out.map (·.2)) files u0 u1
def RunPost(w:World)(res:Except Int (List Dn×bA))(e:Ending)(w':World):Prop:=
 Below w.heap.size w w'/\match res with
  | .error c=>e=.returned (.tuple #[.slice none 0 0,.string ⟨#[]⟩,.int .i64 c])
  | .ok (out,text)=>∃v L,e=.returned (.tuple #[v,.string text,.int .i64 0])/\Dns w' v L/\L.map (·.2)=out
section
variable {C:bA->Int×bA} {r:Rcp} {clock order next:List Int} {len:Nat} {done:Nat->Bool} {out:List (Value×Dn)} {files:List Fil} {u0 u1:Int}
theorem RunS.first(hl:r.steps.length=len):RunS C r clock order next len (fun _=>false) [] r.inputs 0 0:=
 ⟨by rw[oS];simp,aAQ,aAQ,by rw[oS,<-hl];rfl⟩
theorem RunS.pick(_h:RunS C r clock order next len done out files u0 u1)(hl:r.steps.length=len)(hr:bK r.steps done≠[]):∃s,r.steps[eZ (bK r.steps done) next out.length]? =some s/\eZ (bK r.steps done) next out.length<len/\done (eZ (bK r.steps done) next out.length)=false:=by
 obtain⟨h1,h2,-⟩:=nF (choose_mem next out.length hr);exact⟨_,List.getElem?_eq_getElem h1,by rw[<-hl];exact h1,h2⟩
theorem RunS.at_(h:RunS C r clock order next len done out files u0 u1)(hr:bK r.steps done≠[]){s:Stp}(hs:r.steps[eZ (bK r.steps done) next out.length]? =some s):
  runAll C r clock order next=match cH C s files clock order u0 u1 with
   | .error e=>.error e
   | .ok (text,saw,a,b)=>kR C r.steps clock order next (dZ done len) (gS done (eZ (bK r.steps done) next out.length)) (out.map (·.2)++[⟨(eZ (bK r.steps done) next out.length:Nat),saw,text⟩]) (eY s files text) a b:=by
 rw[h.left,kR,if_neg (by simpa using hr),List.length_map];show(match r.steps[eZ (bK r.steps done) next out.length]? with|none=>_|some s=>_)=_;rw[hs];rfl
theorem RunS.end_(h:RunS C r clock order next len done out files u0 u1)(hr:bK r.steps done=[]):runAll C r clock order next=.ok (out.map (·.2),files):=by
 rw[h.left,kR,if_pos (by simp[hr])]
theorem RunS.next_(h:RunS C r clock order next len done out files u0 u1)(hl:r.steps.length=len)(hr:bK r.steps done≠[]){s:Stp}(hs:r.steps[eZ (bK r.steps done) next out.length]? =some s){text:bA}{saw:List bA}{a b:Int}{v:Value}
  (hd:cH C s files clock order u0 u1=.ok (text,saw,a,b)):RunS C r clock order next len (gS done (eZ (bK r.steps done) next out.length)) (out++[(v,⟨(eZ (bK r.steps done) next out.length:Nat),saw,text⟩)]) (eY s files text) a b:=by
 obtain⟨-,-,h1,h2⟩:=h.pick hl hr;have h3:=gP h2 len h1;obtain⟨h4,-,-,h5,h6⟩:=doStep_used hd;have h7:=(dI h4).2.2.1;have e:=h.at_ hr hs;rw[hd] at e;have h8:=h.cnt;have h9:=h.b0;have FU:=h.b1;refine⟨aA0,aA0,aA0,?_⟩;rw[e,h3,List.map_append];rfl
end
end Go.Proofs.YtacgopankhpnbaaGreatDoor
namespace Go.Proofs.YtacgopankhpnbaaGreatDoor
open Go.RowKit
def DoAll(C:bA->Int×bA)(s:Stp):Prop:=∀files clock order vf vl vc vo vn u0 u1 w,DoIn s files clock order vf vl vc vo vn u0 u1 w->Calls Tryz.prog 17 (pR s vf vl vc vo vn u0 u1) w (DoFar w s files u0 u1 (cH C s files clock order u0 u1))
theorem doAll_plain{C:bA->Int×bA}{s:Stp}(h5:s.kind≠5):DoAll C s:=fun files clock order vf vl vc vo vn u0 u1 w h=>do_far C s files clock order vf vl vc vo vn u0 u1 w h h5
structure nC (clock order next:List Int) (vc vo vn:Value) (w:World):Prop where
 clk:hJ w vc clock
 ord:hJ w vo order
 nxt:hJ w vn next
 cwf:∀x,x∈clock->(Lit.int .i64 x).wf=true
 owf:∀x,x∈order->(Lit.int .i64 x).wf=true
 nwf:∀x,x∈next->(Lit.int .i64 x).wf=true
section
variable {clock order next:List Int} {vc vo vn:Value} {w w':World}
theorem nC.later(h:nC clock order next vc vo vn w)(hb:Below w.heap.size w w'):nC clock order next vc vo vn w':=⟨h.clk.later hb,h.ord.later hb,h.nxt.later hb,h.cwf,h.owf,h.nwf⟩
theorem nC.slices(h:nC clock order next vc vo vn w):(∃a c,vc=.slice a clock.length c)/\(∃a c,vo=.slice a order.length c)/\(∃a c,vn=.slice a next.length c):=by
 obtain⟨a,c,h1,-⟩:=h.clk;obtain⟨a',c',h2,-⟩:=h.ord;obtain⟨a'',c'',h3,-⟩:=h.nxt;exact⟨⟨a,c,h1⟩,⟨a',c',h2⟩,⟨a'',c'',h3⟩⟩
end
theorem kE{w:World}{k:Nat}{a b:Value}{t:TypeId}(h:w.heap[k]? =some (.cells #[a,b] t)):w.cell? ⟨k,0,none⟩=some a/\w.cell? ⟨k,1,none⟩=some b/\w.frozen? ⟨k,0,none⟩=false/\w.frozen? ⟨k,1,none⟩=false:=by
 refine⟨?_,?_,?_,?_⟩<;>simp[World.cell?,World.frozen?,h]
theorem set2{w:World}{k:Nat}{a b x y:Value}{t:TypeId}(h:w.heap[k]? =some (.cells #[a,b] t)):((w.setCell ⟨k,0,none⟩ x).setCell ⟨k,1,none⟩ y).heap[k]? =some (.cells #[x,y] t):=by
 exact Z1
theorem fils_form{w:World}{v:Value}{l:List Fil}(h:jZ w v l):∃a c,v=.slice a l.length c:=by
 exact aAH
theorem own_form{w:World}{base:Nat}{e:TypeId}{size:Nat}{v:Value}{n:Nat}{xs:List Value}(h:w.ownsRow base e size v n xs):∃a c,v=.slice a n c:=by
 rcases h.2 with⟨rfl,h0⟩|⟨g,cap,cur,rfl,_⟩
 ·subst h0;exact⟨_,_,rfl⟩
 exact⟨_,_,rfl⟩
theorem eD{w:World}{b b' o o' o'':Nat}{v v' x:Value}(sE:b<b')(h:w.cell? ⟨b,o,none⟩=some x):((w.setCell ⟨b',o',none⟩ v).setCell ⟨b',o'',none⟩ v').cell? ⟨b,o,none⟩=some x:=cell_set2 (Apart.of aAM) h
def ldUsed:Op:=.load 31 (.tmp 10)
theorem ldUsed_def:ldUsed=Op.load 31 (Operand.tmp 10):=rfl
abbrev kF(vc vo vn:Value):Obj:=.cells #[vc,vo,vn] 28
theorem run_bad(C:bA->Int×bA)(r:Rcp)(L:List (Value×Stp))(vi vs vc vo vn:Value)(clock order next:List Int)(w:World)(h:dR r L vi vs w)(hw:nC clock order next vc vo vn w)(he:aP r≠0):
  Calls Tryz.prog 29 #[jD vi vs r.output,.agg #[vc,vo,vn]] w (RunPost w (mZ C r clock order next)):=by
 have HI:=zh (h.later (aB (aA w (aY vi vs r.output)) (aA _ (kF vc vo vn)))).inspect;have HR:=zh (show mZ C r clock order next=.error (aP r) by unfold mZ;rw[if_pos he]);rw[HR.out];obtain⟨⟨a1,c1,rfl⟩,⟨a2,c2,rfl⟩,⟨a3,c3,rfl⟩⟩:=hw.slices;obtain⟨ai,ci,av,cv,rfl,rfl⟩:=h.slices;have h0:(aP r==0)=false:=beq_eq_false_iff_ne.2 he;have h1:(aP r != 0)=true:=aB3;obtain⟨q,hq⟩:∃q,q=aP r:=⟨_,rfl⟩;have HQ:=zh hq;rw[<-hq] at h0 h1 ⊢;clear h he hw HR hq;go_enter Tryz.func29,Tryz.ntmps29;go_wp2_with fail;refine HI.out.mono ?_;rintro e w2 ⟨rfl,hb,-⟩;rw[<-HQ.out];have HB:=zh hb;clear hb;go_wp2_with fail;refine bodyPost_ret (v:=.tuple #[.slice none 0 0,.string ⟨#[]⟩,.int .i64 q]) aBU rfl ⟨?_,rfl⟩;exact aB (aB (aB (aA _ _) (aA _ _)) HB.out) (aA _ _)
theorem doStep_err{C:bA->Int×bA}{s:Stp}{files:List Fil}{clock order:List Int}{u0 u1 q:Int}(h:cH C s files clock order u0 u1=.error q):q≠0:=by
 unfold cH at h;split at h
 ·cases h;decide
 split at h
 ·cases h;decide
 split at h
 ·cases h;decide
 split at h
 ·cases h;decide
 split at h
 ·split at h
  ·rename_i hq;cases h;exact hq
  split at h
  ·cases h;decide
  cases h
 split at h
 ·cases h;decide
 cases h
def finishL(o:bA):Except Int (List Dn×List Fil)->Except Int (List Dn×bA)
 | .error e=>.error e
 | .ok (out,files)=>.ok (out,(aI files o).getD ByteArray.empty)
theorem run_good(C:bA->Int×bA)(r:Rcp)(L:List (Value×Stp))(vi vs vc vo vn:Value)(clock order next:List Int)(w:World)(h:dR r L vi vs w)(hw:nC clock order next vc vo vn w)(hG:dL w)(hD:∀s,s∈r.steps->DoAll C s)(he:aP r=0):
  Calls Tryz.prog 29 #[jD vi vs r.output,.agg #[vc,vo,vn]] w (RunPost w (mZ C r clock order next)):=by
 have HI:=zh (h.later (aB (aA w (aY vi vs r.output)) (aA _ (kF vc vo vn)))).inspect;have HE:=zh (show mZ C r clock order next=finishL r.output (runAll C r clock order next) by unfold mZ;rw[if_neg (by simp[he])];rfl);rw[HE.out];have HR:=zh (gG he);have hlen:=h.len;have IG:L.length<=60:=by have:=HR.out.few;omega
 have A4:=zh (show ∀y,y∈L->y.2.src.length<=1000000 from fun y hy=>by
  have:=HR.out.steps y.2 aCd;have:=(dI this).2.2.1
  omega)
 have xX:=zh h;have K4:=zh hw;have HG:=zh hG;have HD:=zh hD;have yV:=@run_makeMap Tryz.prog;obtain⟨⟨a1,c1,rfl⟩,⟨a2,c2,rfl⟩,⟨a3,c3,rfl⟩⟩:=hw.slices;obtain⟨ai,ci,av,cv,rfl,rfl⟩:=h.slices;have H0:=zh he;have vB:=zh hlen;have hil:r.inputs.length<=60:=by have:=HR.out.room;omega
 clear h he hlen HE hw hG hD;go_enter Tryz.func29,Tryz.ntmps29;go_wp2_with fail;refine HI.out.mono ?_;rintro e w2 ⟨rfl,hb,hm⟩;obtain⟨nw,ni,G8,-⟩:=hm H0.out;have B1:=aA w (aY (.slice ai r.inputs.length ci) (.slice av L.length cv) r.output);have B2:=aA (w.alloc (aY (.slice ai r.inputs.length ci) (.slice av L.length cv) r.output)) (kF (.slice a1 clock.length c1) (.slice a2 order.length c2) (.slice a3 next.length c3));have B4:=aA w2 (cD (.slice ai r.inputs.length ci) (.slice av L.length cv) r.output (w.heap.size+1+1+1+1) (w.heap.size+1+1+1+1+1));have wL:=zh (aB (aB (aB B1 B2) hb) B4);have tZ:=zh (aD (aB (aB B2 hb) B4) (aH w (aY (.slice ai r.inputs.length ci) (.slice av L.length cv) r.output)))
 have LW:=zh (show(w2.alloc (cD (.slice ai r.inputs.length ci) (.slice av L.length cv) r.output (w.heap.size+1+1+1+1) (w.heap.size+1+1+1+1+1))).heap[w.heap.size+1]? =some (kF (.slice a1 clock.length c1) (.slice a2 order.length c2) (.slice a3 next.length c3)) by
  have:=aD (aB hb B4) (aH (w.alloc (aY (.slice ai r.inputs.length ci) (.slice av L.length cv) r.output)) (kF (.slice a1 clock.length c1) (.slice a2 order.length c2) (.slice a3 next.length c3)))
  simpa only[World.size_alloc] using this)
 have HGb:=zh (aH w2 (cD (.slice ai r.inputs.length ci) (.slice av L.length cv) r.output (w.heap.size+1+1+1+1) (w.heap.size+1+1+1+1+1)))
 have SD:=zh (show aX eQ vInt (w2.alloc (cD (.slice ai r.inputs.length ci) (.slice av L.length cv) r.output (w.heap.size+1+1+1+1) (w.heap.size+1+1+1+1+1))) (w.heap.size+1+1+1+1) nw (lP r.steps) by
  have:=G8.later B4;simpa only[World.size_alloc] using this)
 rw[H0.out];have r0:=(bD tZ.out).1;clear hb hm G8 HI B1 B2 B4;go_wp2_with fail;generalize w2.alloc (cD (.slice ai r.inputs.length ci) (.slice av L.length cv) r.output (w.heap.size+1+1+1+1) (w.heap.size+1+1+1+1+1))=w3 at wL tZ LW HGb SD r0 ⊢;generalize w2.heap.size=pg at HGb ⊢;refine(clone_any r.inputs _ w3 (xX.out.inp.later wL.out) aAM).mono ?_;rintro e wb ⟨v9,rfl,sB,hb⟩;have wF:=zh (aB wL.out hb)
 replace tZ:=zh (aD hb tZ.out)
 replace LW:=zh (aD hb LW.out)
 replace HGb:=zh (aD hb HGb.out)
 replace SD:=zh (SD.out.later hb)
 have HF9:=zh (fils_of_owns sB (fun f hf=>fils_size xX.out.inp hf));have L1:=zh (show Grf r L (.slice ai r.inputs.length ci) (.slice av L.length cv) (w.heap.size+1+1+1+1) (w.heap.size+1+1+1+1+1) wb from⟨xX.out.later wF.out,⟨nw,SD.out⟩,IG,A4.out⟩);have DK:=zh (RunW.first (len:=L.length) HF9.out IG);have PT:=zh (RunS.first (C:=C) (clock:=clock) (order:=order) (next:=next) vB.out)
 have AB:Hid (∀done W,Below wb.heap.size wb W->jC W (wb.heap.size+1) done L.length->Calls Tryz.prog 64 #[grfV (.slice ai r.inputs.length ci) (.slice av L.length cv) r.output (w.heap.size+1+1+1+1) (w.heap.size+1+1+1+1+1),.map (some (wb.heap.size+1))] W (gI (bK r.steps done) W)):=
  zh fun done W hb hd=>ready_any r L _ _ _ _ (wb.heap.size+1) done W (L1.out.later hb) hd.is
 obtain⟨g0,g1,g2,g3,g4⟩:=box5 (aD DK.out.below HGb.out);clear sB hb r0;go_wp2_with fail;refine(AB.out (fun _=>false) _ DK.out.below DK.out.map).mono ?_;rintro e w6 ⟨v13,rfl,hI,-,hb⟩;have HI:=zh hI;have HRW6:=zh (DK.out.later hb);clear hI hb DK g0 g1 g2 g3 g4;obtain⟨i0,vA,tM,sY,sX⟩:=info_parts dnInfo;go_wp2_with fail;go_loopw [9,12,13] (fun v9 yO v13 wr=>∃(done:Nat->Bool)(out:List (Value×Dn))(files:List Fil)(u0 u1:Int),Hid (RunW L.length wb done out files u0 u1 v9 yO wr)/\Hid (RunS C r clock order next L.length done out files u0 u1)/\Hid (hJ wr v13 (aU (bK r.steps done)))) (fun _ yO _ _=>L.length-mL yO)
 case atStart=>exact⟨_,_,_,_,_,HRW6,PT,HI⟩
 case round=>
  clear HRW6 PT HI HF9;obtain⟨done,out,files,c0,FV,DK,PT,HI⟩:=hrel;rename World=>wr
  generalize hv9:u9=v9 at *;generalize hv12:u12=yO at *;generalize hv13:u13=v13 at *;clear hv9 hv12 hv13
  obtain⟨a13,c13,e13⟩:∃a c,v13=.slice a (bK r.steps done).length c:=by
   obtain⟨a,c,hv,-⟩:=HI.out;exact⟨a,c,by rw[hv];simp⟩
  obtain⟨a9,c9,e9⟩:=fils_form DK.out.fils;obtain⟨a12,c12,e12⟩:=own_form DK.out.own;subst e13 e9 e12;have xA:=zh (aB wF.out DK.out.below);obtain⟨r0,r1,r2⟩:=bD (aD DK.out.below tZ.out);by_cases hr:bK r.steps done=[]
  ·have zY:=zh (PT.out.end_ hr);have PS:=zh hr;(have h0:(bK r.steps done).length=0:=by rw[hr];rfl);rw[h0];clear hr h0;go_wp2_with fail;refine(find_any files _ r.output _ DK.out.fils).mono ?_;rintro e w7 ⟨rfl,hb⟩;have HD7:=zh (DK.out.later hb).dns;have AC:=zh (aB xA.out hb);clear hb
   cases hf:aI files r.output with
   |none=>
    have XK:=zh (show lI files r.output=.tuple #[.string ByteArray.empty,.bool false] by unfold lI;rw[hf]);have HFf:=zh hf;clear hf;rw[XK.out];go_wp2_with fail;refine bodyPost_ret (v:=.tuple #[.slice a12 out.length c12,.string ByteArray.empty,.int .i64 0]) aBU rfl ?_;rw[zY.out];exact⟨AC.out,_,out,by rw[HFf.out];rfl,HD7.out,rfl⟩
   |some t=>
    have XK:=zh (show lI files r.output=.tuple #[.string t,.bool true] by unfold lI;rw[hf]);have HFf:=zh hf;clear hf;rw[XK.out];go_wp2_with fail;refine bodyPost_ret (v:=.tuple #[.slice a12 out.length c12,.string t,.int .i64 0]) aBU rfl ?_;rw[zY.out];exact⟨AC.out,_,out,by rw[HFf.out];rfl,HD7.out,rfl⟩
  have uD:0<(bK r.steps done).length:=List.length_pos_iff.2 hr;obtain⟨st,hs,sE,hdn⟩:=PT.out.pick vB.out hr;have UG:=zh hr;have HC:=zh (choose_any (bK r.steps done) next out.length _ (.slice a3 next.length c3) wr HI.out (K4.out.later xA.out).nxt uD K4.out.nwf);have yT:=zh (PT.out.at_ hr hs);have SC:=zh (fun(text:bA)(saw:List bA)(a b:Int)(v:Value)(hd:cH C st files clock order c0 FV=.ok (text,saw,a,b))=>PT.out.next_ (v:=v) vB.out hr hs hd);generalize eZ (bK r.steps done) next out.length=i at HC hs sE hdn yT SC
  obtain⟨x0,x1,x2⟩:=bD (aD DK.out.below LW.out)
  obtain⟨y,hy,CE⟩:∃y,L[i]? =some y/\y.2=st:=by
   obtain⟨y,hy,-⟩:=getElem?_of_lt sE;refine⟨y,hy,?_⟩;(have:(L.map (·.2))[i]? =some st:=by rw[xX.out.map];exact hs);rw[List.getElem?_map,hy] at this;exact Option.some.inj this
  subst CE;rcases xX.out.stp.cases with⟨e,-⟩|⟨b,o,cc,e,-,-,-,uZ,hc⟩
  ·exact aAy
  obtain⟨rfl,rfl⟩:av=some ⟨b,o,none⟩/\cc=cv:=by injection e with e1 e2 e3;exact⟨e1,e3.symm⟩
  obtain⟨s0,s1,s2,s3,hsrc,GP⟩:=hc i y hy;have xS:=zh s2
  replace s0:=aC xA.out s0
  replace s1:=aC xA.out s1
  replace s2:=aC xA.out s2
  replace s3:=aC xA.out s3
  replace hsrc:=hsrc.later xA.out
  have BF:w.heap.size+1<wb.heap.size:=(Array.getElem?_eq_some_iff.1 LW.out).1;have LM:w.heap.size<wb.heap.size:=aAM;have TJ:b<wb.heap.size:=aAM;obtain⟨t0,t1,f0,f1⟩:=kE DK.out.used;have ES:=PT.out.b0;have sF:=PT.out.b1
  have PH:out.length<L.length:=by
   have h1:=PT.out.cnt;have h2:=leftN_pos sE hdn;omega
  have HDi:=zh (show DoIn y.2 files clock order y.1 (.slice a9 files.length c9) (.slice a1 clock.length c1) (.slice a2 order.length c2) (.slice a3 next.length c3) c0 FV wr.drew from
   ⟨(HG.out.later xA.out).later (Below.refl _ _).drew,hsrc.later (Below.refl _ _).drew,GP,DK.out.fils.later (Below.refl _ _).drew,(K4.out.later xA.out).clk.later (Below.refl _ _).drew,(K4.out.later xA.out).ord.later (Below.refl _ _).drew,⟨_,_,_,rfl⟩,aAM,aAM,K4.out.cwf,K4.out.owf⟩)
  have UO:=zh (HD.out y.2 (List.mem_of_getElem? hs) _ _ _ _ _ _ _ _ _ _ _ HDi.out);have UY:=DK.out.map.lt;have HDn:=zh hdn;have D9:=zh (show mL (.slice a12 out.length c12)=out.length from rfl);clear hc e hr hs hdn HI;obtain⟨yv,kind,src,yo,sorted⟩:=y;obtain⟨ya,yc,hyv⟩:=bW hsrc;simp only at s0 s1 s2 s3 GP UO yT SC hyv;subst hyv;have HSo:=zh GP;have hbi0:(0:Int)<=(i:Int):=aAM;have hbi1:(i:Int)<(L.length:Int):=aAM;clear hsrc GP hy;go_wp2_with fail;refine HC.out.mono ?_;rintro e w7 ⟨rfl,rfl⟩;go_wp2_with fail;have hld:=ldUsed_def
  cases hd:cH C ⟨kind,src,yo,sorted⟩ files clock order c0 FV with
  |error q=>
   rw[hd] at UO yT;have hq:=doStep_err hd;have yP:(q==0)=false:=beq_eq_false_iff_ne.2 hq;(have AQ:(q != 0)=true:=by rw[bne_iff_ne];exact hq);clear hd SC hq;rw[<-ldUsed_def]
   go_region_held3 (fun W=>W.cell? ⟨w.heap.size,1,none⟩=some (.slice (some ⟨b,o,none⟩) L.length cc)/\(W.cell? ⟨b,o+i*4,none⟩=some (.int .i64 kind)/\W.cell? ⟨b,o+i*4+1,none⟩=some (.slice ya src.length yc)/\W.cell? ⟨b,o+i*4+2,none⟩=some (.string yo)/\W.cell? ⟨b,o+i*4+3,none⟩=some (.bool sorted))/\(W.cell? ⟨w.heap.size+1,0,none⟩=some (.slice a1 clock.length c1)/\W.cell? ⟨w.heap.size+1,1,none⟩=some (.slice a2 order.length c2)/\W.cell? ⟨w.heap.size+1,2,none⟩=some (.slice a3 next.length c3)))
    (first|(with_reducible exact⟨r1,⟨s0,s1,s2,s3⟩,x0,x1,x2⟩)|(with_reducible exact⟨l1,⟨m0,m1,m2,m3⟩,n0,n1,n2⟩)|exact⟨eD LM l1,⟨eD TJ m0,eD TJ m1,eD TJ m2,eD TJ m3⟩,eD BF n0,eD BF n1,eD BF n2⟩|go_keep)
    (first|(go_at_call 17;(with_reducible refine UO.out.mono ?_);rintro e w8 ⟨hb,rfl⟩;have vD:Below wr.heap.size wr w8:=(Below.refl _ wr).drew.trans hb;have l1:=aC vD r1;have m0:=aC vD s0;have m1:=aC vD s1;have m2:=aC vD s2;have m3:=aC vD s3;have n0:=aC vD x0;have n1:=aC vD x1;have n2:=aC vD x2;obtain⟨p0,p1,q0,q1⟩:=kE (aD vD DK.out.used);have AO:=zh vD;clear hb vD))
   have HBe:=zh (show Below w.heap.size w ((w8.setCell ⟨wb.heap.size,0,none⟩ (.int .i64 c0)).setCell ⟨wb.heap.size,1,none⟩ (.int .i64 FV)) from
    ((aB xA.out AO.out).setCell (by have:=wF.out.size;simp;omega) _).setCell (by have:=wF.out.size;simp;omega) _)
   go_wp2_with fail;refine bodyPost_ret (v:=.tuple #[.slice none 0 0,.string ⟨#[]⟩,.int .i64 q]) aBU rfl ?_;rw[yT.out];exact⟨HBe.out,rfl⟩
  |ok res=>
   obtain⟨text,saw,ua,ub⟩:=res;rw[hd] at UO;have HNx2:=zh (fun v=>SC.out _ _ _ _ v hd);have HUs:=zh (doStep_used hd);clear hd yT SC;rw[<-ldUsed_def]
   go_region_held3 (fun W=>W.cell? ⟨w.heap.size,1,none⟩=some (.slice (some ⟨b,o,none⟩) L.length cc)/\(W.cell? ⟨b,o+i*4,none⟩=some (.int .i64 kind)/\W.cell? ⟨b,o+i*4+1,none⟩=some (.slice ya src.length yc)/\W.cell? ⟨b,o+i*4+2,none⟩=some (.string yo)/\W.cell? ⟨b,o+i*4+3,none⟩=some (.bool sorted))/\(W.cell? ⟨w.heap.size+1,0,none⟩=some (.slice a1 clock.length c1)/\W.cell? ⟨w.heap.size+1,1,none⟩=some (.slice a2 order.length c2)/\W.cell? ⟨w.heap.size+1,2,none⟩=some (.slice a3 next.length c3)))
    (first|(with_reducible exact⟨r1,⟨s0,s1,s2,s3⟩,x0,x1,x2⟩)|(with_reducible exact⟨l1,⟨m0,m1,m2,m3⟩,n0,n1,n2⟩)|exact⟨eD LM l1,⟨eD TJ m0,eD TJ m1,eD TJ m2,eD TJ m3⟩,eD BF n0,eD BF n1,eD BF n2⟩|go_keep)
    (first|(go_at_call 17;(with_reducible refine UO.out.mono ?_);rintro e w8 ⟨hb,vfl,vsaw,rfl,hF,hS,LO,QO⟩;have vD:Below wr.heap.size wr w8:=(Below.refl _ wr).drew.trans hb;have l1:=aC vD r1;have m0:=aC vD s0;have m1:=aC vD s1;have m2:=aC vD s2;have m3:=aC vD s3;have n0:=aC vD x0;have n1:=aC vD x1;have n2:=aC vD x2;obtain⟨p0,p1,q0,q1⟩:=kE (aD vD DK.out.used);have HF8:=zh hF;have GT:=zh hS;have HFf:=zh LO;have HSf:=zh QO;have AO:=zh vD;clear hb hF hS LO QO vD))
   have HDid:=DK.out.did AO.out HF8.out HFf.out GT.out HSf.out ((bS.setCell w8).trans (bS.setCell _)) (set2 (x:=.int .i64 ua) (y:=.int .i64 ub) (aD AO.out DK.out.used));obtain⟨hW9,hS9,hC9⟩:=HDid
   have OV:=zh (show lI (eY ⟨kind,src,yo,sorted⟩ files text) yo=.tuple #[.string text,.bool true] by
    unfold lI;rw[find_doFiles (s:=⟨kind,src,yo,sorted⟩) HUs.out.2.1])
   generalize eY ⟨kind,src,yo,sorted⟩ files text=files' at hW9 HNx2 OV;have D6:=zh hW9;have DI:=zh hS9;have HC9:=zh hC9;obtain⟨af,cf,ef⟩:=fils_form D6.out.fils;obtain⟨as',cs',es⟩:=bW DI.out;subst ef es;have hts:=HUs.out.2.2.1;clear hW9 hS9 hC9 HF8 GT HFf HSf l1 m0 m1 m2 m3 n0 n1 n2 p0 p1 q0 q1 r0 r1 r2 x0 x1 x2 s0 s1 s2 s3 t0 t1 f0 f1;generalize ((w8.setCell ⟨wb.heap.size,0,none⟩ (.int .i64 ua)).setCell ⟨wb.heap.size,1,none⟩ (.int .i64 ub))=w9 at D6 DI HC9 ⊢;obtain⟨r0,r1,r2⟩:=bD (aD D6.out.below tZ.out);have s2:=aC (aB wF.out D6.out.below) xS.out;go_wp2_with fail;refine(find_any files' _ yo _ D6.out.fils).mono ?_;rw[OV.out];rintro e tB ⟨rfl,hb⟩;have N7:=zh (D6.out.later hb)
   have HY:=zh (show Strs tB (.slice as' saw.length cs') saw/\(saw≠[]->Clear (.slice as' saw.length cs') wb.heap.size (.slice a12 out.length c12)/\∀a n c,Value.slice as' saw.length cs'=.slice (some a) n c->a.block<tB.heap.size)/\text.size<=140737488355328 from
    ⟨DI.out.later hb,fun sC=>⟨(HC9.out sC).1,fun a n c e=>Nat.lt_of_lt_of_le ((HC9.out sC).2 a n c e) hb.size⟩,aAM⟩)
   have hw10:=N7.out.map.lt;clear hb r0 r1 r2 s2;go_wp2_with(at_builtin;refine wpList_append_lies _ rfl _ _ 54 rfl (wb.heap.size+1+1) 59 i0 (oBx34 0 none 0 0 ByteArray.empty) 3 48 Tryz.underlying54 vA tM sY sX rfl aAM (.slice a12 out.length c12) out.length (bN out) aBm (N7.out.own.alloc _) ⟨tB.heap.size,0,none⟩ 1 1 [.int .i64 i,.slice as' saw.length cs',.string text] aBm rfl (World.news_of_block (cs:=#[.int .i64 i,.slice as' saw.length cs',.string text]) (t:=59) (fr:=(0,0)) (bY tB _)) aA1 aAM aAY aAM aA0 (tB.heap.size+1) aAQ ?_);intro g cap xK sB sA sM TE;have zT:=zh (N7.out.added (y:=(.slice as' saw.length cs',⟨(i:Int),saw,text⟩)) HY.out sB sA sM);obtain⟨tG,tW,BR,NG⟩:=zT.out.map.set (i:=i) sE HDn.out aAM;have IL:=zh (zT.out.marked BR NG);obtain⟨g0,g1,g2,g3,g4⟩:=box5 (aD IL.out.below HGb.out);clear sB sA sM BR NG;go_wp2_with fail;refine(AB.out _ tG IL.out.below IL.out.map).mono ?_;rintro e vL ⟨v13',rfl,hI,-,hb⟩;have HI13:=zh hI;have HW13:=zh (IL.out.later hb);clear hI hb g0 g1 g2 g3 g4;go_wp2_with fail;go_roundw;(case rel=>exact⟨_,_,_,_,_,HW13,zh (HNx2.out _),HI13⟩);case measure=>simp[mL];omega
end Go.Proofs.YtacgopankhpnbaaGreatDoor
namespace Go.Proofs.YtacgopankhpnbaaGreatDoor
open Go.RowKit
theorem order_any(r:Rcp)(L:List (Value×Stp))(vi vs:Value)(w:World)(h:dR r L vi vs w):Calls Tryz.prog 33 #[jD vi vs r.output] w (gI (orderL r) w):=by
 by_cases he:aP r=0
 ·exact order_good r L vi vs w h he
 refine(order_bad r L vi vs w h he).mono ?_;rintro e w' ⟨rfl,hb⟩;rw[show orderL r=[] by unfold orderL;rw[if_pos he]];exact⟨_,rfl,⟨none,0,rfl,aAQ,aAQ,fun h=>absurd rfl h⟩,fun a n c e=>by(cases e),hb⟩
def wIdx(o:Option Nat):Int:=match o with
 |some i=>(i:Int)
 |none=> -1
theorem idxOf_writer(L:List (Value×Stp))(steps:List Stp)(h:L.map (·.2)=steps)(x:bA):kC (fun y:Value×Stp=>decide (y.2.out=x)) L=wIdx (aK steps x):=by
 subst h;unfold kC wIdx aK;rw[List.findIdx?_map];rfl
theorem writer1_any(y:Value×Stp)(x:bA)(b:Nat)(w:World)(hb:w.cell? ⟨b,0,none⟩=some (.string x)):
  Calls Tryz.prog 98 #[stepV y,.pointer (some ⟨b,0,none⟩)] w fun e w'=>e=.returned (.bool (decide (y.2.out=x)))/\Below w.heap.size w w':=by
 have sE:=cT hb;obtain⟨v,kind,src,out,sorted⟩:=y;go_enter Tryz.func98,Tryz.ntmps98;exact Z4
theorem enters_writer1(args:Array Value)(w:World):(callFunc 98 args).run Tryz.prog w=.ok (.enter 98 args) w:=aAN
theorem oZ(r:Rcp)(L:List (Value×Stp))(vi vs:Value)(x:bA)(w:World)(h:dR r L vi vs w):
  Calls Tryz.prog 73 #[jD vi vs r.output,.string x] w fun e w'=>e=.returned (.int .i64 (wIdx (aK r.steps x)))/\Below w.heap.size w w':=by
 have B1:=aA w (aY vi vs r.output);have B2:=aA (w.alloc (aY vi vs r.output)) (eP x);have HB:=zh (aB B1 B2);have hx:=box1 (aH (w.alloc (aY vi vs r.output)) (eP x))
 have HI:=zh (indexFunc_stp 98 #[.pointer (some ⟨(w.alloc (aY vi vs r.output)).heap.size,0,none⟩)] (fun y:Value×Stp=>decide (y.2.out=x)) L vs _ (h.later HB.out).stp enters_writer1
  (fun y _ W hW=>writer1_any y x _ W (aC hW hx)))
 rw[idxOf_writer L r.steps h.map x] at HI;simp only[World.size_alloc] at HI;obtain⟨r0,r1,r2⟩:=bD (aD B2 (aH w (aY vi vs r.output)));obtain⟨ai,ci,av,cv,rfl,rfl⟩:=h.slices;clear h hx B1 B2;go_enter Tryz.func73,Tryz.ntmps73;go_wp2_with fail;refine HI.out.mono ?_;rintro e w' ⟨rfl,hb⟩;go_wp2_with fail;go_ret;exact⟨rfl,aB HB.out (by simpa only[World.size_alloc] using hb)⟩
theorem sees_any(y:Value×Stp)(w:World)(hy:Strs w y.1 y.2.src):
  Calls Tryz.prog 77 #[stepV y] w fun e w'=>e=.returned (.int .i64 (iC y.2))/\Below w.heap.size w w':=by
 obtain⟨a,c,hv⟩:=bW hy;obtain⟨v,kind,src,out,sorted⟩:=y;simp only at hv hy;subst hv;clear hy;by_cases hk:kind=2
 ·have hs:iC ⟨kind,src,out,sorted⟩=0:=by unfold iC;rw[if_pos hk]
  rw[hs];subst hk;go_enter Tryz.func77,Tryz.ntmps77;exact ZI
 have hs:iC ⟨kind,src,out,sorted⟩=src.length:=by unfold iC;rw[if_neg hk]
 rw[hs];have CG:(kind==2)=false:=by simpa using hk
 go_enter Tryz.func77,Tryz.ntmps77;exact ZI
structure Off (S:Nat->Prop) (w w':World):Prop where
 os:w'.os=w.os
 tape:w'.tape=w.tape
 output:w'.output=w.output
 size:w.heap.size<=w'.heap.size
 block:∀k,k<w.heap.size->¬S k->w'.heap[k]? =w.heap[k]?
theorem Off.refl(S:Nat->Prop)(w:World):Off S w w:=⟨rfl,rfl,rfl,Nat.le_refl _,fun _ _ _=>rfl⟩
theorem Off.trans{S:Nat->Prop}{u v w:World}(h:Off S u v)(k:Off S v w):Off S u w:=
 ⟨k.os.trans h.os,k.tape.trans h.tape,k.output.trans h.output,Nat.le_trans h.size k.size,fun i hi sC=>(k.block i (Nat.lt_of_lt_of_le hi h.size) sC).trans (h.block i hi sC)⟩
theorem Ba{S:Nat->Prop}{w w':World}(h:Below w.heap.size w w'):Off S w w':=⟨h.os,h.tape,h.output,h.size,fun k hk _=>h.block k hk⟩
theorem Off.of_only{S:Nat->Prop}{b:Nat}{w w':World}(h:bS b w w')(hb:S b):Off S w w':=⟨h.os,h.tape,h.output,h.size,fun k hk hn=>h.block k hk (fun e=>hn (e▸hb))⟩
theorem Off.below{S:Nat->Prop}{u w w':World}{B:Nat}(h:Below B u w)(k:Off S w w')(hb:∀k,S k->B<=k)(hB:B<=w.heap.size):Below B u w':=
 ⟨k.os.trans h.os,k.tape.trans h.tape,k.output.trans h.output,Nat.le_trans h.size k.size,fun i hi=>(k.block i aAM (fun hs=>by have:=hb i hs;omega)).trans (h.block i hi)⟩
theorem Off.cell{S:Nat->Prop}{w w':World}(h:Off S w w'){k o:Nat}{v:Value}(hn:¬S k)(hc:w.cell? ⟨k,o,none⟩=some v):w'.cell? ⟨k,o,none⟩=some v:=
 (World.cell?_of_block (w:=w) (h.block k (cT hc) hn)).trans hc
theorem Off.heap{S:Nat->Prop}{w w':World}(h:Off S w w'){k:Nat}{o:Obj}(hn:¬S k)(hc:w.heap[k]? =some o):w'.heap[k]? =some o:=
 (h.block k (Array.getElem?_eq_some_iff.1 hc).1 hn).trans hc
theorem Off.setCell{S:Nat->Prop}{b o:Nat}{v:Value}(w:World)(hb:S b):Off S w (w.setCell ⟨b,o,none⟩ v):=Off.of_only (bS.setCell w) hb
theorem Off.drew{S:Nat->Prop}{u w:World}(h:Off S u w):Off S u w.drew:=⟨h.os,h.tape,h.output,h.size,h.block⟩
theorem aO{w:World}{g i:Nat}{cs:Array Value}{t:TypeId}{fr:Nat×Nat}(h:w.heap[g]? =some (.cells cs t fr))(v:Value):(w.setCell ⟨g,i,none⟩ v).heap[g]? =some (.cells (cs.setIfInBounds i v) t fr):=by
 exact Z1
def qB(w:World)(g:Nat)(D:List (Value×Dn)):Prop:=w.heap[g]? =some (.cells (bN D).toArray 59)
theorem qB.lt{w:World}{g:Nat}{D:List (Value×Dn)}(h:qB w g D):g<w.heap.size:=(Array.getElem?_eq_some_iff.1 h).1
theorem qB.later{w w':World}{g:Nat}{D:List (Value×Dn)}(h:qB w g D)(hb:Below w.heap.size w w'):qB w' g D:=aD hb h
theorem qB.at_{w:World}{g:Nat}{D:List (Value×Dn)}(h:qB w g D){i:Nat}{y:Value×Dn}(hy:D[i]? =some y):
  (w.cell? ⟨g,i*3,none⟩=some (.int .i64 y.2.step)/\w.cell? ⟨g,i*3+1,none⟩=some y.1/\w.cell? ⟨g,i*3+2,none⟩=some (.string y.2.out))/\
  (w.frozen? ⟨g,i*3,none⟩=false/\w.frozen? ⟨g,i*3+1,none⟩=false/\w.frozen? ⟨g,i*3+2,none⟩=false):=by
 obtain⟨d0,d1,d2⟩:=pT D i y hy;refine⟨⟨?_,?_,?_⟩,?_,?_,?_⟩<;>simp[World.cell?,World.frozen?,show w.heap[g]? =_ from h,d0,d1,d2]
theorem dnCells_set:∀(D:List (Value×Dn))(i:Nat)(y:Value×Dn),(((bN D).set (i*3) (.int .i64 y.2.step)).set (i*3+1) y.1).set (i*3+2) (.string y.2.out)=bN (D.set i y)
 |[],i,y=>by simp[bN]
 |x::D,0,y=>rfl
 |x::D,i+1,y=>by
  have:=dnCells_set D i y;rw[show(i+1)*3=i*3+1+1+1 by omega,List.set_cons_succ,show bN (x::D.set i y)=.int .i64 x.2.step::x.1:: .string x.2.out::bN (D.set i y) from rfl,<-this];rfl
theorem qB.set{w:World}{g:Nat}{D:List (Value×Dn)}(h:qB w g D)(i:Nat)(y:Value×Dn):
  qB (((w.setCell ⟨g,i*3,none⟩ (.int .i64 y.2.step)).setCell ⟨g,i*3+1,none⟩ y.1).setCell ⟨g,i*3+2,none⟩ (.string y.2.out)) g (D.set i y):=by
 unfold qB;rw[aO (aO (aO h _) _) _,<-dnCells_set];simp
def ArrB(w:World)(g:Nat)(T:List Bool):Prop:=w.heap[g]? =some (.cells (T.map Value.bool).toArray 4)
theorem ArrB.lt{w:World}{g:Nat}{T:List Bool}(h:ArrB w g T):g<w.heap.size:=(Array.getElem?_eq_some_iff.1 h).1
theorem ArrB.later{w w':World}{g:Nat}{T:List Bool}(h:ArrB w g T)(hb:Below w.heap.size w w'):ArrB w' g T:=aD hb h
theorem ArrB.at_{w:World}{g:Nat}{T:List Bool}(h:ArrB w g T){i:Nat}{q:Bool}(hq:T[i]? =some q):w.cell? ⟨g,i,none⟩=some (.bool q)/\w.frozen? ⟨g,i,none⟩=false:=by
 refine⟨?_,?_⟩<;>simp[World.cell?,World.frozen?,show w.heap[g]? =_ from h,hq]
theorem ArrB.set{w:World}{g:Nat}{T:List Bool}(h:ArrB w g T)(i:Nat)(q:Bool):ArrB (w.setCell ⟨g,i,none⟩ (.bool q)) g (T.set i q):=by
 unfold ArrB;rw[aO h];simp
theorem dnCells_append(a b:List (Value×Dn)):bN (a++b)=bN a++bN b:=by simp[bN]
theorem made_dn(n:Nat):madeCells #[.int .i64 0,.slice none 0 0,.string ByteArray.empty] (n*3)=(bN (List.replicate n (.slice none 0 0,jX))).toArray:=by
 apply Array.toList_inj.1;show(madeCells _ (n*3)).toList=bN (List.replicate n (.slice none 0 0,jX));unfold madeCells;rw[Array.toList_map,Array.toList_range]
 induction n with
 |zero=>rfl
 |succ n ih=>
  rw[List.replicate_succ',dnCells_append,<-ih,show(n+1)*3=n*3+1+1+1 by omega,List.range_succ,List.range_succ,List.range_succ];simp only[List.map_append,List.append_assoc];congr 1;have h0:n*3 % 3=0:=aAM;have h1:(n*3+1) % 3=1:=aAM;have h2:(n*3+1+1) % 3=2:=aAM;simp[h0,h1,h2,bN,jX];try rfl
theorem made_bool(n:Nat):madeCells #[.bool false] n=Array.replicate n (.bool false):=by
 apply Array.toList_inj.1;rw[toList_madeCells_one];simp
theorem boolInfo:(Tryz.prog.info? 4).map (fun i=>(i.zero,i.size,i.bytes))=some (some (.bool false),1,1):=aAN
theorem make_dns(n:Nat)(hn:n<=1000000)(w:World):(Instr.makeSlice 54 (.int .i64 (n:Int)) (.int .i64 (n:Int))).run Tryz.prog w=.ok (.slice (some ⟨w.heap.size,0,none⟩) n n) (w.alloc (.cells (bN (List.replicate n (.slice none 0 0,jX))).toArray 59)):=by
 obtain⟨i0,vA,tM,sY,sX⟩:=info_parts dnInfo;have:=run_makeSlice (P:=Tryz.prog) (w:=w) 54 59 i0 _ Tryz.underlying54 vA tM .i64 .i64 n n aAM (Int.le_refl _) (by rw[sY];simp;omega) (by rw[sX];omega) aAM;rw[this,sY,<-made_dn];rfl
theorem make_bools(n:Nat)(hn:n<=1000000)(w:World):(Instr.makeSlice 142 (.int .i64 (n:Int)) (.int .i64 (n:Int))).run Tryz.prog w=.ok (.slice (some ⟨w.heap.size,0,none⟩) n n) (w.alloc (.cells (Array.replicate n (.bool false)) 4)):=by
 obtain⟨i0,vA,tM,sY,sX⟩:=info_parts boolInfo;have:=run_makeSlice (P:=Tryz.prog) (w:=w) 142 4 i0 _ Tryz.underlying142 vA tM .i64 .i64 n n aAM (Int.le_refl _) (by rw[sY];simp;omega) (by rw[sX];omega) aAM;rw[this,sY,<-made_bool,Nat.mul_one];rfl
def bU(N:Nat->Prop)(w:World)(N':Nat->Prop)(w':World):Prop:=
 ∀b,N b->b<w.heap.size->N' b/\∀o v,w.cell? ⟨b,o,none⟩=some v->w'.cell? ⟨b,o,none⟩=some v
theorem bU.later{N:Nat->Prop}{w w':World}(hb:Below w.heap.size w w'):bU N w N w':=fun _ h _=>⟨h,fun _ _ h=>aC hb h⟩
def eW{α:Type}(enc:(Nat->Prop)->World->α->List Value->Prop):Prop:=∀N w N' w' x cs,bU N w N' w'->enc N w x cs->enc N' w' x cs
def aL{α:Type}(k:Nat)(enc:(Nat->Prop)->World->α->List Value->Prop)(N:Nat->Prop)(w:World)(v:Value)(l:List α):Prop:=
 ∃a c,v=.slice a l.length c/\l.length<=c/\c<=9223372036854775807/\
  (l≠[]->∃b o,a=some ⟨b,o,none⟩/\N b/\∀i x,l[i]? =some x->∃cs,enc N w x cs/\cs.length=k/\∀j u,cs[j]? =some u->w.cell? ⟨b,o+i*k+j,none⟩=some u)
theorem aL.moves{α:Type}{k:Nat}{enc:(Nat->Prop)->World->α->List Value->Prop}(he:eW enc){N N':Nat->Prop}{w w':World}{v:Value}{l:List α}(hm:bU N w N' w')(hk:0<k)
  (h:aL k enc N w v l):aL k enc N' w' v l:=by
 obtain⟨a,c,hv,h1,h2,h3⟩:=h;refine⟨a,c,hv,h1,h2,fun sC=>?_⟩;obtain⟨b,o,ha,hn,hc⟩:=h3 sC
 have hb:b<w.heap.size:=by
  cases l with
  |nil=>exact absurd rfl sC
  |cons x0 l=>
   exact ZW
 obtain⟨hn',tH⟩:=hm b hn hb;refine⟨b,o,ha,hn',fun i x hx=>?_⟩;obtain⟨cs,e,hl,hj⟩:=hc i x hx;exact⟨cs,he _ _ _ _ _ _ hm e,hl,fun j u hu=>tH _ _ (hj j u hu)⟩
theorem aL.nil{α:Type}(k:Nat)(enc:(Nat->Prop)->World->α->List Value->Prop)(N:Nat->Prop)(w:World):aL k enc N w (.slice none 0 0) []:=⟨none,0,rfl,aAQ,aAQ,fun h=>absurd rfl h⟩
theorem aL.cases{α:Type}{k:Nat}{enc:(Nat->Prop)->World->α->List Value->Prop}{N:Nat->Prop}{w:World}{v:Value}{l:List α}(hk:0<k)(h:aL k enc N w v l):
  (l=[]/\∃a c,v=.slice a 0 c)\/(∃b o c,v=.slice (some ⟨b,o,none⟩) l.length c/\0<l.length/\l.length<=c/\c<=9223372036854775807/\b<w.heap.size/\N b/\
   ∀i x,l[i]? =some x->∃cs,enc N w x cs/\cs.length=k/\∀j u,cs[j]? =some u->w.cell? ⟨b,o+i*k+j,none⟩=some u):=by
 obtain⟨a,c,hv,h1,h2,h3⟩:=h
 cases l with
 |nil=>exact .inl ⟨rfl,a,c,hv⟩
 |cons x0 l=>
  obtain⟨b,o,ha,hn,hc⟩:=h3 aAQ;refine .inr ⟨b,o,c,by rw[hv,ha],aAQ,h1,h2,?_,hn,hc⟩;exact ZW
theorem flatten_at{k:Nat}:∀(css:List (List Value)),(∀c,c∈css->c.length=k)->∀i c j,css[i]? =some c->j<k->css.flatten[i*k+j]? =c[j]?
 |[],_,i,c,j,h,_=>aBF
 |d::css,hl,0,c,j,h,hj=>by
  simp at h;subst h;have hd:=hl d aAQ;rw[List.flatten_cons,Nat.zero_mul,Nat.zero_add,List.getElem?_append_left aAM]
 |d::css,hl,i+1,c,j,h,hj=>by
  have hd:=hl d aAQ;rw[List.flatten_cons,List.getElem?_append_right (by rw[hd,Nat.succ_mul];omega),hd,show(i+1)*k+j-k=i*k+j by rw[Nat.succ_mul];omega];exact flatten_at css (fun c hc=>hl c (by simp[hc])) i c j aBn hj
abbrev bM(B:Nat):Nat->Prop:=fun b=>B<=b
abbrev nA(B:Nat)(v:Value):Nat->Prop:=fun b=>B<=b/\v.ownBlock≠some b
structure Gro {α:Type} (k:Nat) (T:TypeId) (enc:(Nat->Prop)->World->α->List Value->Prop) (B:Nat) (l:List α) (css:List (List Value)) (v:Value) (w:World):Prop where
 own:w.ownsRow B T k v l.length css.flatten
 len:css.length=l.length
 ks:∀c,c∈css->c.length=k
 enc:∀(i:Nat)(x:α)(c:List Value),l[i]? =some x->css[i]? =some c->enc (nA B v) w x c
 big:B<=w.heap.size
section
variable {α:Type} {k:Nat} {T:TypeId} {enc:(Nat->Prop)->World->α->List Value->Prop} {B:Nat} {l:List α} {css:List (List Value)} {v:Value} {w w':World}
theorem Gro.first(k:Nat)(T:TypeId)(enc:(Nat->Prop)->World->α->List Value->Prop)(w:World):Gro k T enc w.heap.size [] [] (.slice none 0 0) w:=
 ⟨World.ownsRow_nil _ _ _ _,rfl,fun c h=>aBx,fun i x c h=>aBF,Nat.le_refl _⟩
theorem Gro.first_at(k:Nat)(T:TypeId)(enc:(Nat->Prop)->World->α->List Value->Prop){w:World}{B:Nat}(h:B<=w.heap.size):Gro k T enc B [] [] (.slice none 0 0) w:=
 ⟨World.ownsRow_nil _ _ _ _,rfl,fun c h=>aBx,fun i x c h=>aBF,h⟩
def dN(B:Nat)(w w':World):Prop:=w.heap.size<=w'.heap.size/\∀b cs t fr,B<=b->w.heap[b]? =some (.cells cs t fr)->w'.heap[b]? =some (.cells cs t fr)
theorem dN.of_below(hb:Below w.heap.size w w'):dN B w w':=⟨hb.size,fun b _ _ _ _ hc=>(hb.block b (Array.getElem?_eq_some_iff.1 hc).1).trans hc⟩
theorem dN.of_off{S:Nat->Prop}(ho:Off S w w')(hS:∀b,S b->b<B\/dG w b):dN B w w':=⟨ho.size,fun b _ _ _ hB hc=>by
 refine(ho.block b (Array.getElem?_eq_some_iff.1 hc).1 fun hs=>?_).trans hc;rcases hS b hs with h|⟨es,c,h⟩
 ·omega
 rw[h] at hc;cases hc⟩
theorem cell_heap{b o:Nat}{u:Value}(h:w.cell? ⟨b,o,none⟩=some u):∃cs t fr,w.heap[b]? =some (.cells cs t fr)/\cs[o]? =some u:=by
 unfold World.cell? at h
 cases hh:w.heap[b]? with
 |none=>simp[hh] at h
 |some ob=>
  cases ob with
  |cells cs t fr=>exact⟨cs,t,fr,rfl,by simpa[hh] using h⟩
  |_=>simp[hh] at h
theorem dN.cell(h:dN B w w'){b o:Nat}{u:Value}(hb:B<=b)(hc:w.cell? ⟨b,o,none⟩=some u):w'.cell? ⟨b,o,none⟩=some u:=by
 obtain⟨cs,t,fr,hh,hu⟩:=cell_heap hc;simp[World.cell?,h.2 b cs t fr hb hh,hu]
theorem dN.moves{N:Nat->Prop}(h:dN B w w')(hN:∀b,N b->B<=b):bU N w N w':=fun b hb _=>⟨hb,fun _ _ hc=>h.cell (hN b hb) hc⟩
theorem Gro.stays(he:eW enc)(h:Gro k T enc B l css v w)(hs:dN B w w'):Gro k T enc B l css v w':=by
 refine⟨?_,h.len,h.ks,fun i x c hx hc=>he _ _ _ _ _ _ (hs.moves fun b hb=>hb.1) (h.enc i x c hx hc),Nat.le_trans h.big hs.1⟩;obtain⟨h1,h2⟩:=h.own;refine⟨h1,?_⟩;rcases h2 with h2|⟨g,cap,cur,hv,hg,KR,r⟩
 ·exact .inl h2
 exact .inr ⟨g,cap,cur,hv,hg,hs.2 _ _ _ _ hg KR,r⟩
theorem Gro.later(he:eW enc)(h:Gro k T enc B l css v w)(hb:Below w.heap.size w w'):Gro k T enc B l css v w':=h.stays he (.of_below hb)
theorem Gro.added(he:eW enc)(h:Gro k T enc B l css v w){g cap:Nat}{x:α}{news:List Value}(hx:enc (nA B v) w x news)(hk:news.length=k)
  (sB:w'.ownsRow B T k (.slice (some ⟨g,0,none⟩) (l.length+1) cap) (l.length+1) (css.flatten++news)) (sA:w.grownBy w' v.ownBlock) (sM:v.ownBlock=some g\/g=w.heap.size):
  Gro k T enc B (l++[x]) (css++[news]) (.slice (some ⟨g,0,none⟩) (l.length+1) cap) w':=by
 have hm:bU (nA B v) w (nA B (.slice (some ⟨g,0,none⟩) (l.length+1) cap)) w':=fun b hb sE=>by
  refine⟨⟨hb.1,fun e=>?_⟩,fun o u hu=>sA.cell hu (fun e=>hb.2 e.symm)⟩;have e2:g=b:=aCa;subst e2;rcases sM with h1|h1
  ·exact hb.2 h1
  omega
 refine⟨by rw[List.length_append,List.flatten_append];simpa using sB,by simp[h.len],fun c hc=>?_,fun i y c hy hc=>?_,Nat.le_trans h.big sA.size⟩
 ·rcases List.mem_append.1 hc with h1|h1
  ·exact h.ks c h1
  rw[List.mem_singleton.1 h1];exact hk
 by_cases hi:i<l.length
 ·rw[List.getElem?_append_left hi] at hy;rw[List.getElem?_append_left (by rw[h.len];exact hi)] at hc;exact he _ _ _ _ _ _ hm (h.enc i y c hy hc)
 rw[List.getElem?_append_right aAM] at hy;rw[List.getElem?_append_right (by rw[h.len];omega)] at hc
 have vA:i-l.length=0:=by
  rcases Nat.eq_zero_or_pos (i-l.length) with h0|h0
  ·exact h0
  rw[List.getElem?_eq_none (by rw[List.length_singleton];omega)] at hy;cases hy
 rw[vA] at hy;rw[h.len,vA] at hc;cases hy;cases hc;exact he _ _ _ _ _ _ hm hx
theorem Gro.row(he:eW enc)(h:Gro k T enc B l css v w):aL k enc (bM B) w v l:=by
 obtain⟨h1,h2⟩:=h.own;rcases h2 with⟨rfl,h0⟩|⟨g,cap,cur,rfl,hg,yY,r1,r2,r3,r4⟩
 ·have:=List.eq_nil_of_length_eq_zero h0;subst this;exact aL.nil _ _ _ _
 refine⟨_,cap,rfl,r1,r2,fun _=>⟨g,0,rfl,hg,fun i x hx=>?_⟩⟩;have hi:=(Yb.1 hx).1;obtain⟨c,hc⟩:∃c,css[i]? =some c:=⟨_,List.getElem?_eq_getElem (by rw[h.len];exact hi)⟩;have hck:=h.ks c (List.mem_of_getElem? hc);refine⟨c,he _ _ _ _ _ _ (fun b hb _=>⟨hb.1,fun _ _ h=>h⟩) (h.enc i x c hx hc),hck,fun j u hu=>?_⟩;have hj:j<k:=by rw[<-hck];exact(Yb.1 hu).1
 have sE:i*k+j<l.length*k:=by
  have:(i+1)*k<=l.length*k:=Nat.mul_le_mul_right _ hi;rw[Nat.succ_mul] at this;omega
 have:=congrArg (fun t:List Value=>t[i*k+j]?) r4;simp only[List.getElem?_take,if_pos sE,flatten_at css h.ks i c j hc hj,hu] at this;have h2:cur[i*k+j]? =some u:=aBY;simp[World.cell?,yY,h2]
theorem Gro.lt(h:Gro k T enc B l css v w):∀b,v.ownBlock=some b->B<=b/\b<w.heap.size:=h.own.lt
theorem Gro.val(h:Gro k T enc B l css v w):v=.slice none 0 0/\l=[]\/∃g cap,v=.slice (some ⟨g,0,none⟩) l.length cap/\B<=g/\g<w.heap.size:=by
 rcases h.own.2 with⟨rfl,h0⟩|⟨g,cap,cur,rfl,hg,yY,-⟩
 ·exact .inl ⟨rfl,List.eq_nil_of_length_eq_zero h0⟩
 exact .inr ⟨g,cap,rfl,hg,(Array.getElem?_eq_some_iff.1 yY).1⟩
end
def cZ(_:Nat->Prop)(_:World)(x:bA)(cs:List Value):Prop:=cs=[.string x]/\x.size<=140737488355328
theorem aS:eW cZ:=fun _ _ _ _ _ _ _ h=>h
theorem aL.strs{N:Nat->Prop}{w:World}{v:Value}{l:List bA}(h:aL 1 cZ N w v l):Strs w v l:=by
 obtain⟨a,c,hv,h1,h2,h3⟩:=h;refine⟨a,c,hv,h1,h2,fun sC=>?_⟩;obtain⟨b,o,ha,-,hc⟩:=h3 sC;exact⟨b,o,ha,hc⟩
end Go.Proofs.YtacgopankhpnbaaGreatDoor
namespace Go.Proofs.YtacgopankhpnbaaGreatDoor
open Go.RowKit
theorem aL.at{α:Type}{k:Nat}{enc:(Nat->Prop)->World->α->List Value->Prop}{N:Nat->Prop}{w:World}{v:Value}{l:List α}(h:aL k enc N w v l):
  ∃a c,v=.slice a l.length c/\l.length<=c/\c<=9223372036854775807/\∀i x,l[i]? =some x->∃b o,a=some ⟨b,o,none⟩/\N b/\∃cs,enc N w x cs/\cs.length=k/\∀j u,cs[j]? =some u->w.cell? ⟨b,o+i*k+j,none⟩=some u:=by
 obtain⟨a,c,hv,h1,h2,h3⟩:=h;refine⟨a,c,hv,h1,h2,fun i x hx=>?_⟩;obtain⟨b,o,ha,hb,hc⟩:=h3 (fun e=>by rw[e] at hx;simp at hx);exact⟨b,o,ha,hb,hc i x hx⟩
theorem getElem?_drop{α:Type}{l:List α}{k:Nat}{x:α}(h:l[k]? =some x):l.drop k=x::l.drop (k+1):=by
 obtain⟨hk,e⟩:=Yb.1 h;rw[List.drop_eq_getElem_cons hk,e]
section
variable {steps:List Stp} {st:RSt} {d:Dn} {i:Nat} {s:Stp}
theorem readDn_neg(h:d.step<0):iV steps st d=none:=by unfold iV;rw[if_pos h]
theorem readDn_far(h:(steps.length:Int)<=d.step):iV steps st d=none:=by
 unfold iV;rw[if_neg aAM,List.getElem?_eq_none aAM]
theorem readDn_there(hd:d.step=(i:Int))(hs:steps[i]? =some s)(ht:st.there i=true):iV steps st d=none:=by
 unfold iV;rw[if_neg aAM,hd,Int.toNat_natCast,hs];simp only;rw[if_pos (.inl ht)]
theorem readDn_saw(hd:d.step=(i:Int))(hs:steps[i]? =some s)(hl:d.saw.length≠iC s):iV steps st d=none:=by
 unfold iV;rw[if_neg aAM,hd,Int.toNat_natCast,hs];simp only;rw[if_pos (.inr hl)]
theorem readDn_in(hd:d.step=(i:Int))(hs:steps[i]? =some s)(ht:st.there i=false)(hl:d.saw.length=iC s):
  iV steps st d=(kA steps st.there st.of d.saw 0 s.src st.inp).map fun m=>⟨gS st.there i,qG st.of i d,m⟩:=by
 unfold iV;rw[if_neg aAM,hd,Int.toNat_natCast,hs];simp only;rw[if_neg (by rw[ht];simp[hl])];cases kA steps st.there st.of d.saw 0 s.src st.inp<;>rfl
end
def lT(steps:List Stp)(l:List Dn)(k:Nat)(st:RSt):Prop:=jG steps l mM=jG steps (l.drop k) st
theorem lT.first(steps:List Stp)(l:List Dn):lT steps l 0 mM:=by unfold lT;rw[List.drop_zero]
theorem lT.last{steps:List Stp}{l:List Dn}{k:Nat}{st:RSt}(h:lT steps l k st)(hk:l.length<=k):jG steps l mM=some st:=by
 unfold lT at h;rw[h,List.drop_of_length_le hk];rfl
theorem lT.bad{steps:List Stp}{l:List Dn}{k:Nat}{st:RSt}{d:Dn}(h:lT steps l k st)(hd:l[k]? =some d)(hn:iV steps st d=none):jG steps l mM=none:=by
 unfold lT at h;rw[h,getElem?_drop hd,jG,hn]
theorem lT.next_{steps:List Stp}{l:List Dn}{k:Nat}{st st':RSt}{d:Dn}(h:lT steps l k st)(hd:l[k]? =some d)(hn:iV steps st d=some st'):lT steps l (k+1) st':=by
 unfold lT at h ⊢;rw[h,getElem?_drop hd,jG,hn]
def oA(steps:List Stp)(st:RSt)(saw src:List bA)(j:Nat)(m:bA->Option bA):Prop:=
 kA steps st.there st.of saw 0 src st.inp=kA steps st.there st.of saw j (src.drop j) m
theorem oA.first(steps:List Stp)(st:RSt)(saw src:List bA):oA steps st saw src 0 st.inp:=by unfold oA;rw[List.drop_zero]
section
variable {steps:List Stp} {st:RSt} {saw src:List bA} {j i:Nat} {m:bA->Option bA} {x t u:bA}
theorem oA.last(h:oA steps st saw src j m)(hj:src.length<=j):kA steps st.there st.of saw 0 src st.inp=some m:=by
 unfold oA at h;rw[h,List.drop_of_length_le hj];rfl
theorem oA.bad(h:oA steps st saw src j m)(hx:src[j]? =some x)(hn:dU steps st.there st.of saw j x m=none):kA steps st.there st.of saw 0 src st.inp=none:=by
 unfold oA at h;rw[h,getElem?_drop hx,kA,hn]
theorem oA.next_{m':bA->Option bA}(h:oA steps st saw src j m)(hx:src[j]? =some x)(hn:dU steps st.there st.of saw j x m=some m'):oA steps st saw src (j+1) m':=by
 unfold oA at h ⊢;rw[h,getElem?_drop hx,kA,hn]
theorem name_gone(hw:aK steps x=some i)(ht:st.there i=false):dU steps st.there st.of saw j x m=none:=by
 unfold dU;rw[hw];simp[ht]
theorem name_blank(hw:aK steps x=some i)(ht:st.there i=true)(hs:saw[j]? =none):dU steps st.there st.of saw j x m=some m:=by
 unfold dU;rw[hw];simp[ht,hs]
theorem name_same(hw:aK steps x=some i)(ht:st.there i=true)(hs:saw[j]? =some t)(e:t=(st.of i).out):dU steps st.there st.of saw j x m=some m:=by
 unfold dU;rw[hw];simp[ht,hs,e]
theorem name_other(hw:aK steps x=some i)(ht:st.there i=true)(hs:saw[j]? =some t)(e:t≠(st.of i).out):dU steps st.there st.of saw j x m=none:=by
 unfold dU;rw[hw];simp[ht,hs,e]
theorem inp_blank(hw:aK steps x=none)(hs:saw[j]? =none):dU steps st.there st.of saw j x m=some m:=by
 unfold dU;rw[hw];simp[hs]
theorem inp_new(hw:aK steps x=none)(hs:saw[j]? =some t)(hm:m x=none):dU steps st.there st.of saw j x m=some (setInp m x t):=by
 unfold dU;rw[hw];simp[hs,hm]
theorem inp_same(hw:aK steps x=none)(hs:saw[j]? =some t)(hm:m x=some t):dU steps st.there st.of saw j x m=some (setInp m x t):=by
 unfold dU;rw[hw];simp only[hs,hm,if_true];congr 1;funext y;unfold setInp;by_cases e:y=x
 ·subst e;rw[if_pos rfl,hm]
 rw[if_neg e]
theorem inp_other(hw:aK steps x=none)(hs:saw[j]? =some t)(hm:m x=some u)(e:t≠u):dU steps st.there st.of saw j x m=none:=by
 unfold dU;rw[hw];simp[hs,hm,e]
end
theorem zero_str(w:World):(zeroValue 9).run Tryz.prog w=.ok (.string ByteArray.empty) w:=aAN
noncomputable def vStr:ValC Tryz.prog 9 bA:=strVal Tryz.underlying9 zero_str
structure RecIs (w:World) (g bm n:Nat) (st:RSt) (D:List (Value×Dn)):Prop where
 arr:qB w g D
 len:D.length=n
 saws:∀y,y∈D->Strs w y.1 y.2.saw/\y.2.out.size<=140737488355328
 of:∀i,i<n->∃v,D[i]? =some (v,st.of i)
 map:∃nm,aX eQ vStr w bm nm st.inp
section
variable {w w':World} {g bm n:Nat} {st:RSt} {D:List (Value×Dn)}
theorem RecIs.later(h:RecIs w g bm n st D)(hb:Below w.heap.size w w'):RecIs w' g bm n st D:=
 ⟨h.arr.later hb,h.len,fun y hy=>⟨(h.saws y hy).1.later hb,(h.saws y hy).2⟩,h.of,by obtain⟨nm,hm⟩:=h.map;exact⟨nm,hm.later hb⟩⟩
end
structure RecFar (B:Nat) (Ld:List (Value×Dn)) (g bm:Nat) (D:List (Value×Dn)):Prop where
 arr:B<=g
 map:B<=bm
 mem:∀y,y∈D->y∈Ld\/y=(.slice none 0 0,jX)
theorem RecFar.saws{B:Nat}{Ld:List (Value×Dn)}{g bm:Nat}{D:List (Value×Dn)}{w:World}{v:Value}(h:RecFar B Ld g bm D)(hl:Dns w v Ld):∀y,y∈D->Strs w y.1 y.2.saw/\y.2.out.size<=140737488355328:=fun y hy=>by
 rcases h.mem y hy with hm|rfl
 ·rcases hl.cases with⟨rfl,-⟩|⟨b,o,c,-,-,-,-,-,hc⟩
  ·cases hm
  obtain⟨i,hi⟩:=List.getElem?_of_mem hm;exact⟨(hc i y hi).2.2.2.1,(hc i y hi).2.2.2.2⟩
 exact⟨⟨none,0,rfl,by simp[jX],aAQ,fun h=>absurd rfl h⟩,aAO⟩
abbrev recV(g bm n:Nat):Value:=.agg #[.slice (some ⟨g,0,none⟩) n n,.map (some bm)]
abbrev recNone:Value:=.agg #[.slice none 0 0,.map none]
def RdPost(n:Nat)(Ld:List (Value×Dn))(res:Option RSt)(w:World)(e:Ending)(w':World):Prop:=Below w.heap.size w w'/\match res with
 |none=>e=.returned (.tuple #[recNone,.bool false])
 |some st=>∃g bm D,e=.returned (.tuple #[recV g bm n,.bool true])/\RecIs w' g bm n st D/\RecFar w.heap.size Ld g bm D
def rdS(g:Nat)(k:Nat):Prop:=k=g\/k=g+1\/k=g+1+1+1
structure RdW (g n:Nat) (B:World) (st:RSt) (T:List Bool) (D:List (Value×Dn)) (nm:Nat) (m:bA->Option bA) (wr:World):Prop where
 off:Off (rdS g) B wr
 arr:qB wr g D
 len:D.length=n
 thr:ArrB wr (g+1+1+1) T
 tlen:T.length=n
 marks:∀i,i<n->T[i]? =some (st.there i)
 of:∀i,i<n->∃v,D[i]? =some (v,st.of i)
 map:aX eQ vStr wr (g+1) nm m
section
variable {g n nm:Nat} {B wr w':World} {st:RSt} {T:List Bool} {D:List (Value×Dn)} {m:bA->Option bA}
theorem RdW.later(h:RdW g n B st T D nm m wr)(hb:Below wr.heap.size wr w'):RdW g n B st T D nm m w':=
 ⟨h.off.trans (Ba hb),h.arr.later hb,h.len,h.thr.later hb,h.tlen,h.marks,h.of,h.map.later hb⟩
theorem RdW.rebase(h:RdW g n B st T D nm m wr):RdW g n wr st T D nm m wr:=⟨Off.refl _ _,h.arr,h.len,h.thr,h.tlen,h.marks,h.of,h.map⟩
theorem RdW.put{x t:bA}(h:RdW g n B st T D nm m wr)(hm:aX eQ vStr w' (g+1) (nm+1) (fun z=>if z=x then some t else m z))(hg:wr.grownBy w' (some (g+1))):RdW g n B st T D (nm+1) (setInp m x t) w':=by
 have ho:Off (rdS g) wr w':=Off.of_only (iJ hg) (.inr (.inl rfl));have sC:∀k,k<wr.heap.size->k≠g+1->w'.heap[k]? =wr.heap[k]? :=fun k hk hn=>hg.block k hk (by simpa using hn);exact⟨h.off.trans ho,(sC _ h.arr.lt aAM).trans h.arr,h.len,(sC _ h.thr.lt aAM).trans h.thr,h.tlen,h.marks,h.of,hm⟩
end
end Go.Proofs.YtacgopankhpnbaaGreatDoor
