/- Texts of this seat, joined: SliceB. -/
import Derived.Test.YtacgopankhpnbaaGreatDoorJRefusesTopP
/- Walks of package build: Slice. -/
namespace Go.Proofs.YtacgopankhpnbaaGreatDoor
open Go.RowKit

/-- The steps below k that are in. -/
def inTo (st : Nat → Bool) (k : Nat) : List Nat := (List.range k).filter st
theorem inTo_yes {st : Nat → Bool} {k : Nat} (h : st k = true) : inTo st (k + 1) = inTo st k ++ [k] := by
  unfold inTo; rw [List.range_succ, List.filter_append]; simp [h]
theorem inTo_no {st : Nat → Bool} {k : Nat} (h : st k = false) : inTo st (k + 1) = inTo st k := by
  unfold inTo; rw [List.range_succ, List.filter_append]; simp [h]
theorem inTo_len (st : Nat → Bool) (k : Nat) : (inTo st k).length ≤ k := by
  unfold inTo
  have := List.length_filter_le st (List.range k)
  simpa using this
abbrev sliceFn (pi pg pv : Nat) : Value := .func (.func 66) #[] #[.pointer (some ⟨pi, 0, none⟩), .pointer (some ⟨pg, 0, none⟩), .pointer (some ⟨pv, 0, none⟩)]
/-- The world in which Slice's visit begins; wg: the graph's box is there. -/
abbrev sliceWorld (wg : World) (pg : Nat) : World := ((wg.alloc (.map #[] 0)).alloc (.cells #[.map (some wg.heap.size)] 104)).alloc (.cells #[sliceFn (wg.heap.size + 1) pg (wg.heap.size + 1 + 1)] 107)
theorem Sl.first {r : Rcp} {L : List (Value × Stp)} {vi vs : Value} {bw bi pg : Nat} {wg : World} (h : Grf r L vi vs bw bi wg) (hg : wg.heap[pg]? = some (grfBox vi vs r.output bw bi)) :
    Sl r L vi vs bw bi wg.heap.size (wg.heap.size + 1) pg (wg.heap.size + 1 + 1) (sliceWorld wg pg) (fun _ => false) := by
  have B1 := below_alloc wg (.map #[] 0)
  have B2 := below_alloc (wg.alloc (.map #[] 0)) (.cells #[.map (some wg.heap.size)] 104)
  have B3 := below_alloc ((wg.alloc (.map #[] 0)).alloc (.cells #[.map (some wg.heap.size)] 104)) (.cells #[sliceFn (wg.heap.size + 1) pg (wg.heap.size + 1 + 1)] 107)
  have hbw : bw < wg.heap.size := by obtain ⟨nw, hw⟩ := h.wr; exact hw.lt
  refine ⟨?_, heap_up (below_trans (below_trans B1 B2) B3) hg, ?_, h.later (below_trans (below_trans B1 B2) B3), by omega, (DoneN.first wg L.length (by have := h.few; omega)).later (below_trans B2 B3)⟩
  · have := heap_up B3 (alloc_self (wg.alloc (.map #[] 0)) (.cells #[.map (some wg.heap.size)] 104))
    simpa only [World.size_alloc] using this
  · have := alloc_self ((wg.alloc (.map #[] 0)).alloc (.cells #[.map (some wg.heap.size)] 104)) (.cells #[sliceFn (wg.heap.size + 1) pg (wg.heap.size + 1 + 1)] 107)
    simpa only [World.size_alloc] using this

set_option maxRecDepth 100000 in
set_option maxHeartbeats 8000000 in
theorem slice_good (r : Rcp) (L : List (Value × Stp)) (vi vs : Value) (w : World) (h : RcpIn r L vi vs w) (he : inspectE r = 0) :
    Calls Tryz.prog 30 #[rcpV vi vs r.output] w (NeedsPost (sliceL r) w) := by
  have HI := Lib.hid (h.later (below_alloc w (rcpBox vi vs r.output))).inspect
  have HE := Lib.hid (show sliceL r = inTo (inSlice r) L.length by unfold sliceL sliceAll inTo; rw [if_neg (by simp [he]), h.len])
  rw [HE.out]
  have HR := Lib.hid (inspectE_ok he)
  have HRcp := Lib.hid h
  have hlen := h.len
  have hL60 : L.length ≤ 60 := by have := HR.out.few; omega
  have HSrc := Lib.hid (show ∀ y, y ∈ L → y.2.src.length ≤ 1000000 from fun y hy => by
    have := HR.out.steps y.2 (by rw [← h.map]; exact List.mem_map.2 ⟨y, hy, rfl⟩)
    have := (stepRight_parts this).2.2.1
    omega)
  have HOut := Lib.hid h.out
  obtain ⟨i0, hi0, hz0, hz1, hz2⟩ := info_parts intInfo
  have hmm := @run_makeMap Tryz.prog
  have eg := enters_slice1
  obtain ⟨ai, ci, av, cv, rfl, rfl⟩ := h.slices
  have H0 := Lib.hid he
  have HLen := Lib.hid hlen
  clear h he hlen HE
  go_enter Tryz.func30, Tryz.ntmps30
  go_wp2_with fail
  refine HI.out.mono ?_
  rintro e w2 ⟨rfl, hb, hm⟩
  obtain ⟨nw, ni, hmw, -⟩ := hm H0.out
  have B4 := below_alloc w2 (grfBox (.slice ai r.inputs.length ci) (.slice av L.length cv) r.output (w.heap.size + 1 + 1 + 1) (w.heap.size + 1 + 1 + 1 + 1))
  have HB := Lib.hid (below_trans (below_trans (below_alloc w _) hb) B4)
  have HMW := Lib.hid (show MapIs kStr vInt (w2.alloc (grfBox (.slice ai r.inputs.length ci) (.slice av L.length cv) r.output (w.heap.size + 1 + 1 + 1) (w.heap.size + 1 + 1 + 1 + 1))) (w.heap.size + 1 + 1 + 1) nw (wMap r.steps) by
    have := hmw.later B4; simpa only [World.size_alloc] using this)
  have HG := Lib.hid (show Grf r L (.slice ai r.inputs.length ci) (.slice av L.length cv) (w.heap.size + 1 + 1 + 1) (w.heap.size + 1 + 1 + 1 + 1) (w2.alloc (grfBox (.slice ai r.inputs.length ci) (.slice av L.length cv) r.output (w.heap.size + 1 + 1 + 1) (w.heap.size + 1 + 1 + 1 + 1))) from
    ⟨HRcp.out.later HB.out, ⟨nw, HMW.out⟩, hL60, HSrc.out⟩)
  have HRb := Lib.hid (heap_up (below_trans hb B4) (alloc_self w (rcpBox (.slice ai r.inputs.length ci) (.slice av L.length cv) r.output)))
  have HSl := Lib.hid (Sl.first (pg := w2.heap.size) HG.out (alloc_self w2 _))
  have hsz : (w2.alloc (grfBox (.slice ai r.inputs.length ci) (.slice av L.length cv) r.output (w.heap.size + 1 + 1 + 1) (w.heap.size + 1 + 1 + 1 + 1))).heap.size = w2.heap.size + 1 := World.size_alloc _ _
  have HB1 := below_alloc (w2.alloc (grfBox (.slice ai r.inputs.length ci) (.slice av L.length cv) r.output (w.heap.size + 1 + 1 + 1) (w.heap.size + 1 + 1 + 1 + 1))) (.map #[] 0)
  have HBs := Lib.hid (below_trans (below_trans HB1 (below_alloc _ (.cells #[.map (some (w2.heap.size + 1))] 104))) (below_alloc _ (.cells #[sliceFn (w2.heap.size + 1 + 1) w2.heap.size (w2.heap.size + 1 + 1 + 1)] 107)))
  simp only [sliceWorld, World.size_alloc] at HSl
  rw [H0.out]
  have hlk := (HMW.out.later HBs.out).look2 Tryz.underlying98 (x := r.output) (Nat.le_trans HOut.out maxLen_val)
  have hlk' : (Instr.lookup 98 (.map (some (w.heap.size + 1 + 1 + 1))) (.string r.output) true).run Tryz.prog _ = .ok (.tuple #[.int .i64 ((wMap r.steps r.output).getD 0), .bool (wMap r.steps r.output).isSome]) _ := hlk
  obtain ⟨r0, r1, r2⟩ := box3 (heap_up HBs.out HRb.out)
  have s0 := box1 HSl.out.box
  have s1 := box1 HSl.out.fn
  have HVis := Lib.hid (fun i (hi : i < L.length) => slice1_any r L _ _ _ _ _ _ _ _ HLen.out (r.steps.length + 1) _ _ i HSl.out hi (by rw [leftN_all]; have := HLen.out; omega))
  have HBw := Lib.hid (below_trans HB.out HBs.out)
  have hbm := HBs.out.size
  rw [hsz] at hbm
  have HSz2 : Hid (w.heap.size ≤ w2.heap.size + 1) := Lib.hid (by have := HB.out.size; rw [hsz] at this; exact this)
  clear hb hm hmw HI B4 HB1 hlk hsz
  have HRs := Lib.hid (heap_up HBs.out HRb.out)
  cases hw : writerOf r.steps r.output with
  | none =>
    have HIn := Lib.hid (show inSlice r = fun _ => false by unfold inSlice; rw [hw])
    have e1 : wMap r.steps r.output = none := by unfold wMap; rw [hw]; rfl
    rw [e1] at hlk'
    simp only [Option.getD_none, Option.isSome_none] at hlk'
    clear e1 hw HVis
    go_wp2_with fail
    clear hlk'
    generalize (fun _ : Nat => false) = st at HSl HIn
    clear r0 r2 s0 s1 HMW HG HRb HB HBs hbm
    generalize (((w2.alloc (grfBox (.slice ai r.inputs.length ci) (.slice av L.length cv) r.output (w.heap.size + 1 + 1 + 1) (w.heap.size + 1 + 1 + 1 + 1))).alloc (.map #[] 0)).alloc (.cells #[.map (some (w2.heap.size + 1))] 104)).alloc (.cells #[sliceFn (w2.heap.size + 1 + 1) w2.heap.size (w2.heap.size + 1 + 1 + 1)] 107) = W at HSl HBw HRs r1 ⊢
    go_loopw [9, 35] (fun v i wr => ∃ k : Nat, k ≤ L.length ∧ i = .int .i64 k ∧ Hid (Gath W (inTo st k) v wr)) (fun _ i _ => L.length - (intOf i).toNat)
    case atStart => exact ⟨0, Nat.zero_le _, rfl, Lib.hid (Gath.first W)⟩
    case round =>
      obtain ⟨k, hk, rfl, HA⟩ := hrel
      rename World => wr
      rename Value => vo
      by_cases hlt : k < L.length
      · have hbA := HA.out.below
        have d0 := box1 (heap_up hbA HSl.out.box)
        have hlk := (HSl.out.map.is.later hbA).look (i := k) (by omega)
        have hin := inTo_len st k
        have hbz : W.heap.size ≤ wr.heap.size := hbA.size
        have HNy := Lib.hid (fun h => inTo_yes (st := st) (k := k) h)
        have HNn := Lib.hid (fun h => inTo_no (st := st) (k := k) h)
        cases hq : st k with
        | false =>
          rw [hq] at hlk
          replace HNn := Lib.hid (HNn.out hq)
          clear hq HNy
          go_wp2_with fail
          go_roundw
          case rel => exact ⟨k + 1, by omega, by go_num, Lib.hid (by rw [HNn.out]; exact HA.out)⟩
          case measure => simp [intOf]; omega
        | true =>
          rw [hq] at hlk
          replace HNy := Lib.hid (HNy.out hq)
          clear hq HNn
          go_wp2_with (at_builtin; refine wpList_append_own _ rfl _ _ 26 rfl W.heap.size 3 i0 (.int .i64 0) 1 8 Tryz.underlying26 hi0 hz0 hz1 hz2 rfl (by decide) _ _ _ rfl (HA.out.own.alloc _) ⟨wr.heap.size, 0, none⟩ 1 1 [.int .i64 k] rfl rfl (cell_one_new _ _ _) (by simp [Value.oneCell']) (by unfold maxLen; omega) (by omega) (by simp; omega) ?_)
          intro v' w4 hown hgrow _
          have HNew := Lib.hid (HA.out.added (by simpa [natInts] using hown) hgrow)
          clear hown hgrow
          go_wp2_with fail
          go_roundw
          case rel => exact ⟨k + 1, by omega, by go_num, Lib.hid (by rw [HNy.out]; exact HNew.out)⟩
          case measure => simp [intOf]; omega
      · obtain rfl : k = L.length := by omega
        go_wp2_with fail
        go_ret
        have HPo := HA.out.post HBw.out
        rw [← HIn.out] at HPo
        exact HPo
  | some i =>
    have HIn := Lib.hid (show inSlice r = grow (needsAt r.steps) (r.steps.length + 1) (fun _ => false) i by unfold inSlice; rw [hw])
    have e1 : wMap r.steps r.output = some (i : Int) := by unfold wMap; rw [hw]; rfl
    have hi : i < L.length := by rw [← HLen.out]; exact int_wf hw
    rw [e1] at hlk'
    simp only [Option.getD_some, Option.isSome_some] at hlk'
    clear e1 hw
    go_wp2_with fail
    refine (HVis.out i hi).mono ?_
    rintro e W ⟨rfl, h3, ho3⟩
    have HRs3 := Lib.hid (HSl.out.map.isMap.box ho3 HRs.out)
    have r1' := (box3 HRs3.out).2.1
    have HBw3 := Lib.hid (ho3.below HBw.out HSz2.out HBw.out.size)
    have HSl3 := Lib.hid h3
    clear h3 ho3 hlk' r0 r1 r2 s0 s1 HMW HG HRb HB HBs hbm HSl HBw HRs hi HVis
    have HSl := HSl3
    have HBw := HBw3
    clear HSl3 HBw3
    go_wp2_with fail
    generalize grow (needsAt r.steps) (r.steps.length + 1) (fun _ => false) i = st at HSl HIn
    go_loopw [9, 35] (fun v i wr => ∃ k : Nat, k ≤ L.length ∧ i = .int .i64 k ∧ Hid (Gath W (inTo st k) v wr)) (fun _ i _ => L.length - (intOf i).toNat)
    case atStart => exact ⟨0, Nat.zero_le _, rfl, Lib.hid (Gath.first W)⟩
    case round =>
      obtain ⟨k, hk, rfl, HA⟩ := hrel
      rename World => wr
      rename Value => vo
      by_cases hlt : k < L.length
      · have hbA := HA.out.below
        have d0 := box1 (heap_up hbA HSl.out.box)
        have hlk := (HSl.out.map.is.later hbA).look (i := k) (by omega)
        have hin := inTo_len st k
        have hbz : W.heap.size ≤ wr.heap.size := hbA.size
        have HNy := Lib.hid (fun h => inTo_yes (st := st) (k := k) h)
        have HNn := Lib.hid (fun h => inTo_no (st := st) (k := k) h)
        cases hq : st k with
        | false =>
          rw [hq] at hlk
          replace HNn := Lib.hid (HNn.out hq)
          clear hq HNy
          go_wp2_with fail
          go_roundw
          case rel => exact ⟨k + 1, by omega, by go_num, Lib.hid (by rw [HNn.out]; exact HA.out)⟩
          case measure => simp [intOf]; omega
        | true =>
          rw [hq] at hlk
          replace HNy := Lib.hid (HNy.out hq)
          clear hq HNn
          go_wp2_with (at_builtin; refine wpList_append_own _ rfl _ _ 26 rfl W.heap.size 3 i0 (.int .i64 0) 1 8 Tryz.underlying26 hi0 hz0 hz1 hz2 rfl (by decide) _ _ _ rfl (HA.out.own.alloc _) ⟨wr.heap.size, 0, none⟩ 1 1 [.int .i64 k] rfl rfl (cell_one_new _ _ _) (by simp [Value.oneCell']) (by unfold maxLen; omega) (by omega) (by simp; omega) ?_)
          intro v' w4 hown hgrow _
          have HNew := Lib.hid (HA.out.added (by simpa [natInts] using hown) hgrow)
          clear hown hgrow
          go_wp2_with fail
          go_roundw
          case rel => exact ⟨k + 1, by omega, by go_num, Lib.hid (by rw [HNy.out]; exact HNew.out)⟩
          case measure => simp [intOf]; omega
      · obtain rfl : k = L.length := by omega
        go_wp2_with fail
        go_ret
        have HPo := HA.out.post HBw.out
        rw [← HIn.out] at HPo
        exact HPo

theorem slice_any (r : Rcp) (L : List (Value × Stp)) (vi vs : Value) (w : World) (h : RcpIn r L vi vs w) : Calls Tryz.prog 30 #[rcpV vi vs r.output] w (NeedsPost (sliceL r) w) := by
  by_cases he : inspectE r = 0
  · exact slice_good r L vi vs w h he
  · refine (slice_bad r L vi vs w h he).mono ?_
    rintro e w' ⟨rfl, hb⟩
    rw [show sliceL r = [] by unfold sliceL; rw [if_pos he]]
    exact ⟨_, rfl, ⟨none, 0, rfl, by simp, by simp, fun h => absurd rfl h⟩, fun a n c e => by (cases e), hb⟩
theorem order_any (r : Rcp) (L : List (Value × Stp)) (vi vs : Value) (w : World) (h : RcpIn r L vi vs w) : Calls Tryz.prog 33 #[rcpV vi vs r.output] w (NeedsPost (orderL r) w) := by
  by_cases he : inspectE r = 0
  · exact order_good r L vi vs w h he
  · refine (order_bad r L vi vs w h he).mono ?_
    rintro e w' ⟨rfl, hb⟩
    rw [show orderL r = [] by unfold orderL; rw [if_pos he]]
    exact ⟨_, rfl, ⟨none, 0, rfl, by simp, by simp, fun h => absurd rfl h⟩, fun a n c e => by (cases e), hb⟩
end Go.Proofs.YtacgopankhpnbaaGreatDoor
