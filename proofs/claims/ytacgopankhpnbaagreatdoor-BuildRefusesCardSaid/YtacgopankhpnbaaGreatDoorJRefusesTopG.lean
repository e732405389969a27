/- Texts of this seat, joined: SliceA, SliceB, SortLaw, SmallSpec, LawA, LawB, LawC, PureB, BuildEx, LawD, LawE, LawF, LawG, LawI. -/
import Derived.Test.YtacgopankhpnbaaGreatDoorJRefusesTopF
import Derived.Laws.EntriesVeiled
import Derived.Test.YtacgopankhpnbaaGreatDoorJRefusesTopC
import Derived.KernelRfl
import Derived.Test.YtacgopankhpnbaaGreatDoorJRefusesTopE
import Derived.WalkLawsBesides
import Derived.Sort.Walk0
import Derived.Deep.AppendLies
/- Walks of package build: Slice's visit. -/
namespace Go.Proofs.YtacgopankhpnbaaGreatDoor
open Go.RowKit

theorem also_true {st : Nat → Bool} {i j : Nat} (h : st j = true) : also st i j = true := by unfold also; split <;> simp [h]
theorem foldl_true {g : (Nat → Bool) → Nat → (Nat → Bool)} (hg : ∀ st i j, st j = true → g st i j = true) : ∀ (l : List Nat) (st : Nat → Bool) (j : Nat), st j = true → l.foldl g st j = true
  | [], _, _, h => h
  | a :: l, st, j, h => foldl_true hg l (g st a) j (hg st a j h)
theorem grow_true (needs : Nat → List Nat) : ∀ (f : Nat) (st : Nat → Bool) (i j : Nat), st j = true → grow needs f st i j = true
  | 0, _, _, _, h => h
  | f + 1, st, i, j, h => by
    rw [grow]
    split
    · exact h
    · exact foldl_true (grow_true needs f) _ _ _ (also_true h)
theorem leftN_mono {a b : Nat → Bool} (h : ∀ j, a j = true → b j = true) : ∀ n, leftN b n ≤ leftN a n
  | 0 => Nat.le_refl _
  | n + 1 => by
    have := leftN_mono h n
    rw [leftN, leftN]
    cases ha : a n with
    | true => rw [h n ha]; simp; omega
    | false => simp only [Bool.false_eq_true, if_false]; split <;> omega
theorem foldl_snoc {α : Type} (g : α → Nat → α) (l : List Nat) (st : α) {k x : Nat} (hx : l[k]? = some x) : (l.take (k + 1)).foldl g st = g ((l.take k).foldl g st) x := by
  rw [List.take_add_one, hx]; simp

/-- What Slice's visit keeps. -/
structure Sl (r : Rcp) (L : List (Value × Stp)) (vi vs : Value) (bw bi bm pi pg pv : Nat) (w : World) (st : Nat → Bool) : Prop where
  box : w.heap[pi]? = some (.cells #[.map (some bm)] 104)
  gr : w.heap[pg]? = some (grfBox vi vs r.output bw bi)
  fn : w.heap[pv]? = some (.cells #[.func (.func 66) #[] #[.pointer (some ⟨pi, 0, none⟩), .pointer (some ⟨pg, 0, none⟩), .pointer (some ⟨pv, 0, none⟩)]] 107)
  grf : Grf r L vi vs bw bi w
  ne : bw ≠ bm
  map : DoneN w bm st L.length
section
variable {r : Rcp} {L : List (Value × Stp)} {vi vs : Value} {bw bi bm pi pg pv : Nat} {w w' : World} {st : Nat → Bool}
theorem Sl.later (h : Sl r L vi vs bw bi bm pi pg pv w st) (hb : Below w.heap.size w w') : Sl r L vi vs bw bi bm pi pg pv w' st :=
  ⟨heap_up hb h.box, heap_up hb h.gr, heap_up hb h.fn, h.grf.later hb, h.ne, h.map.later hb⟩
theorem Sl.set (h : Sl r L vi vs bw bi bm pi pg pv w st) {i : Nat} (hi : i < L.length) (hd : st i = false) :
    ∃ w', (Instr.mapUpdate 104 (.map (some bm)) (.int .i64 i) (.bool true)).run Tryz.prog w = .ok () w' ∧ Sl r L vi vs bw bi bm pi pg pv w' (also st i) ∧ Only bm w w' := by
  obtain ⟨w', h1, h2, h3⟩ := h.map.set hi hd (by have := h.grf.few; omega)
  have ho := only_grown h3
  have hM := h.map.isMap
  exact ⟨w', h1, ⟨hM.box ho h.box, hM.box ho h.gr, hM.box ho h.fn, h.grf.onlyMap hM ho h.ne, h.ne, h2⟩, ho⟩
/-- What visit comes to. -/
def SlPost (r : Rcp) (L : List (Value × Stp)) (vi vs : Value) (bw bi bm pi pg pv : Nat) (w : World) (st : Nat → Bool) (e : Ending) (w' : World) : Prop :=
  e = .returned (.tuple #[]) ∧ Sl r L vi vs bw bi bm pi pg pv w' st ∧ Only bm w w'
end
theorem enters_slice1 : ∀ args w, (callFunc 66 args).run Tryz.prog w = .ok (.enter 66 args) w := enters_of Tryz.func66 (by kernel_rfl) rfl

set_option maxRecDepth 100000 in
set_option maxHeartbeats 4000000 in
theorem slice1_any (r : Rcp) (L : List (Value × Stp)) (vi vs : Value) (bw bi bm pi pg pv : Nat) (hlen : r.steps.length = L.length) : ∀ (f : Nat) (w : World) (st : Nat → Bool) (i : Nat), Sl r L vi vs bw bi bm pi pg pv w st → i < L.length → leftN st L.length < f →
    Calls Tryz.prog 66 #[.int .i64 i, .pointer (some ⟨pi, 0, none⟩), .pointer (some ⟨pg, 0, none⟩), .pointer (some ⟨pv, 0, none⟩)] w (SlPost r L vi vs bw bi bm pi pg pv w (grow (needsAt r.steps) f st i))
  | 0, w, st, i, _, _, h => absurd h (by omega)
  | f + 1, w, st, i, h, hi, hf => by
    have IH := Lib.hid (slice1_any r L vi vs bw bi bm pi pg pv hlen f)
    have hl := h.map.is.look (i := i) (by have := h.grf.few; omega)
    have c0 := box1 h.box
    have eg := enters_slice1
    cases hst : st i with
    | true =>
      have HG := Lib.hid (show grow (needsAt r.steps) (f + 1) st i = st by rw [grow, if_pos hst])
      have HS := Lib.hid h
      rw [hst] at hl
      clear h hst IH hf
      go_enter Tryz.func66, Tryz.ntmps66
      go_wp2_with fail
      go_end0
      exact ⟨rfl, by rw [HG.out]; exact HS.out, Only.refl _ _⟩
    | false =>
      have HG := Lib.hid (show grow (needsAt r.steps) (f + 1) st i = (needsAt r.steps i).foldl (grow (needsAt r.steps) f) (also st i) by rw [grow, if_neg (by simp [hst])])
      obtain ⟨w1, hrun, h1, ho1⟩ := h.set hi hst
      have hz := leftN_also hst L.length hi
      have hz1 : leftN (also st i) L.length < f := by omega
      have HZ := Lib.hid hz1
      have HS1 := Lib.hid h1
      have HO1 := Lib.hid ho1
      have HN := Lib.hid (h1.grf.needs hi)
      obtain ⟨g0, g1, g2, g3, g4⟩ := box5 h1.gr
      rw [hst] at hl
      rw [HG.out]
      have HLt := Lib.hid (fun j (hj : j ∈ needsAt r.steps i) => show j < L.length by rw [← hlen]; exact needsAt_lt hj)
      generalize needsAt r.steps i = l at HN HLt ⊢
      have HNd := Lib.hid hlen
      clear h hst hz hz1 h1 ho1 hlen hf HG
      go_enter Tryz.func66, Tryz.ntmps66
      go_wp2_with fail
      refine HN.out.mono ?_
      rintro e w2 ⟨v, rfl, hI, -, hb⟩
      have HS2 := Lib.hid (HS1.out.later hb)
      have HO2 := Lib.hid (HO1.out.trans (Only.of_below hb))
      have HI := Lib.hid hI
      obtain ⟨a, c, hv⟩ : ∃ a c, v = .slice a l.length c := by
        obtain ⟨a, c, hv, -⟩ := hI
        exact ⟨a, c, by rw [hv]; simp⟩
      have hll : l.length ≤ 9223372036854775807 := by
        obtain ⟨a, c, hv, h1, h2, -⟩ := hI
        simp at h1; omega
      subst hv
      clear hI hb g0 g1 g2 g3 g4 c0 hl hrun HS1
      go_wp2_with fail
      go_loopw [17] (fun idx wr => ∃ k : Nat, k ≤ l.length ∧ idx = .int .i64 k ∧ Hid (Sl r L vi vs bw bi bm pi pg pv wr ((l.take k).foldl (grow (needsAt r.steps) f) (also st i))) ∧ Hid (Only bm w2 wr)) (fun idx _ => l.length - (intOf idx).toNat)
      case atStart => exact ⟨0, Nat.zero_le _, rfl, HS2, Lib.hid (Only.refl _ _)⟩
      case round =>
        obtain ⟨k, hk, rfl, HS, HO⟩ := hrel
        rename World => wr
        by_cases hlt : k < l.length
        · obtain ⟨x, hx, hxm⟩ := getElem?_of_lt hlt
          rcases (HI.out.onlyMap HS2.out.map.isMap HO.out).cases with ⟨e, -⟩ | ⟨b, o, cc, e, -, -, -, -, hc⟩
          · rw [natInts, List.map_eq_nil_iff] at e; subst e; simp at hlt
          obtain ⟨rfl, rfl⟩ : a = some ⟨b, o, none⟩ ∧ c = cc := by injection e with e1 e2 e3; exact ⟨e1, e3⟩
          have cx : wr.cell? ⟨b, o + k, none⟩ = some (.int .i64 x) := hc k x (by simp [natInts, hx])
          have cv := box1 HS.out.fn
          have hlx : leftN ((l.take k).foldl (grow (needsAt r.steps) f) (also st i)) L.length < f := Nat.lt_of_le_of_lt (leftN_mono (fun j hj => foldl_true (grow_true _ _) _ _ _ hj) _) HZ.out
          have HC := Lib.hid (IH.out wr _ x HS.out (HLt.out x hxm) hlx)
          have HSn := Lib.hid (foldl_snoc (grow (needsAt r.steps) f) l (also st i) hx)
          rw [← HSn.out] at HC
          clear hc e hx hxm hlx
          go_wp2_with (go_at_fn 66; (with_reducible refine HC.out.mono ?_); rintro e w3 ⟨rfl, h3, ho3⟩)
          go_roundw
          case rel => exact ⟨k + 1, by omega, by go_num, Lib.hid h3, Lib.hid (HO.out.trans ho3)⟩
          case measure => simp [intOf]; omega
        · obtain rfl : k = l.length := by omega
          rw [List.take_length] at HS
          go_wp2_with fail
          go_end0
          exact ⟨rfl, HS.out, HO2.out.trans HO.out⟩
end Go.Proofs.YtacgopankhpnbaaGreatDoor
/- Walks of package build: Slice. -/
namespace Go.Proofs.YtacgopankhpnbaaGreatDoor
open Go.RowKit

/-- The steps below k that are in. -/
def inTo (st : Nat → Bool) (k : Nat) : List Nat := (List.range k).filter st
theorem inTo_yes {st : Nat → Bool} {k : Nat} (h : st k = true) : inTo st (k + 1) = inTo st k ++ [k] := by
  unfold inTo; rw [List.range_succ, List.filter_append]; simp [h]
theorem inTo_no {st : Nat → Bool} {k : Nat} (h : st k = false) : inTo st (k + 1) = inTo st k := by
  unfold inTo; rw [List.range_succ, List.filter_append]; simp [h]
theorem inTo_len (st : Nat → Bool) (k : Nat) : (inTo st k).length ≤ k := by
  unfold inTo
  have := List.length_filter_le st (List.range k)
  simpa using this
abbrev sliceFn (pi pg pv : Nat) : Value := .func (.func 66) #[] #[.pointer (some ⟨pi, 0, none⟩), .pointer (some ⟨pg, 0, none⟩), .pointer (some ⟨pv, 0, none⟩)]
/-- The world in which Slice's visit begins; wg: the graph's box is there. -/
abbrev sliceWorld (wg : World) (pg : Nat) : World := ((wg.alloc (.map #[] 0)).alloc (.cells #[.map (some wg.heap.size)] 104)).alloc (.cells #[sliceFn (wg.heap.size + 1) pg (wg.heap.size + 1 + 1)] 107)
theorem Sl.first {r : Rcp} {L : List (Value × Stp)} {vi vs : Value} {bw bi pg : Nat} {wg : World} (h : Grf r L vi vs bw bi wg) (hg : wg.heap[pg]? = some (grfBox vi vs r.output bw bi)) :
    Sl r L vi vs bw bi wg.heap.size (wg.heap.size + 1) pg (wg.heap.size + 1 + 1) (sliceWorld wg pg) (fun _ => false) := by
  have B1 := below_alloc wg (.map #[] 0)
  have B2 := below_alloc (wg.alloc (.map #[] 0)) (.cells #[.map (some wg.heap.size)] 104)
  have B3 := below_alloc ((wg.alloc (.map #[] 0)).alloc (.cells #[.map (some wg.heap.size)] 104)) (.cells #[sliceFn (wg.heap.size + 1) pg (wg.heap.size + 1 + 1)] 107)
  have hbw : bw < wg.heap.size := by obtain ⟨nw, hw⟩ := h.wr; exact hw.lt
  refine ⟨?_, heap_up (below_trans (below_trans B1 B2) B3) hg, ?_, h.later (below_trans (below_trans B1 B2) B3), by omega, (DoneN.first wg L.length (by have := h.few; omega)).later (below_trans B2 B3)⟩
  · have := heap_up B3 (alloc_self (wg.alloc (.map #[] 0)) (.cells #[.map (some wg.heap.size)] 104))
    simpa only [World.size_alloc] using this
  · have := alloc_self ((wg.alloc (.map #[] 0)).alloc (.cells #[.map (some wg.heap.size)] 104)) (.cells #[sliceFn (wg.heap.size + 1) pg (wg.heap.size + 1 + 1)] 107)
    simpa only [World.size_alloc] using this

set_option maxRecDepth 100000 in
set_option maxHeartbeats 8000000 in
theorem slice_good (r : Rcp) (L : List (Value × Stp)) (vi vs : Value) (w : World) (h : RcpIn r L vi vs w) (he : inspectE r = 0) :
    Calls Tryz.prog 30 #[rcpV vi vs r.output] w (NeedsPost (sliceL r) w) := by
  have HI := Lib.hid (h.later (below_alloc w (rcpBox vi vs r.output))).inspect
  have HE := Lib.hid (show sliceL r = inTo (inSlice r) L.length by unfold sliceL sliceAll inTo; rw [if_neg (by simp [he]), h.len])
  rw [HE.out]
  have HR := Lib.hid (inspectE_ok he)
  have HRcp := Lib.hid h
  have hlen := h.len
  have hL60 : L.length ≤ 60 := by have := HR.out.few; omega
  have HSrc := Lib.hid (show ∀ y, y ∈ L → y.2.src.length ≤ 1000000 from fun y hy => by
    have := HR.out.steps y.2 (by rw [← h.map]; exact List.mem_map.2 ⟨y, hy, rfl⟩)
    have := (stepRight_parts this).2.2.1
    omega)
  have HOut := Lib.hid h.out
  obtain ⟨i0, hi0, hz0, hz1, hz2⟩ := info_parts intInfo
  have hmm := @run_makeMap Tryz.prog
  have eg := enters_slice1
  obtain ⟨ai, ci, av, cv, rfl, rfl⟩ := h.slices
  have H0 := Lib.hid he
  have HLen := Lib.hid hlen
  clear h he hlen HE
  go_enter Tryz.func30, Tryz.ntmps30
  go_wp2_with fail
  refine HI.out.mono ?_
  rintro e w2 ⟨rfl, hb, hm⟩
  obtain ⟨nw, ni, hmw, -⟩ := hm H0.out
  have B4 := below_alloc w2 (grfBox (.slice ai r.inputs.length ci) (.slice av L.length cv) r.output (w.heap.size + 1 + 1 + 1) (w.heap.size + 1 + 1 + 1 + 1))
  have HB := Lib.hid (below_trans (below_trans (below_alloc w _) hb) B4)
  have HMW := Lib.hid (show MapIs kStr vInt (w2.alloc (grfBox (.slice ai r.inputs.length ci) (.slice av L.length cv) r.output (w.heap.size + 1 + 1 + 1) (w.heap.size + 1 + 1 + 1 + 1))) (w.heap.size + 1 + 1 + 1) nw (wMap r.steps) by
    have := hmw.later B4; simpa only [World.size_alloc] using this)
  have HG := Lib.hid (show Grf r L (.slice ai r.inputs.length ci) (.slice av L.length cv) (w.heap.size + 1 + 1 + 1) (w.heap.size + 1 + 1 + 1 + 1) (w2.alloc (grfBox (.slice ai r.inputs.length ci) (.slice av L.length cv) r.output (w.heap.size + 1 + 1 + 1) (w.heap.size + 1 + 1 + 1 + 1))) from
    ⟨HRcp.out.later HB.out, ⟨nw, HMW.out⟩, hL60, HSrc.out⟩)
  have HRb := Lib.hid (heap_up (below_trans hb B4) (alloc_self w (rcpBox (.slice ai r.inputs.length ci) (.slice av L.length cv) r.output)))
  have HSl := Lib.hid (Sl.first (pg := w2.heap.size) HG.out (alloc_self w2 _))
  have hsz : (w2.alloc (grfBox (.slice ai r.inputs.length ci) (.slice av L.length cv) r.output (w.heap.size + 1 + 1 + 1) (w.heap.size + 1 + 1 + 1 + 1))).heap.size = w2.heap.size + 1 := World.size_alloc _ _
  have HB1 := below_alloc (w2.alloc (grfBox (.slice ai r.inputs.length ci) (.slice av L.length cv) r.output (w.heap.size + 1 + 1 + 1) (w.heap.size + 1 + 1 + 1 + 1))) (.map #[] 0)
  have HBs := Lib.hid (below_trans (below_trans HB1 (below_alloc _ (.cells #[.map (some (w2.heap.size + 1))] 104))) (below_alloc _ (.cells #[sliceFn (w2.heap.size + 1 + 1) w2.heap.size (w2.heap.size + 1 + 1 + 1)] 107)))
  simp only [sliceWorld, World.size_alloc] at HSl
  rw [H0.out]
  have hlk := (HMW.out.later HBs.out).look2 Tryz.underlying98 (x := r.output) (Nat.le_trans HOut.out maxLen_val)
  have hlk' : (Instr.lookup 98 (.map (some (w.heap.size + 1 + 1 + 1))) (.string r.output) true).run Tryz.prog _ = .ok (.tuple #[.int .i64 ((wMap r.steps r.output).getD 0), .bool (wMap r.steps r.output).isSome]) _ := hlk
  obtain ⟨r0, r1, r2⟩ := box3 (heap_up HBs.out HRb.out)
  have s0 := box1 HSl.out.box
  have s1 := box1 HSl.out.fn
  have HVis := Lib.hid (fun i (hi : i < L.length) => slice1_any r L _ _ _ _ _ _ _ _ HLen.out (r.steps.length + 1) _ _ i HSl.out hi (by rw [leftN_all]; have := HLen.out; omega))
  have HBw := Lib.hid (below_trans HB.out HBs.out)
  have hbm := HBs.out.size
  rw [hsz] at hbm
  have HSz2 : Hid (w.heap.size ≤ w2.heap.size + 1) := Lib.hid (by have := HB.out.size; rw [hsz] at this; exact this)
  clear hb hm hmw HI B4 HB1 hlk hsz
  have HRs := Lib.hid (heap_up HBs.out HRb.out)
  cases hw : writerOf r.steps r.output with
  | none =>
    have HIn := Lib.hid (show inSlice r = fun _ => false by unfold inSlice; rw [hw])
    have e1 : wMap r.steps r.output = none := by unfold wMap; rw [hw]; rfl
    rw [e1] at hlk'
    simp only [Option.getD_none, Option.isSome_none] at hlk'
    clear e1 hw HVis
    go_wp2_with fail
    clear hlk'
    generalize (fun _ : Nat => false) = st at HSl HIn
    clear r0 r2 s0 s1 HMW HG HRb HB HBs hbm
    generalize (((w2.alloc (grfBox (.slice ai r.inputs.length ci) (.slice av L.length cv) r.output (w.heap.size + 1 + 1 + 1) (w.heap.size + 1 + 1 + 1 + 1))).alloc (.map #[] 0)).alloc (.cells #[.map (some (w2.heap.size + 1))] 104)).alloc (.cells #[sliceFn (w2.heap.size + 1 + 1) w2.heap.size (w2.heap.size + 1 + 1 + 1)] 107) = W at HSl HBw HRs r1 ⊢
    go_loopw [9, 35] (fun v i wr => ∃ k : Nat, k ≤ L.length ∧ i = .int .i64 k ∧ Hid (Gath W (inTo st k) v wr)) (fun _ i _ => L.length - (intOf i).toNat)
    case atStart => exact ⟨0, Nat.zero_le _, rfl, Lib.hid (Gath.first W)⟩
    case round =>
      obtain ⟨k, hk, rfl, HA⟩ := hrel
      rename World => wr
      rename Value => vo
      by_cases hlt : k < L.length
      · have hbA := HA.out.below
        have d0 := box1 (heap_up hbA HSl.out.box)
        have hlk := (HSl.out.map.is.later hbA).look (i := k) (by omega)
        have hin := inTo_len st k
        have hbz : W.heap.size ≤ wr.heap.size := hbA.size
        have HNy := Lib.hid (fun h => inTo_yes (st := st) (k := k) h)
        have HNn := Lib.hid (fun h => inTo_no (st := st) (k := k) h)
        cases hq : st k with
        | false =>
          rw [hq] at hlk
          replace HNn := Lib.hid (HNn.out hq)
          clear hq HNy
          go_wp2_with fail
          go_roundw
          case rel => exact ⟨k + 1, by omega, by go_num, Lib.hid (by rw [HNn.out]; exact HA.out)⟩
          case measure => simp [intOf]; omega
        | true =>
          rw [hq] at hlk
          replace HNy := Lib.hid (HNy.out hq)
          clear hq HNn
          go_wp2_with (at_builtin; refine wpList_append_own _ rfl _ _ 26 rfl W.heap.size 3 i0 (.int .i64 0) 1 8 Tryz.underlying26 hi0 hz0 hz1 hz2 rfl (by decide) _ _ _ rfl (HA.out.own.alloc _) ⟨wr.heap.size, 0, none⟩ 1 1 [.int .i64 k] rfl rfl (cell_one_new _ _ _) (by simp [Value.oneCell']) (by unfold maxLen; omega) (by omega) (by simp; omega) ?_)
          intro v' w4 hown hgrow _
          have HNew := Lib.hid (HA.out.added (by simpa [natInts] using hown) hgrow)
          clear hown hgrow
          go_wp2_with fail
          go_roundw
          case rel => exact ⟨k + 1, by omega, by go_num, Lib.hid (by rw [HNy.out]; exact HNew.out)⟩
          case measure => simp [intOf]; omega
      · obtain rfl : k = L.length := by omega
        go_wp2_with fail
        go_ret
        have HPo := HA.out.post HBw.out
        rw [← HIn.out] at HPo
        exact HPo
  | some i =>
    have HIn := Lib.hid (show inSlice r = grow (needsAt r.steps) (r.steps.length + 1) (fun _ => false) i by unfold inSlice; rw [hw])
    have e1 : wMap r.steps r.output = some (i : Int) := by unfold wMap; rw [hw]; rfl
    have hi : i < L.length := by rw [← HLen.out]; exact int_wf hw
    rw [e1] at hlk'
    simp only [Option.getD_some, Option.isSome_some] at hlk'
    clear e1 hw
    go_wp2_with fail
    refine (HVis.out i hi).mono ?_
    rintro e W ⟨rfl, h3, ho3⟩
    have HRs3 := Lib.hid (HSl.out.map.isMap.box ho3 HRs.out)
    have r1' := (box3 HRs3.out).2.1
    have HBw3 := Lib.hid (ho3.below HBw.out HSz2.out HBw.out.size)
    have HSl3 := Lib.hid h3
    clear h3 ho3 hlk' r0 r1 r2 s0 s1 HMW HG HRb HB HBs hbm HSl HBw HRs hi HVis
    have HSl := HSl3
    have HBw := HBw3
    clear HSl3 HBw3
    go_wp2_with fail
    generalize grow (needsAt r.steps) (r.steps.length + 1) (fun _ => false) i = st at HSl HIn
    go_loopw [9, 35] (fun v i wr => ∃ k : Nat, k ≤ L.length ∧ i = .int .i64 k ∧ Hid (Gath W (inTo st k) v wr)) (fun _ i _ => L.length - (intOf i).toNat)
    case atStart => exact ⟨0, Nat.zero_le _, rfl, Lib.hid (Gath.first W)⟩
    case round =>
      obtain ⟨k, hk, rfl, HA⟩ := hrel
      rename World => wr
      rename Value => vo
      by_cases hlt : k < L.length
      · have hbA := HA.out.below
        have d0 := box1 (heap_up hbA HSl.out.box)
        have hlk := (HSl.out.map.is.later hbA).look (i := k) (by omega)
        have hin := inTo_len st k
        have hbz : W.heap.size ≤ wr.heap.size := hbA.size
        have HNy := Lib.hid (fun h => inTo_yes (st := st) (k := k) h)
        have HNn := Lib.hid (fun h => inTo_no (st := st) (k := k) h)
        cases hq : st k with
        | false =>
          rw [hq] at hlk
          replace HNn := Lib.hid (HNn.out hq)
          clear hq HNy
          go_wp2_with fail
          go_roundw
          case rel => exact ⟨k + 1, by omega, by go_num, Lib.hid (by rw [HNn.out]; exact HA.out)⟩
          case measure => simp [intOf]; omega
        | true =>
          rw [hq] at hlk
          replace HNy := Lib.hid (HNy.out hq)
          clear hq HNn
          go_wp2_with (at_builtin; refine wpList_append_own _ rfl _ _ 26 rfl W.heap.size 3 i0 (.int .i64 0) 1 8 Tryz.underlying26 hi0 hz0 hz1 hz2 rfl (by decide) _ _ _ rfl (HA.out.own.alloc _) ⟨wr.heap.size, 0, none⟩ 1 1 [.int .i64 k] rfl rfl (cell_one_new _ _ _) (by simp [Value.oneCell']) (by unfold maxLen; omega) (by omega) (by simp; omega) ?_)
          intro v' w4 hown hgrow _
          have HNew := Lib.hid (HA.out.added (by simpa [natInts] using hown) hgrow)
          clear hown hgrow
          go_wp2_with fail
          go_roundw
          case rel => exact ⟨k + 1, by omega, by go_num, Lib.hid (by rw [HNy.out]; exact HNew.out)⟩
          case measure => simp [intOf]; omega
      · obtain rfl : k = L.length := by omega
        go_wp2_with fail
        go_ret
        have HPo := HA.out.post HBw.out
        rw [← HIn.out] at HPo
        exact HPo

theorem slice_any (r : Rcp) (L : List (Value × Stp)) (vi vs : Value) (w : World) (h : RcpIn r L vi vs w) : Calls Tryz.prog 30 #[rcpV vi vs r.output] w (NeedsPost (sliceL r) w) := by
  by_cases he : inspectE r = 0
  · exact slice_good r L vi vs w h he
  · refine (slice_bad r L vi vs w h he).mono ?_
    rintro e w' ⟨rfl, hb⟩
    rw [show sliceL r = [] by unfold sliceL; rw [if_pos he]]
    exact ⟨_, rfl, ⟨none, 0, rfl, by simp, by simp, fun h => absurd rfl h⟩, fun a n c e => by (cases e), hb⟩
theorem order_any (r : Rcp) (L : List (Value × Stp)) (vi vs : Value) (w : World) (h : RcpIn r L vi vs w) : Calls Tryz.prog 33 #[rcpV vi vs r.output] w (NeedsPost (orderL r) w) := by
  by_cases he : inspectE r = 0
  · exact order_good r L vi vs w h he
  · refine (order_bad r L vi vs w h he).mono ?_
    rintro e w' ⟨rfl, hb⟩
    rw [show orderL r = [] by unfold orderL; rw [if_pos he]]
    exact ⟨_, rfl, ⟨none, 0, rfl, by simp, by simp, fun h => absurd rfl h⟩, fun a n c e => by (cases e), hb⟩
end Go.Proofs.YtacgopankhpnbaaGreatDoor
/- Plain facts on the sort of strings. No program in sight. -/
namespace Go.Proofs.YtacgopankhpnbaaGreatDoor

abbrev leB (x y : List UInt8) : Bool := decide (x ≤ y)
theorem leB_trans (a b c : List UInt8) (h : leB a b = true) (k : leB b c = true) : leB a c = true := by
  simp only [leB, decide_eq_true_eq] at *; exact List.le_trans h k
theorem leB_total (a b : List UInt8) : (leB a b || leB b a) = true := by
  simp only [leB, Bool.or_eq_true, decide_eq_true_eq]; exact List.le_total a b
theorem leB_anti {a b : List UInt8} (h : leB a b = true) (k : leB b a = true) : a = b := by
  simp only [leB, decide_eq_true_eq] at *; exact List.le_antisymm h k

abbrev msort (l : List (List UInt8)) : List (List UInt8) := l.mergeSort fun x y => decide (x ≤ y)
theorem msort_sorted (l : List (List UInt8)) : (msort l).Pairwise fun a b => leB a b = true := List.pairwise_mergeSort leB_trans leB_total l
theorem msort_perm (l : List (List UInt8)) : (msort l).Perm l := List.mergeSort_perm l _
theorem sorted_unique {l l' : List (List UInt8)} (h : l.Pairwise fun a b => leB a b = true) (h' : l'.Pairwise fun a b => leB a b = true) (p : l.Perm l') : l = l' :=
  List.Perm.eq_of_pairwise (le := fun a b => leB a b = true) (fun _ _ _ _ h k => leB_anti h k) h h' p
theorem msort_of_perm {l l' : List (List UInt8)} (p : l.Perm l') : msort l = msort l' :=
  sorted_unique (msort_sorted l) (msort_sorted l') (((msort_perm l).trans p).trans (msort_perm l').symm)
theorem msort_of_sorted {l : List (List UInt8)} (h : l.Pairwise fun a b => leB a b = true) : msort l = l := List.mergeSort_of_pairwise h

/-- Insertion, for reckoning. -/
def insertS (x : List UInt8) : List (List UInt8) → List (List UInt8)
  | [] => [x]
  | y :: l => if leB x y then x :: y :: l else y :: insertS x l
def isort : List (List UInt8) → List (List UInt8)
  | [] => []
  | x :: l => insertS x (isort l)
theorem insertS_perm (x : List UInt8) (l : List (List UInt8)) : (insertS x l).Perm (x :: l) := by
  induction l with
  | nil => exact List.Perm.refl _
  | cons y l ih =>
    rw [insertS]
    split
    · exact List.Perm.refl _
    · exact ((ih.cons y).trans (List.Perm.swap x y l))
theorem insertS_sorted (x : List UInt8) (l : List (List UInt8)) (h : l.Pairwise fun a b => leB a b = true) : (insertS x l).Pairwise fun a b => leB a b = true := by
  induction l with
  | nil => simp [insertS]
  | cons y l ih =>
    rw [insertS]
    rw [List.pairwise_cons] at h
    split
    · rename_i hxy
      rw [List.pairwise_cons]
      refine ⟨fun z hz => ?_, List.pairwise_cons.2 h⟩
      rcases List.mem_cons.1 hz with rfl | hz
      · exact hxy
      · exact leB_trans _ _ _ hxy (h.1 z hz)
    · rename_i hxy
      have hyx : leB y x = true := by
        have := leB_total x y
        simp only [Bool.or_eq_true] at this
        rcases this with h' | h'
        · exact absurd h' hxy
        · exact h'
      rw [List.pairwise_cons]
      refine ⟨fun z hz => ?_, ih h.2⟩
      rcases List.mem_cons.1 ((insertS_perm x l).mem_iff.1 hz) with rfl | hz
      · exact hyx
      · exact h.1 z hz
theorem isort_perm (l : List (List UInt8)) : (isort l).Perm l := by
  induction l with
  | nil => exact List.Perm.refl _
  | cons x l ih => exact (insertS_perm x _).trans (ih.cons x)
theorem isort_sorted (l : List (List UInt8)) : (isort l).Pairwise fun a b => leB a b = true := by
  induction l with
  | nil => simp [isort]
  | cons x l ih => exact insertS_sorted x _ ih
theorem msort_eq (l : List (List UInt8)) : msort l = isort l := sorted_unique (msort_sorted l) (isort_sorted l) ((msort_perm l).trans (isort_perm l).symm)
theorem sortB_eq (l : List ByteArray) : sortB l = (isort (l.map (·.data.toList))).map fun x => ⟨x.toArray⟩ := by
  unfold sortB; rw [show (l.map (·.data.toList)).mergeSort (fun x y => decide (x ≤ y)) = isort (l.map (·.data.toList)) from msort_eq _]
example : sortB [⟨#[50]⟩, ⟨#[49]⟩] = [⟨#[49]⟩, ⟨#[50]⟩] := by rw [sortB_eq]; decide +kernel
end Go.Proofs.YtacgopankhpnbaaGreatDoor
/- The examples of ladinglaw32.small, reckoned. No program in sight. -/
namespace Go.Proofs.YtacgopankhpnbaaGreatDoor

abbrev C0 : ByteArray → Int × ByteArray := fun _ => (0, ByteArray.empty)
/-- ladinglaw32.files -/
def lawFiles : List Fil := [⟨⟨#[97]⟩, ⟨#[50, 10, 49, 10]⟩⟩, ⟨⟨#[98]⟩, ⟨#[120]⟩⟩]

theorem ex1 : doStep C0 ⟨3, [⟨#[97]⟩], ⟨#[99]⟩, false⟩ lawFiles [] [] 0 0 = .ok (⟨#[49, 10, 50, 10]⟩, [⟨#[50, 10, 49, 10]⟩], 0, 0) := by
  simp only [doStep, writeStep, sortedLines, sortB_eq]; kernel_rfl
theorem ex2 : doStep C0 ⟨4, [⟨#[98]⟩], ⟨#[99]⟩, false⟩ lawFiles [70, 80] [] 1 0 = .ok (⟨#[120, 56, 48, 59, 10]⟩, [⟨#[120]⟩], 2, 0) := by
  simp only [doStep, writeStep, sortedLines, sortB_eq]; kernel_rfl
theorem ex3 : doStep C0 ⟨2, [⟨#[98]⟩, ⟨#[97]⟩], ⟨#[99]⟩, false⟩ lawFiles [] [1] 0 0 = .ok (⟨#[98, 10, 97, 10]⟩, [], 0, 2) := by
  simp only [doStep, writeStep, sortedLines, sortB_eq]; kernel_rfl
theorem ex4 : doStep C0 ⟨2, [⟨#[98]⟩, ⟨#[97]⟩], ⟨#[99]⟩, true⟩ lawFiles [] [1] 0 0 = .ok (⟨#[97, 10, 98, 10]⟩, [], 0, 0) := by
  simp only [doStep, writeStep, sortedLines, sortB_eq]; kernel_rfl
theorem ex5 : doStep C0 ⟨1, [⟨#[98]⟩, ⟨#[97]⟩, ⟨#[98]⟩], ⟨#[98]⟩, false⟩ lawFiles [] [] 0 0 = .error 5 := by
  simp only [doStep, writeStep, sortedLines, sortB_eq]; kernel_rfl
theorem ex6 : doStep C0 ⟨0, [⟨#[100]⟩], ⟨#[99]⟩, false⟩ lawFiles [] [] 0 0 = .error 4 := by
  simp only [doStep, writeStep, sortedLines, sortB_eq]; kernel_rfl
theorem ex7 : findFile lawFiles ⟨#[98]⟩ = some ⟨#[120]⟩ := by kernel_rfl
theorem ex8 : rightFiles lawFiles = true := by kernel_rfl
theorem ex9 : stepRight ⟨0, [⟨#[98]⟩], ⟨#[97]⟩, false⟩ = true := by kernel_rfl
theorem ex10 : stepRight ⟨0, [], ⟨#[]⟩, false⟩ = false := by kernel_rfl
theorem ex11 : stepPure ⟨1, [], ⟨#[97]⟩, false⟩ = true := by kernel_rfl
theorem ex12 : stepPure ⟨2, [], ⟨#[97]⟩, false⟩ = false := by kernel_rfl
end Go.Proofs.YtacgopankhpnbaaGreatDoor
/- Walks of ladinglaw32: last, files; step.Pure. -/
namespace Go.Proofs.YtacgopankhpnbaaGreatDoor
open Go.RowKit

theorem fils_made {w : World} {g : Nat} {cs : Array Value} {t : TypeId} {fr : Nat × Nat} (l : List Fil) (h : w.heap[g]? = some (.cells cs t fr)) (hcs : cs.toList = filCells l) (hl : l.length ≤ 140737488355328)
    (hz : ∀ f, f ∈ l → f.name.size ≤ 140737488355328 ∧ f.text.size ≤ 140737488355328) : Fils w (.slice (some ⟨g, 0, none⟩) l.length l.length) l := by
  refine ⟨_, l.length, rfl, Nat.le_refl _, by omega, fun _ => ⟨g, 0, rfl, fun i f hf => ⟨[.string f.name, .string f.text], ⟨rfl, hz f (List.mem_of_getElem? hf)⟩, rfl, fun j u hu => ?_⟩⟩⟩
  obtain ⟨c1, c2⟩ := filCells_at l i f hf
  rw [← hcs] at c1 c2
  match j, hu with
  | 0, hu => cases hu; simp only [World.cell?, h]; simpa using c1
  | 1, hu => cases hu; simp only [World.cell?, h]; simpa using c2
theorem strs_made {w : World} {g : Nat} {cs : Array Value} {t : TypeId} {fr : Nat × Nat} (l : List ByteArray) (h : w.heap[g]? = some (.cells cs t fr)) (hcs : cs.toList = l.map Value.string) (hl : l.length ≤ 140737488355328)
    (hz : ∀ x, x ∈ l → x.size ≤ 140737488355328) : Strs w (.slice (some ⟨g, 0, none⟩) l.length l.length) l := by
  refine ⟨_, l.length, rfl, Nat.le_refl _, by omega, fun _ => ⟨g, 0, rfl, fun i x hx => ⟨[.string x], ⟨rfl, hz x (List.mem_of_getElem? hx)⟩, rfl, fun j u hu => ?_⟩⟩⟩
  match j, hu with
  | 0, hu =>
    cases hu
    have h1 : cs.toList[i]? = some (.string x) := by rw [hcs]; simp [hx]
    simp only [World.cell?, h]; simpa using h1
theorem ints_made {w : World} {g : Nat} {cs : Array Value} {t : TypeId} {fr : Nat × Nat} (l : List Int) (h : w.heap[g]? = some (.cells cs t fr)) (hcs : cs.toList = l.map (Value.int .i64)) (hl : l.length ≤ 140737488355328) : Ints w (.slice (some ⟨g, 0, none⟩) l.length l.length) l := by
  refine ⟨_, l.length, rfl, Nat.le_refl _, by omega, fun _ => ⟨g, 0, rfl, fun i x hx => ⟨[.int .i64 x], rfl, rfl, fun j u hu => ?_⟩⟩⟩
  match j, hu with
  | 0, hu =>
    cases hu
    have h1 : cs.toList[i]? = some (.int .i64 x) := by rw [hcs]; simp [hx]
    simp only [World.cell?, h]; simpa using h1
theorem strs_nil (w : World) : Strs w (.slice none 0 0) [] := ⟨none, 0, rfl, by simp, by simp, fun h => absurd rfl h⟩
theorem ints_nil (w : World) : Ints w (.slice none 0 0) [] := ⟨none, 0, rfl, by simp, by simp, fun h => absurd rfl h⟩

/-- ladinglaw32.last -/
def lastText (l : List Fil) : ByteArray := match l.getLast? with | none => ByteArray.empty | some f => f.text

theorem last_any (l : List Fil) (v : Value) (w : World) (hv : Fils w v l) :
    Calls Tryz.prog 22 #[v] w fun e w' => e = .returned (.string (lastText l)) ∧ w = w' := by
  rcases hv.cases with ⟨rfl, a, c, rfl⟩ | ⟨b, o, c, rfl, h0, h1, h2, hb, hc⟩
  · go_enter Tryz.func22, Tryz.ntmps22
    go_wp2_with fail
    go_ret
    exact ⟨rfl, rfl⟩
  · obtain ⟨n, hn⟩ : ∃ n, l.length = n + 1 := ⟨l.length - 1, by omega⟩
    obtain ⟨f, hf, -⟩ := getElem?_of_lt (l := l) (k := n) (by omega)
    obtain ⟨-, c2, -, -⟩ := hc n f hf
    have HL := Lib.hid (show lastText l = f.text by
      unfold lastText; rw [List.getLast?_eq_getElem?, hn]; simp [hf])
    rw [HL.out]
    rw [hn] at h1 ⊢
    clear hc hf hv HL hn h0
    go_enter Tryz.func22, Tryz.ntmps22
    go_wp2_with fail
    go_ret
    exact ⟨rfl, rfl⟩

theorem files_any (w : World) :
    Calls Tryz.prog 50 #[] w fun e w' => ∃ v, e = .returned v ∧ Fils w' v lawFiles ∧ Below w.heap.size w w' := by
  go_enter Tryz.func50, Tryz.ntmps50
  go_wp2_with fail
  go_ret
  exact ⟨_, rfl, fils_made lawFiles (alloc_self _ _) rfl (by decide) (fun f hf => by simp [lawFiles] at hf; rcases hf with rfl | rfl <;> decide), below_alloc _ _⟩
end Go.Proofs.YtacgopankhpnbaaGreatDoor
/- Walks of ladinglaw32: lines. -/
namespace Go.Proofs.YtacgopankhpnbaaGreatDoor
open Go.RowKit

/-- What ladinglaw32.lines keeps. -/
structure LSt where
  n : Nat
  fr : Nat
  before : ByteArray
  rising : Bool

/-- 'a <= b' on strings. -/
def leStr (a b : ByteArray) : Bool := decide (a.data.toList ≤ b.data.toList)

def linesStep (s : ByteArray) (st : LSt) (i : Nat) : LSt :=
  if s.data.toList.getD i 0 = 10 then ⟨st.n + 1, i + 1, s.extract st.fr i, (if st.n = 0 then true else st.rising) && (decide (st.n = 0) || leStr st.before (s.extract st.fr i))⟩ else st
def linesAt (s : ByteArray) : Nat → LSt
  | 0 => ⟨0, 0, ByteArray.empty, s.toList.isEmpty⟩
  | k + 1 => linesStep s (linesAt s k) k
/-- ladinglaw32.lines -/
def linesN (s : ByteArray) : Nat := (linesAt s s.size).n
def linesOk (s : ByteArray) : Bool := (linesAt s s.size).rising && decide ((linesAt s s.size).fr = s.size)

theorem linesAt_bounds (s : ByteArray) : ∀ k, (linesAt s k).n ≤ k ∧ (linesAt s k).fr ≤ k
  | 0 => ⟨Nat.le_refl _, Nat.le_refl _⟩
  | k + 1 => by
    have := linesAt_bounds s k
    rw [linesAt, linesStep]
    split
    · exact ⟨by simp; omega, Nat.le_refl _⟩
    · exact ⟨by omega, by omega⟩

theorem byte_ne {c : UInt8} (h : ((c.toNat : Int) != 10) = true) : ¬ c = 10 := by
  intro e; subst e; simp at h
theorem byte_eq {c : UInt8} (h : ((c.toNat : Int) != 10) = false) : c = 10 := by
  have h1 : (c.toNat : Int) = 10 := by simpa using h
  apply UInt8.toNat_inj.1; simp; omega
theorem size_zero (s : ByteArray) : ((s.size : Int) == 0) = s.toList.isEmpty := by
  rw [toList_eq, Bool.eq_iff_iff]
  have : s.data.toList.length = s.size := by simp
  simp only [beq_iff_eq, List.isEmpty_iff, ← List.length_eq_zero_iff, this]; omega
theorem le_spelled (a b : ByteArray) : (Op.bytesLess a.toList b.toList || a.toList == b.toList) = leStr a b := by
  rw [bytesLess_eq, toList_eq, toList_eq, leStr, Bool.eq_iff_iff]
  simp only [Bool.or_eq_true, decide_eq_true_eq, beq_iff_eq]
  exact List.le_iff_lt_or_eq.symm
theorem rising_a {n : Nat} {ri le : Bool} (h : ((n : Int) == 0) = true) : true = ((if n = 0 then true else ri) && (decide (n = 0) || le)) := by
  have : n = 0 := by simpa using h
  simp [this]
theorem rising_b {n : Nat} {ri le x : Bool} (h : ((n : Int) == 0) = false) (hr : ri = true) (hle : x = le) : x = ((if n = 0 then true else ri) && (decide (n = 0) || le)) := by
  have : n ≠ 0 := by simpa using h
  simp [this, hr, hle]
theorem rising_c {n : Nat} {ri le : Bool} (h : ((n : Int) == 0) = false) (hr : ¬ ri = true) : false = ((if n = 0 then true else ri) && (decide (n = 0) || le)) := by
  have : n ≠ 0 := by simpa using h
  have hr' : ri = false := by simpa using hr
  simp [this, hr']
theorem ok_a {ri OK : Bool} {fr z : Nat} (h : OK = (ri && decide (fr = z))) (hr : ri = true) : ((fr : Int) == (z : Int)) = OK := by
  rw [h, hr, Bool.eq_iff_iff]; simp; omega
theorem ok_b {ri OK : Bool} {fr z : Nat} (h : OK = (ri && decide (fr = z))) (hr : ¬ ri = true) : false = OK := by
  have hr' : ri = false := by simpa using hr
  rw [h, hr']; rfl
set_option maxHeartbeats 1000000 in
theorem lines_any (s : ByteArray) (w : World) (hs : s.size ≤ 140737488355328) :
    Calls Tryz.prog 23 #[.string s] w fun e w' => e = .returned (.tuple #[.int .i64 (linesN s), .bool (linesOk s)]) ∧ w = w' := by
  have hN : linesN s = (linesAt s s.size).n := rfl
  have hK : linesOk s = ((linesAt s s.size).rising && decide ((linesAt s s.size).fr = s.size)) := rfl
  have HN := Lib.hid hN; clear hN
  have HK := Lib.hid hK; clear hK
  generalize linesN s = N at HN ⊢
  generalize linesOk s = OK at HK ⊢
  have hz : ((s.size : Int) == 0) = s.toList.isEmpty := size_zero s
  go_enter Tryz.func23, Tryz.ntmps23
  go_wp2_with fail
  go_loop [4, 5, 6, 7, 8] (fun n fr be ri i => ∃ k : Nat, k ≤ s.size ∧ i = .int .i64 k ∧ n = .int .i64 (linesAt s k).n ∧ fr = .int .i64 (linesAt s k).fr ∧ be = .string (linesAt s k).before ∧ ri = .bool (linesAt s k).rising) (fun _ _ _ _ i => s.size - (intOf i).toNat)
  case atStart => exact ⟨0, Nat.zero_le _, rfl, rfl, rfl, rfl, rfl⟩
  case round =>
    obtain ⟨k, hk, rfl, rfl, rfl, rfl, rfl⟩ := hrel
    obtain ⟨b1, b2⟩ := linesAt_bounds s k
    have hSt : linesAt s (k + 1) = linesStep s (linesAt s k) k := rfl
    have HSt := Lib.hid hSt; clear hSt
    generalize hst : linesAt s k = st at b1 b2 HSt
    obtain ⟨n, fr, be, ri⟩ := st
    have HST := Lib.hid hst; clear hst
    simp only at b1 b2 ⊢
    by_cases hlt : k < s.size
    · have hget : s.data.toList.getD k 0 = s[k] := by
        rw [List.getD_eq_getElem?_getD, List.getElem?_eq_getElem (by simpa using hlt)]; rfl
      have HGet := Lib.hid hget; clear hget
      go_wp2_with fail
      · go_round
        case rel =>
          have h10 : ¬ s.data.toList.getD k 0 = 10 := by rw [HGet.out]; exact byte_ne ‹_›
          have e := HSt.out
          rw [linesStep, if_neg h10] at e
          exact ⟨k + 1, by omega, by go_num, by rw [e], by rw [e], by rw [e], by rw [e]⟩
        case measure => simp [intOf]; omega
      · have h10 : s.data.toList.getD k 0 = 10 := by rw [HGet.out]; exact byte_eq ‹_›
        have e := HSt.out
        rw [linesStep, if_pos h10] at e
        simp only at e
        have HE := Lib.hid e
        clear e h10
        go_round
        case rel => exact ⟨k + 1, by omega, by go_num, by rw [HE.out]; go_num, by rw [HE.out]; go_num, by rw [HE.out], by rw [HE.out]; exact congrArg Value.bool (rising_a ‹_›)⟩
        case measure => simp [intOf]; omega
      · have h10 : s.data.toList.getD k 0 = 10 := by rw [HGet.out]; exact byte_eq ‹_›
        have e := HSt.out
        rw [linesStep, if_pos h10] at e
        simp only at e
        have HE := Lib.hid e
        clear e h10
        go_round
        case rel => exact ⟨k + 1, by omega, by go_num, by rw [HE.out]; go_num, by rw [HE.out]; go_num, by rw [HE.out], by rw [HE.out]; exact congrArg Value.bool (rising_b ‹_› ‹_› (le_spelled _ _))⟩
        case measure => simp [intOf]; omega
      · have h10 : s.data.toList.getD k 0 = 10 := by rw [HGet.out]; exact byte_eq ‹_›
        have e := HSt.out
        rw [linesStep, if_pos h10] at e
        simp only at e
        have HE := Lib.hid e
        clear e h10
        go_round
        case rel => exact ⟨k + 1, by omega, by go_num, by rw [HE.out]; go_num, by rw [HE.out]; go_num, by rw [HE.out], by rw [HE.out]; exact congrArg Value.bool (rising_c ‹_› ‹_›)⟩
        case measure => simp [intOf]; omega
    · obtain rfl : k = s.size := by omega
      rw [HST.out] at HN HK
      simp only at HN HK
      have HNN := HN.out
      go_wp2_with fail
      · go_ret2
        exact ⟨congrArg (fun b => Ending.returned (.tuple #[.int .i64 (n : Int), .bool b])) (ok_a HK.out ‹_›), rfl⟩
      · go_ret2
        exact ⟨congrArg (fun b => Ending.returned (.tuple #[.int .i64 (n : Int), .bool b])) (ok_b HK.out ‹_›), rfl⟩
end Go.Proofs.YtacgopankhpnbaaGreatDoor
/- Walks: step.Pure. -/
namespace Go.Proofs.YtacgopankhpnbaaGreatDoor
open Go.RowKit

set_option maxHeartbeats 1000000 in
theorem stepPure_any (s : Stp) (vf : Value) (w : World) (hv : Strs w vf s.src) (hto : s.out.size ≤ 140737488355328) :
    Calls Tryz.prog 18 #[.agg #[.int .i64 s.kind, vf, .string s.out, .bool s.sorted]] w fun e w' => e = .returned (.bool (stepPure s)) ∧ Below w.heap.size w w' := by
  have HR : Hid (∀ W, Below w.heap.size w W → Calls Tryz.prog 24 #[.agg #[.int .i64 s.kind, vf, .string s.out, .bool s.sorted]] W fun e w' => e = .returned (.bool (stepRight s)) ∧ Below W.heap.size W w') :=
    Lib.hid fun W hb => stepRight_any s vf W (hv.later hb) hto
  have hP : stepPure s = (stepRight s && decide (s.kind ≠ 4) && (decide (s.kind ≠ 2) || s.sorted)) := rfl
  have HP := Lib.hid hP; clear hP
  generalize stepPure s = P at HP ⊢
  generalize stepRight s = r at HP HR
  obtain ⟨kind, src, out, sorted⟩ := s
  obtain ⟨a, c, hvv, -⟩ := hv
  simp only at hvv HR HP ⊢
  subst hvv
  cases r with
  | false =>
    go_enter Tryz.func18, Tryz.ntmps18
    go_wp2_with fail
    refine (HR.out _ (below_alloc _ _)).mono ?_
    rintro e w1 ⟨rfl, hb⟩
    go_wp2_with fail
    go_ret
    exact ⟨ret_bool (by rw [HP.out]; rfl), below_trans (below_alloc _ _) hb⟩
  | true =>
    have b4 : (kind == 4) = decide (kind = 4) := by rw [Bool.eq_iff_iff]; simp
    by_cases k4 : kind = 4
    · subst k4
      clear b4
      go_enter Tryz.func18, Tryz.ntmps18
      go_wp2_with fail
      refine (HR.out _ (below_alloc _ _)).mono ?_
      rintro e w1 ⟨rfl, hb⟩
      obtain ⟨hcc, hff⟩ := bcell hb
      go_wp2_with fail
      go_ret
      exact ⟨ret_bool (by rw [HP.out]; rfl), below_trans (below_alloc _ _) hb⟩
    · have n4 : (kind != 4) = true := by rw [bne_iff_ne]; exact k4
      have HK4 := Lib.hid k4
      clear b4 k4
      by_cases k2 : kind = 2
      · subst k2
        clear n4
        go_enter Tryz.func18, Tryz.ntmps18
        go_wp2_with fail
        refine (HR.out _ (below_alloc _ _)).mono ?_
        rintro e w1 ⟨rfl, hb⟩
        obtain ⟨hcc, hff⟩ := bcell hb
        go_wp2_with fail
        go_ret
        exact ⟨ret_bool (by rw [HP.out]; rfl), below_trans (below_alloc _ _) hb⟩
      · have n2 : (kind != 2) = true := by rw [bne_iff_ne]; exact k2
        have HK2 := Lib.hid k2
        clear k2
        go_enter Tryz.func18, Tryz.ntmps18
        go_wp2_with fail
        refine (HR.out _ (below_alloc _ _)).mono ?_
        rintro e w1 ⟨rfl, hb⟩
        obtain ⟨hcc, hff⟩ := bcell hb
        go_wp2_with fail
        go_ret
        exact ⟨ret_bool (by rw [HP.out, decide_eq_true HK4.out, decide_eq_true HK2.out]; rfl), below_trans (below_alloc _ _) hb⟩
end Go.Proofs.YtacgopankhpnbaaGreatDoor
/- Walks of package build: Pure. -/
namespace Go.Proofs.YtacgopankhpnbaaGreatDoor
open Go.RowKit

/-- Is a step not pure? -/
def impureAt (steps : List Stp) (i : Nat) : Bool := match steps[i]? with
  | some s => !stepPure s
  | none => true
set_option maxRecDepth 100000 in
theorem pure1_any (r : Rcp) (L : List (Value × Stp)) (vi vs : Value) (pr i : Nat) (w : World) (h : RcpIn r L vi vs w) (hb : w.heap[pr]? = some (rcpBox vi vs r.output)) (hi : i < L.length) :
    Calls Tryz.prog 62 #[.int .i64 i, .pointer (some ⟨pr, 0, none⟩)] w fun e w' => e = .returned (.bool (impureAt r.steps i)) ∧ Below w.heap.size w w' := by
  obtain ⟨y, hy, -⟩ := getElem?_of_lt hi
  have hs : r.steps[i]? = some y.2 := by rw [← h.map, List.getElem?_map, hy]; rfl
  have HP := Lib.hid (show impureAt r.steps i = !stepPure y.2 by unfold impureAt; rw [hs])
  rw [HP.out]
  obtain ⟨r0, r1, r2⟩ := box3 hb
  rcases h.stp.cases with ⟨e, -⟩ | ⟨b, o, c, rfl, -, hc1, hc2, -, hc⟩
  · subst e; simp at hi
  obtain ⟨s0, s1, s2, s3, hsrc, hso⟩ := hc i y hy
  have HC := Lib.hid (stepPure_any y.2 y.1 w hsrc hso)
  generalize stepPure y.2 = q at HC ⊢
  obtain ⟨a, cc, hv⟩ := strs_slice hsrc
  obtain ⟨yv, kind, src, out, sorted⟩ := y
  simp only at s0 s1 s2 s3 HC hv
  subst hv
  clear h hb hy hs HP hc hsrc hso
  go_enter Tryz.func62, Tryz.ntmps62
  go_wp2_with fail
  refine HC.out.mono ?_
  rintro e w1 ⟨rfl, hb⟩
  have HB := Lib.hid hb; clear hb
  go_wp2_with fail
  go_ret
  exact ⟨rfl, HB.out⟩
theorem enters_pure1 : ∀ args w, (callFunc 62 args).run Tryz.prog w = .ok (.enter 62 args) w := enters_of Tryz.func62 (by kernel_rfl) rfl
theorem sliceL_lt {r : Rcp} {i : Nat} (h : i ∈ sliceL r) : i < r.steps.length := by
  unfold sliceL at h
  split at h
  · cases h
  · unfold sliceAll at h
    exact List.mem_range.1 (List.mem_filter.1 h).1

set_option maxRecDepth 100000 in
theorem pure_any (r : Rcp) (L : List (Value × Stp)) (vi vs : Value) (w : World) (h : RcpIn r L vi vs w) :
    Calls Tryz.prog 28 #[rcpV vi vs r.output] w fun e w' => e = .returned (.bool (pureL r)) ∧ Below w.heap.size w w' := by
  by_cases he : ¬ inspectE r = 0
  · refine (pure_bad r L vi vs w h he).mono ?_
    rw [show pureL r = false by unfold pureL; rw [decide_eq_false he]; rfl]
    exact fun _ _ h => h
  replace he := Classical.not_not.1 he
  have HR := Lib.hid (right_any r L vi vs _ (h.later (below_alloc w (rcpBox vi vs r.output))))
  have HP := Lib.hid (show pureL r = !(sliceL r).any (impureAt r.steps) by unfold pureL; rw [decide_eq_true he]; rfl)
  rw [HP.out]
  have HRcp := Lib.hid h
  have HSl : Hid (∀ W, Below w.heap.size w W → Calls Tryz.prog 30 #[rcpV vi vs r.output] W (NeedsPost (sliceL r) W)) := Lib.hid fun W hb => slice_any r L vi vs W (HRcp.out.later hb)
  have HCf : Hid (∀ v W, Below w.heap.size w W → W.heap[w.heap.size]? = some (rcpBox vi vs r.output) → Ints W v (natInts (sliceL r)) → Calls Tryz.prog 61 #[v, .func (.func 62) #[] #[.pointer (some ⟨w.heap.size, 0, none⟩)]] W fun e w' => e = .returned (.bool ((sliceL r).any (impureAt r.steps))) ∧ Below W.heap.size W w') :=
    Lib.hid fun v W hb hbx hI => containsFunc_plain 62 #[.pointer (some ⟨w.heap.size, 0, none⟩)] (impureAt r.steps) (sliceL r) v W hI enters_pure1 (fun x hx W' hb' =>
      pure1_any r L vi vs w.heap.size x W' (HRcp.out.later (below_trans hb hb')) (heap_up hb' hbx) (by rw [← HRcp.out.len]; exact sliceL_lt hx))
  have HB0 := Lib.hid (below_alloc w (rcpBox vi vs r.output))
  have HBx := Lib.hid (alloc_self w (rcpBox vi vs r.output))
  obtain ⟨ai, ci, av, cv, rfl, rfl⟩ := h.slices
  rw [he] at HR
  generalize (sliceL r).any (impureAt r.steps) = q at HCf ⊢
  clear h he HP
  go_enter Tryz.func28, Tryz.ntmps28
  go_wp2_with fail
  refine HR.out.mono ?_
  rintro e w2 ⟨rfl, hb⟩
  obtain ⟨r0, r1, r2⟩ := box3 (heap_up hb HBx.out)
  have HB2 := Lib.hid (below_trans HB0.out hb)
  have HBx2 := Lib.hid (heap_up hb HBx.out)
  clear hb HR
  go_wp2_with fail
  refine (HSl.out _ HB2.out).mono ?_
  rintro e w3 ⟨v, rfl, hI, -, hb⟩
  have HC := Lib.hid (HCf.out v w3 (below_trans HB2.out hb) (heap_up hb HBx2.out) hI)
  have HB3 := Lib.hid (below_trans HB2.out hb)
  clear hI hb r0 r1 r2
  go_wp2_with fail
  refine HC.out.mono ?_
  rintro e w4 ⟨rfl, hb⟩
  have HB4 := Lib.hid (below_trans HB3.out hb)
  clear hb
  go_wp2_with fail
  go_ret
  exact ⟨rfl, HB4.out⟩
end Go.Proofs.YtacgopankhpnbaaGreatDoor
/- The example of ladinglaw33.small, reckoned. No program in sight. -/
namespace Go.Proofs.YtacgopankhpnbaaGreatDoor

def exInputs : List Fil := [⟨⟨#[97]⟩, ⟨#[120]⟩⟩, ⟨⟨#[98]⟩, ⟨#[121]⟩⟩]
def exSteps : List Stp := [⟨1, [⟨#[98]⟩, ⟨#[97]⟩], ⟨#[99]⟩, false⟩, ⟨4, [⟨#[99]⟩], ⟨#[100]⟩, false⟩, ⟨0, [⟨#[97]⟩], ⟨#[101]⟩, false⟩]
/-- ladinglaw33.example -/
def exR (output : ByteArray) : Rcp := ⟨exInputs, exSteps, output⟩
theorem exRun : runL C0 (exR ⟨#[100]⟩) [7] [] [1] = .ok ([⟨2, [⟨#[120]⟩], ⟨#[120]⟩⟩, ⟨0, [⟨#[121]⟩, ⟨#[120]⟩], ⟨#[121, 120]⟩⟩, ⟨1, [⟨#[121, 120]⟩], ⟨#[121, 120, 55, 59, 10]⟩⟩], ⟨#[121, 120, 55, 59, 10]⟩) := by kernel_rfl
theorem exOrder : orderL (exR ⟨#[100]⟩) = [0, 1, 2] := by kernel_rfl
theorem exSliceD : sliceL (exR ⟨#[100]⟩) = [0, 1] := by kernel_rfl
theorem exSliceC : sliceL (exR ⟨#[99]⟩) = [0] := by kernel_rfl
theorem exPureD : pureL (exR ⟨#[100]⟩) = false := by kernel_rfl
theorem exPureC : pureL (exR ⟨#[99]⟩) = true := by kernel_rfl
end Go.Proofs.YtacgopankhpnbaaGreatDoor
/- Walks of ladinglaw33: example, few, light; ladingref33.Ints. -/
namespace Go.Proofs.YtacgopankhpnbaaGreatDoor
open Go.RowKit

theorem small_sz (l : List ByteArray) (h : l.all (fun x => decide (x.size ≤ 100)) = true) : ∀ x, x ∈ l → x.size ≤ 140737488355328 := by
  intro x hx
  have := List.all_eq_true.1 h x hx
  simp at this; omega
theorem flatMap_at {α : Type} {k : Nat} (f : α → List Value) : ∀ (l : List α) (i : Nat) (x : α) (j : Nat), (∀ y, y ∈ l → (f y).length = k) → l[i]? = some x → j < k → (l.flatMap f)[i * k + j]? = (f x)[j]?
  | [], i, x, j, _, h, _ => by simp at h
  | a :: l, 0, x, j, hf, h, hj => by
    simp at h; subst h
    rw [List.flatMap_cons, List.getElem?_append_left (by rw [hf a (by simp)]; omega)]; simp
  | a :: l, i + 1, x, j, hf, h, hj => by
    have ha := hf a (by simp)
    rw [List.flatMap_cons, List.getElem?_append_right (by rw [ha, Nat.add_mul]; omega), ha, show (i + 1) * k + j - k = i * k + j by rw [Nat.add_mul]; omega]
    exact flatMap_at f l i x j (fun y hy => hf y (by simp [hy])) (by simpa using h) hj
theorem row_made {α : Type} {k : Nat} {enc : World → α → List Value → Prop} {w : World} {g : Nat} {cs : Array Value} {t : TypeId} {fr : Nat × Nat} (l : List α) (f : α → List Value) (h : w.heap[g]? = some (.cells cs t fr)) (hcs : cs.toList = l.flatMap f)
    (hl : l.length ≤ 140737488355328) (hf : ∀ x, x ∈ l → (f x).length = k ∧ enc w x (f x)) : Row k enc w (.slice (some ⟨g, 0, none⟩) l.length l.length) l := by
  refine ⟨_, l.length, rfl, Nat.le_refl _, by omega, fun _ => ⟨g, 0, rfl, fun i x hx => ⟨f x, (hf x (List.mem_of_getElem? hx)).2, (hf x (List.mem_of_getElem? hx)).1, fun j u hu => ?_⟩⟩⟩
  have hk := (hf x (List.mem_of_getElem? hx)).1
  have hj : j < k := by rw [← hk]; exact (List.getElem?_eq_some_iff.1 hu).1
  have h1 := flatMap_at f l i x j (fun y hy => (hf y hy).1) hx hj
  rw [hu, ← hcs] at h1
  simp only [World.cell?, h]; simpa using h1
abbrev stpCells (y : Value × Stp) : List Value := [.int .i64 y.2.kind, y.1, .string y.2.out, .bool y.2.sorted]
abbrev exL (h : Nat) : List (Value × Stp) := [(.slice (some ⟨h + 1 + 1, 0, none⟩) 2 2, ⟨1, [⟨#[98]⟩, ⟨#[97]⟩], ⟨#[99]⟩, false⟩), (.slice (some ⟨h + 1 + 1 + 1, 0, none⟩) 1 1, ⟨4, [⟨#[99]⟩], ⟨#[100]⟩, false⟩), (.slice (some ⟨h + 1 + 1 + 1 + 1, 0, none⟩) 1 1, ⟨0, [⟨#[97]⟩], ⟨#[101]⟩, false⟩)]
/-- That a recipe is handed back. -/
def RcpPost (r : Rcp) (w : World) (e : Ending) (w' : World) : Prop := ∃ vi vs L, e = .returned (rcpV vi vs r.output) ∧ RcpIn r L vi vs w' ∧ Below w.heap.size w w'
theorem lay6 (w : World) (o0 o1 o2 o3 o4 o5 : Obj) : ((((((w.alloc o0).alloc o1).alloc o2).alloc o3).alloc o4).alloc o5).heap[w.heap.size + 1]? = some o1 ∧ ((((((w.alloc o0).alloc o1).alloc o2).alloc o3).alloc o4).alloc o5).heap[w.heap.size + 1 + 1]? = some o2 ∧
    ((((((w.alloc o0).alloc o1).alloc o2).alloc o3).alloc o4).alloc o5).heap[w.heap.size + 1 + 1 + 1]? = some o3 ∧ ((((((w.alloc o0).alloc o1).alloc o2).alloc o3).alloc o4).alloc o5).heap[w.heap.size + 1 + 1 + 1 + 1]? = some o4 ∧
    ((((((w.alloc o0).alloc o1).alloc o2).alloc o3).alloc o4).alloc o5).heap[w.heap.size + 1 + 1 + 1 + 1 + 1]? = some o5 := by
  have up : ∀ {a : World} {o : Obj} {k : Nat} {x : Obj}, a.heap[k]? = some x → (a.alloc o).heap[k]? = some x := fun h => heap_up (below_alloc _ _) h
  have e1 := alloc_self (w.alloc o0) o1
  have e2 := alloc_self ((w.alloc o0).alloc o1) o2
  have e3 := alloc_self (((w.alloc o0).alloc o1).alloc o2) o3
  have e4 := alloc_self ((((w.alloc o0).alloc o1).alloc o2).alloc o3) o4
  have e5 := alloc_self (((((w.alloc o0).alloc o1).alloc o2).alloc o3).alloc o4) o5
  simp only [World.size_alloc] at e1 e2 e3 e4 e5
  exact ⟨up (up (up (up e1))), up (up (up e2)), up (up e3), up e4, e5⟩
theorem exIn {w : World} {h : Nat} {output : ByteArray} {fr : Nat × Nat} {t1 t2 t3 t4 t5 : TypeId} (hz : output.size ≤ 140737488355328) (h1 : w.heap[h + 1]? = some (.cells #[.string ⟨#[97]⟩, .string ⟨#[120]⟩, .string ⟨#[98]⟩, .string ⟨#[121]⟩] t1 fr)) (h2 : w.heap[h + 1 + 1]? = some (.cells #[.string ⟨#[98]⟩, .string ⟨#[97]⟩] t2 fr))
    (h3 : w.heap[h + 1 + 1 + 1]? = some (.cells #[.string ⟨#[99]⟩] t3 fr)) (h4 : w.heap[h + 1 + 1 + 1 + 1]? = some (.cells #[.string ⟨#[97]⟩] t4 fr))
    (h5 : w.heap[h + 1 + 1 + 1 + 1 + 1]? = some (.cells #[.int .i64 1, .slice (some ⟨h + 1 + 1, 0, none⟩) 2 2, .string ⟨#[99]⟩, .bool false, .int .i64 4, .slice (some ⟨h + 1 + 1 + 1, 0, none⟩) 1 1, .string ⟨#[100]⟩, .bool false, .int .i64 0, .slice (some ⟨h + 1 + 1 + 1 + 1, 0, none⟩) 1 1, .string ⟨#[101]⟩, .bool false] t5 fr)) :
    RcpIn (exR output) (exL h) (.slice (some ⟨h + 1, 0, none⟩) 2 2) (.slice (some ⟨h + 1 + 1 + 1 + 1 + 1, 0, none⟩) 3 3) w := by
  refine ⟨fils_made exInputs h1 rfl (by decide) (fun f hf => by simp [exInputs] at hf; rcases hf with rfl | rfl <;> decide), ?_, rfl, hz⟩
  refine row_made (exL h) stpCells h5 rfl (by show (3 : Nat) ≤ _; decide) (fun y hy => ⟨rfl, rfl, ?_⟩)
  simp only [List.mem_cons, List.not_mem_nil, or_false] at hy
  rcases hy with rfl | rfl | rfl
  · exact ⟨strs_made [⟨#[98]⟩, ⟨#[97]⟩] h2 rfl (by decide) (small_sz _ (by decide)), by show (⟨#[99]⟩ : ByteArray).size ≤ _; decide⟩
  · exact ⟨strs_made [⟨#[99]⟩] h3 rfl (by decide) (small_sz _ (by decide)), by show (⟨#[100]⟩ : ByteArray).size ≤ _; decide⟩
  · exact ⟨strs_made [⟨#[97]⟩] h4 rfl (by decide) (small_sz _ (by decide)), by show (⟨#[101]⟩ : ByteArray).size ≤ _; decide⟩
set_option maxRecDepth 100000 in
theorem example_any (output : ByteArray) (w : World) (hz : output.size ≤ 140737488355328) :
    Calls Tryz.prog 59 #[.string output] w (RcpPost (exR output) w) := by
  go_enter Tryz.func59, Tryz.ntmps59
  go_wp2_with fail
  refine bodyPost_ret (v := rcpV (.slice (some ⟨w.heap.size + 1, 0, none⟩) 2 2) (.slice (some ⟨w.heap.size + 1 + 1 + 1 + 1 + 1, 0, none⟩) 3 3) output) (by simp [results, Tryz.results59, go_sem]) rfl ?_
  obtain ⟨h1, h2, h3, h4, h5⟩ := lay6 w (.cells #[.slice (some ⟨w.heap.size + 1, 0, none⟩) 2 2, .slice (some ⟨w.heap.size + 1 + 1 + 1 + 1 + 1, 0, none⟩) 3 3, .string output] 51) (.cells #[.string ⟨#[97]⟩, .string ⟨#[120]⟩, .string ⟨#[98]⟩, .string ⟨#[121]⟩] 40) (.cells #[.string ⟨#[98]⟩, .string ⟨#[97]⟩] 9) (.cells #[.string ⟨#[99]⟩] 9) (.cells #[.string ⟨#[97]⟩] 9)
    (.cells #[.int .i64 1, .slice (some ⟨w.heap.size + 1 + 1, 0, none⟩) 2 2, .string ⟨#[99]⟩, .bool false, .int .i64 4, .slice (some ⟨w.heap.size + 1 + 1 + 1, 0, none⟩) 1 1, .string ⟨#[100]⟩, .bool false, .int .i64 0, .slice (some ⟨w.heap.size + 1 + 1 + 1 + 1, 0, none⟩) 1 1, .string ⟨#[101]⟩, .bool false] 24)
  exact ⟨_, _, exL w.heap.size, rfl, exIn hz h1 h2 h3 h4 h5, below_trans (below_trans (below_trans (below_trans (below_trans (below_alloc _ _) (below_alloc _ _)) (below_alloc _ _)) (below_alloc _ _)) (below_alloc _ _)) (below_alloc _ _)⟩
end Go.Proofs.YtacgopankhpnbaaGreatDoor
/- Walks of ladinglaw33: few, light; ladingref33.Ints. -/
namespace Go.Proofs.YtacgopankhpnbaaGreatDoor
open Go.RowKit

set_option maxHeartbeats 1000000 in
theorem ints33_any (a b : List Int) (va vb : Value) (w : World) (ha : Ints w va a) (hb : Ints w vb b) :
    Calls Tryz.prog 60 #[va, vb] w fun e w' => e = .returned (.bool (decide (a = b))) ∧ Below w.heap.size w w' := by
  obtain ⟨aa, ca, hva, ha1, ha2, -⟩ := id ha
  obtain ⟨ab, cb, hvb, hb1, hb2, -⟩ := id hb
  subst hva hvb
  have HA := Lib.hid ha; have HB := Lib.hid hb
  clear ha hb
  by_cases hl : a.length = b.length
  · have HL := Lib.hid hl
    rw [← hl] at hb1 HB ⊢
    clear hl
    go_enter Tryz.func60, Tryz.ntmps60
    go_wp2_with fail
    go_loopw [5] (fun i wr => ∃ k : Nat, k ≤ a.length ∧ i = .int .i64 k ∧ Hid (a.take k = b.take k) ∧ Hid (Below w.heap.size w wr)) (fun i _ => a.length - (intOf i).toNat)
    case atStart => exact ⟨0, Nat.zero_le _, rfl, Lib.hid rfl, Lib.hid (Below.refl _ _)⟩
    case round =>
      obtain ⟨k, hk, rfl, HT, HW⟩ := hrel
      rename World => wr
      by_cases hlt : k < a.length
      · obtain ⟨x, hx, -⟩ := getElem?_of_lt hlt
        obtain ⟨y, hy, -⟩ := getElem?_of_lt (show k < b.length by rw [← HL.out]; exact hlt)
        rcases (HA.out.later HW.out).cases with ⟨e, -⟩ | ⟨b1, o1, c1, e, -, -, -, -, hc⟩
        · subst e; simp at hlt
        obtain ⟨rfl, rfl⟩ : aa = some ⟨b1, o1, none⟩ ∧ ca = c1 := by injection e with e1 e2 e3; exact ⟨e1, e3⟩
        have hB := HB.out.later HW.out
        obtain ⟨b2, o2, c2, e2, cy⟩ : ∃ b2 o2 c2, Value.slice ab a.length cb = .slice (some ⟨b2, o2, none⟩) b.length c2 ∧ wr.cell? ⟨b2, o2 + k, none⟩ = some (.int .i64 y) := by
          rcases hB.cases with ⟨e, -⟩ | ⟨b2, o2, c2, e, -, -, -, -, hc2⟩
          · rw [e] at hy; simp at hy
          · exact ⟨b2, o2, c2, e, hc2 k y hy⟩
        obtain rfl : ab = some ⟨b2, o2, none⟩ := by injection e2
        have cx : wr.cell? ⟨b1, o1 + k, none⟩ = some (.int .i64 x) := hc k x hx
        have HX := Lib.hid hx; have HY := Lib.hid hy
        clear hc hB e e2 hx hy
        by_cases he : x = y
        · subst he
          go_wp2_with fail
          go_region
          go_wp2_with fail
          go_roundw
          case rel => exact ⟨k + 1, by omega, by go_num, Lib.hid (by rw [List.take_add_one, List.take_add_one, HT.out, HX.out, HY.out]), Lib.hid HW.out.drew⟩
          case measure => simp [intOf]; omega
        · have hne : (x == y) = false := beq_eq_false_iff_ne.2 he
          have hne2 : (x != y) = true := by rw [bne_iff_ne]; exact he
          have HNe := Lib.hid he
          clear he
          go_wp2_with fail
          go_region
          go_wp2_with fail
          go_ret
          refine ⟨ret_bool ?_, HW.out.drew⟩
          rw [eq_comm, decide_eq_false_iff_not]
          intro h
          have h1 := HX.out; have h2 := HY.out
          rw [h, h2] at h1
          exact HNe.out (Option.some.inj h1).symm
      · go_wp2_with fail
        go_ret
        refine ⟨ret_bool ?_, HW.out⟩
        rw [eq_comm, decide_eq_true_iff]
        have h := HT.out
        rwa [List.take_of_length_le (by omega), List.take_of_length_le (by rw [← HL.out]; omega)] at h
  · have HL := Lib.hid hl
    have hl2 : ¬ (a.length : Int) = (b.length : Int) := by omega
    have hl3 : ((a.length : Int) != (b.length : Int)) = true := by rw [bne_iff_ne]; exact hl2
    clear hl hl2
    go_enter Tryz.func60, Tryz.ntmps60
    go_wp2_with fail
    all_goals
      go_ret
      refine ⟨ret_bool ?_, Below.refl _ _⟩
      rw [eq_comm, decide_eq_false_iff_not]
      intro h
      exact HL.out (by rw [h])
/-- What light comes to. -/
def AnyBool (w : World) (e : Ending) (w' : World) : Prop := ∃ q, e = .returned (.bool q) ∧ Below w.heap.size w w'
set_option maxHeartbeats 1000000 in
theorem light_any (a1 a2 a3 : Option Addr) (n1 n2 n3 c1 c2 c3 : Nat) (w : World) :
    Calls Tryz.prog 27 #[.agg #[.slice a1 n1 c1, .slice a2 n2 c2, .slice a3 n3 c3]] w (AnyBool w) := by
  by_cases h1 : (n1 : Int) ≤ 40
  · by_cases h2 : (n2 : Int) ≤ 40
    · go_enter Tryz.func27, Tryz.ntmps27
      go_wp2_with fail
      go_ret
      exact ⟨_, rfl, below_alloc _ _⟩
    · go_enter Tryz.func27, Tryz.ntmps27
      go_wp2_with fail
      go_ret
      exact ⟨_, rfl, below_alloc _ _⟩
  · go_enter Tryz.func27, Tryz.ntmps27
    go_wp2_with fail
    go_ret
    exact ⟨_, rfl, below_alloc _ _⟩
end Go.Proofs.YtacgopankhpnbaaGreatDoor
/- Walks of ladinglaw33: few. -/
namespace Go.Proofs.YtacgopankhpnbaaGreatDoor
open Go.RowKit

/-- What few comes to. -/
def FewPost (r : Rcp) (w : World) (e : Ending) (w' : World) : Prop := ∃ q : Bool, e = .returned (.bool q) ∧ (q = true → r.inputs.length ≤ 5 ∧ r.steps.length ≤ 8) ∧ Below w.heap.size w w'
set_option maxRecDepth 100000 in
set_option maxHeartbeats 4000000 in
theorem few_any (r : Rcp) (L : List (Value × Stp)) (vi vs : Value) (w : World) (h : RcpIn r L vi vs w) :
    Calls Tryz.prog 26 #[rcpV vi vs r.output] w (FewPost r w) := by
  have HB := Lib.hid (below_alloc w (rcpBox vi vs r.output))
  have HRcp := Lib.hid (h.later HB.out)
  obtain ⟨r0, r1, r2⟩ := box3 (alloc_self w (rcpBox vi vs r.output))
  obtain ⟨ai, ci, av, cv, rfl, rfl⟩ := h.slices
  have hlen := h.len
  have hin : r.inputs.length ≤ 9223372036854775807 := by obtain ⟨a, c, hv, h1, h2, -⟩ := h.inp; omega
  have hst : L.length ≤ 9223372036854775807 := by obtain ⟨a, c, hv, h1, h2, -⟩ := h.stp; omega
  have HLen := Lib.hid hlen
  clear h hlen
  go_enter Tryz.func26, Tryz.ntmps26
  go_wp2_with fail
  generalize w.alloc (rcpBox (.slice ai r.inputs.length ci) (.slice av L.length cv) r.output) = W at HB HRcp r0 r1 r2 ⊢
  go_loop [3] (fun i => ∃ k : Nat, k ≤ r.inputs.length ∧ i = .int .i64 k) (fun i => r.inputs.length - (intOf i).toNat)
  case atStart => exact ⟨0, Nat.zero_le _, rfl⟩
  case round =>
    obtain ⟨k, hk, rfl⟩ := hrel
    by_cases hlt : k < r.inputs.length ∧ k < 6
    · obtain ⟨hlt, h6⟩ := hlt
      obtain ⟨f, hf, -⟩ := getElem?_of_lt hlt
      rcases HRcp.out.inp.cases with ⟨e, -⟩ | ⟨b, o, c, e, -, -, -, -, hc⟩
      · rw [e] at hlt; simp at hlt
      obtain ⟨rfl, rfl⟩ : ai = some ⟨b, o, none⟩ ∧ ci = c := by injection e with e1 e2 e3; exact ⟨e1, e3⟩
      obtain ⟨f0, f1, -, -⟩ := hc k f hf
      clear hc e hf
      by_cases ht : (300 : Int) < f.text.size
      · first
          | (exfalso; omega)
          | (go_wp2_with fail; go_ret; exact ⟨_, rfl, (fun h => by (cases h)), HB.out⟩)
      · by_cases hn : (60 : Int) < f.name.size
        · first
            | (exfalso; omega)
            | (go_wp2_with fail; go_ret; exact ⟨_, rfl, (fun h => by (cases h)), HB.out⟩)
        · go_wp2_with fail
          go_round
          case rel => exact ⟨k + 1, by omega, by go_num⟩
          case measure => simp [intOf]; omega
    · by_cases h6 : k < r.inputs.length
      · have h7 : ¬ k < 6 := fun h => hlt ⟨h6, h⟩
        clear hlt
        go_wp2_with fail
        go_loop [4] (fun i => ∃ k : Nat, k ≤ L.length ∧ i = .int .i64 k) (fun i => L.length - (intOf i).toNat)
        case atStart => exact ⟨0, Nat.zero_le _, rfl⟩
        case round =>
          obtain ⟨k2, hk2, rfl⟩ := hrel
          by_cases hlt2 : k2 < L.length ∧ k2 < 9
          · obtain ⟨hlt2, h9⟩ := hlt2
            obtain ⟨y, hy, -⟩ := getElem?_of_lt hlt2
            rcases HRcp.out.stp.cases with ⟨e, -⟩ | ⟨b, o, c, e, -, -, -, -, hc⟩
            · rw [e] at hlt2; simp at hlt2
            obtain ⟨rfl, rfl⟩ : av = some ⟨b, o, none⟩ ∧ cv = c := by injection e with e1 e2 e3; exact ⟨e1, e3⟩
            obtain ⟨s0, s1, s2, s3, hsrc, -⟩ := hc k2 y hy
            obtain ⟨sa, sc, hvv⟩ := strs_slice hsrc
            obtain ⟨yv, kind, src, yo, sorted⟩ := y
            simp only at s0 s1 s2 s3 hvv
            subst hvv
            clear hc e hy hsrc
            by_cases ht : (4 : Int) < src.length
            · first
                | (exfalso; omega)
                | (go_wp2_with fail; go_ret; exact ⟨_, rfl, (fun h => by (cases h)), HB.out⟩)
            · by_cases hn : (60 : Int) < yo.size
              · first
                  | (exfalso; omega)
                  | (go_wp2_with fail; go_ret; exact ⟨_, rfl, (fun h => by (cases h)), HB.out⟩)
              · go_wp2_with fail
                go_round
                case rel => exact ⟨k2 + 1, by omega, by go_num⟩
                case measure => simp [intOf]; omega
          · by_cases h10 : k2 < L.length
            · have h11 : ¬ k2 < 9 := fun h => hlt2 ⟨h10, h⟩
              clear hlt2
              by_cases h5 : (r.inputs.length : Int) ≤ 5
              · by_cases h8 : (L.length : Int) ≤ 8
                · by_cases h60 : (r.output.size : Int) ≤ 60
                  · first
                      | (exfalso; omega)
                      | (go_wp2_with fail; go_ret; exact ⟨_, rfl, (fun _ => ⟨by omega, by rw [HLen.out]; omega⟩), HB.out⟩)
                  · first
                      | (exfalso; omega)
                      | (go_wp2_with fail; go_ret; exact ⟨_, rfl, (fun h => by (cases h)), HB.out⟩)
                · first
                    | (exfalso; omega)
                    | (go_wp2_with fail; go_ret; exact ⟨_, rfl, (fun h => by (cases h)), HB.out⟩)
              · first
                  | (exfalso; omega)
                  | (go_wp2_with fail; go_ret; exact ⟨_, rfl, (fun h => by (cases h)), HB.out⟩)
            · clear hlt2
              by_cases h5 : (r.inputs.length : Int) ≤ 5
              · by_cases h8 : (L.length : Int) ≤ 8
                · by_cases h60 : (r.output.size : Int) ≤ 60
                  · first
                      | (exfalso; omega)
                      | (go_wp2_with fail; go_ret; exact ⟨_, rfl, (fun _ => ⟨by omega, by rw [HLen.out]; omega⟩), HB.out⟩)
                  · first
                      | (exfalso; omega)
                      | (go_wp2_with fail; go_ret; exact ⟨_, rfl, (fun h => by (cases h)), HB.out⟩)
                · first
                    | (exfalso; omega)
                    | (go_wp2_with fail; go_ret; exact ⟨_, rfl, (fun h => by (cases h)), HB.out⟩)
              · first
                  | (exfalso; omega)
                  | (go_wp2_with fail; go_ret; exact ⟨_, rfl, (fun h => by (cases h)), HB.out⟩)
      · clear hlt
        go_wp2_with fail
        go_loop [4] (fun i => ∃ k : Nat, k ≤ L.length ∧ i = .int .i64 k) (fun i => L.length - (intOf i).toNat)
        case atStart => exact ⟨0, Nat.zero_le _, rfl⟩
        case round =>
          obtain ⟨k2, hk2, rfl⟩ := hrel
          by_cases hlt2 : k2 < L.length ∧ k2 < 9
          · obtain ⟨hlt2, h9⟩ := hlt2
            obtain ⟨y, hy, -⟩ := getElem?_of_lt hlt2
            rcases HRcp.out.stp.cases with ⟨e, -⟩ | ⟨b, o, c, e, -, -, -, -, hc⟩
            · rw [e] at hlt2; simp at hlt2
            obtain ⟨rfl, rfl⟩ : av = some ⟨b, o, none⟩ ∧ cv = c := by injection e with e1 e2 e3; exact ⟨e1, e3⟩
            obtain ⟨s0, s1, s2, s3, hsrc, -⟩ := hc k2 y hy
            obtain ⟨sa, sc, hvv⟩ := strs_slice hsrc
            obtain ⟨yv, kind, src, yo, sorted⟩ := y
            simp only at s0 s1 s2 s3 hvv
            subst hvv
            clear hc e hy hsrc
            by_cases ht : (4 : Int) < src.length
            · first
                | (exfalso; omega)
                | (go_wp2_with fail; go_ret; exact ⟨_, rfl, (fun h => by (cases h)), HB.out⟩)
            · by_cases hn : (60 : Int) < yo.size
              · first
                  | (exfalso; omega)
                  | (go_wp2_with fail; go_ret; exact ⟨_, rfl, (fun h => by (cases h)), HB.out⟩)
              · go_wp2_with fail
                go_round
                case rel => exact ⟨k2 + 1, by omega, by go_num⟩
                case measure => simp [intOf]; omega
          · by_cases h10 : k2 < L.length
            · have h11 : ¬ k2 < 9 := fun h => hlt2 ⟨h10, h⟩
              clear hlt2
              by_cases h5 : (r.inputs.length : Int) ≤ 5
              · by_cases h8 : (L.length : Int) ≤ 8
                · by_cases h60 : (r.output.size : Int) ≤ 60
                  · first
                      | (exfalso; omega)
                      | (go_wp2_with fail; go_ret; exact ⟨_, rfl, (fun _ => ⟨by omega, by rw [HLen.out]; omega⟩), HB.out⟩)
                  · first
                      | (exfalso; omega)
                      | (go_wp2_with fail; go_ret; exact ⟨_, rfl, (fun h => by (cases h)), HB.out⟩)
                · first
                    | (exfalso; omega)
                    | (go_wp2_with fail; go_ret; exact ⟨_, rfl, (fun h => by (cases h)), HB.out⟩)
              · first
                  | (exfalso; omega)
                  | (go_wp2_with fail; go_ret; exact ⟨_, rfl, (fun h => by (cases h)), HB.out⟩)
            · clear hlt2
              by_cases h5 : (r.inputs.length : Int) ≤ 5
              · by_cases h8 : (L.length : Int) ≤ 8
                · by_cases h60 : (r.output.size : Int) ≤ 60
                  · first
                      | (exfalso; omega)
                      | (go_wp2_with fail; go_ret; exact ⟨_, rfl, (fun _ => ⟨by omega, by rw [HLen.out]; omega⟩), HB.out⟩)
                  · first
                      | (exfalso; omega)
                      | (go_wp2_with fail; go_ret; exact ⟨_, rfl, (fun h => by (cases h)), HB.out⟩)
                · first
                    | (exfalso; omega)
                    | (go_wp2_with fail; go_ret; exact ⟨_, rfl, (fun h => by (cases h)), HB.out⟩)
              · first
                  | (exfalso; omega)
                  | (go_wp2_with fail; go_ret; exact ⟨_, rfl, (fun h => by (cases h)), HB.out⟩)
end Go.Proofs.YtacgopankhpnbaaGreatDoor
/- Walk of ladinglaw33.small. -/
namespace Go.Proofs.YtacgopankhpnbaaGreatDoor
open Go.RowKit

theorem exRight (o : ByteArray) (h : o = ⟨#[100]⟩ ∨ o = ⟨#[99]⟩) : inspectE (exR o) = 0 := by
  rcases h with rfl | rfl <;> kernel_rfl
theorem exDo (o : ByteArray) : ∀ s, s ∈ (exR o).steps → DoAll C0 s := by
  intro s hs
  have : s ∈ exSteps := hs
  simp only [exSteps, List.mem_cons, List.not_mem_nil, or_false] at this
  rcases this with rfl | rfl | rfl <;> exact doAll_plain (by decide)
/-- What Run of the example comes to. -/
def ExRunPost (w : World) (e : Ending) (w' : World) : Prop := ∃ b o c, e = .returned (.tuple #[.slice (some ⟨b, o, none⟩) 3 c, .string ⟨#[121, 120, 55, 59, 10]⟩, .int .i64 0]) ∧ w'.cell? ⟨b, o, none⟩ = some (.int .i64 2) ∧ w'.cell? ⟨b, o + 3, none⟩ = some (.int .i64 0) ∧ w'.cell? ⟨b, o + 6, none⟩ = some (.int .i64 1) ∧ 3 ≤ c ∧ Below w.heap.size w w'
theorem exRun_any (L : List (Value × Stp)) (vi vs vc vo vn : Value) (w : World) (h : RcpIn (exR ⟨#[100]⟩) L vi vs w) (hw : WldIn [7] [] [1] vc vo vn w) (hG : Glob w) :
    Calls Tryz.prog 29 #[rcpV vi vs ⟨#[100]⟩, .agg #[vc, vo, vn]] w (ExRunPost w) := by
  refine (run_good C0 (exR ⟨#[100]⟩) L vi vs vc vo vn [7] [] [1] w h hw hG (exDo _) (exRight _ (.inl rfl))).mono ?_
  rw [exRun]
  rintro e w' ⟨hb, v, M, rfl, hD, hM⟩
  have hl : M.length = 3 := by have := congrArg List.length hM; simpa using this
  rcases hD.cases with ⟨e, -⟩ | ⟨b, o, c, rfl, -, hc1, -, -, hc⟩
  · rw [e] at hl; cases hl
  rw [hl] at hc1 ⊢
  have at_ : ∀ i s, ((M.map (·.2))[i]?).map (·.step) = some s → w'.cell? ⟨b, o + i * 3, none⟩ = some (.int .i64 s) := fun i s hs => by
    rw [List.getElem?_map] at hs
    cases hy : M[i]? with
    | none => rw [hy] at hs; cases hs
    | some y =>
      rw [hy] at hs
      have := (hc i y hy).1
      rw [this]
      simp at hs; rw [hs]
  rw [hM] at at_
  exact ⟨b, o, c, rfl, at_ 0 2 rfl, at_ 1 0 rfl, at_ 2 1 rfl, hc1, hb⟩

set_option maxRecDepth 100000 in
set_option maxHeartbeats 8000000 in
theorem small33_any (w : World) (hG : Glob w) :
    Calls Tryz.prog 25 #[] w fun e w' => e = .returned (.bool true) ∧ Below w.heap.size w w' := by
  have HG := Lib.hid hG; clear hG
  go_enter Tryz.func25, Tryz.ntmps25
  go_wp2_with fail
  refine (example_any ⟨#[100]⟩ _ (by decide)).mono ?_
  rintro e w1 ⟨vi, vs, L, rfl, hr, hb⟩
  obtain ⟨ai, ci, av, cv, rfl, rfl⟩ := hr.slices
  have HB1 := Lib.hid hb
  have HR1 := Lib.hid hr
  clear hb hr
  go_wp2_with fail
  refine (exRun_any L _ _ _ _ _ _ (HR1.out.later (below_trans (below_alloc w1 (.cells #[.int .i64 7] 3)) (below_alloc _ (.cells #[.int .i64 1] 3)))) ⟨(ints_made [7] (alloc_self w1 _) rfl (by decide)).later (below_alloc _ _), ints_nil _, ?_, ?_, ?_, ?_⟩ ?_).mono ?_
  · have := ints_made (w := (w1.alloc (.cells #[.int .i64 7] 3)).alloc (.cells #[.int .i64 1] 3)) (g := w1.heap.size + 1) (cs := #[.int .i64 1]) (t := 3) (fr := (0, 0)) [1] (by have := alloc_self (w1.alloc (.cells #[.int .i64 7] 3)) (.cells #[.int .i64 1] 3); simpa only [World.size_alloc] using this) rfl (by decide)
    exact this
  · intro x hx; simp at hx; subst hx; decide
  · intro x hx; cases hx
  · intro x hx; simp at hx; subst hx; decide
  · exact HG.out.later (below_trans HB1.out (below_trans (below_alloc _ _) (below_alloc _ _)))
  rintro e w2 ⟨b, o, c, rfl, c0, c1, c2, hc3, hb⟩
  have HB2 := Lib.hid (below_trans HB1.out (below_trans (below_trans (below_alloc _ _) (below_alloc _ _)) hb))
  have hx : ((⟨#[121, 120, 55, 59, 10]⟩ : ByteArray).extract 0 2).toList = [121, 120] := by rw [toList_eq]; kernel_rfl
  clear hb HR1
  go_wp2_with fail
  refine (example_any ⟨#[100]⟩ _ (by decide)).mono ?_
  rintro e w3 ⟨vi3, vs3, L3, rfl, hr, hb⟩
  have HO3 := Lib.hid (order_any _ _ _ _ _ hr)
  have HB3 := Lib.hid (below_trans HB2.out hb)
  obtain ⟨ai3, ci3, av3, cv3, rfl, rfl⟩ := hr.slices
  rw [exOrder] at HO3
  clear hb hr
  go_wp2_with fail
  refine HO3.out.mono ?_
  rintro e w4 ⟨v4, rfl, hI, -, hb⟩
  have HB4 := Lib.hid (below_trans HB3.out hb)
  have HI4 := Lib.hid (ints33_any _ _ _ _ _ (hI.later (below_alloc w4 (.cells #[.int .i64 0, .int .i64 1, .int .i64 2] 3))) (ints_made [0, 1, 2] (alloc_self w4 _) rfl (by decide)))
  rw [decide_eq_true (show natInts [0, 1, 2] = [0, 1, 2] from rfl)] at HI4
  clear hI hb HO3
  go_wp2_with fail
  refine HI4.out.mono ?_
  rintro e w5 ⟨rfl, hb⟩
  have HB5 := Lib.hid (below_trans (below_trans HB4.out (below_alloc _ _)) hb)
  clear hb HI4
  go_wp2_with fail
  refine (example_any ⟨#[100]⟩ _ (by decide)).mono ?_
  rintro e w6 ⟨vi6, vs6, L6, rfl, hr, hb⟩
  have HO6 := Lib.hid (slice_any _ _ _ _ _ hr)
  have HB6 := Lib.hid (below_trans HB5.out hb)
  obtain ⟨ai6, ci6, av6, cv6, rfl, rfl⟩ := hr.slices
  rw [exSliceD] at HO6
  clear hb hr
  go_wp2_with fail
  refine HO6.out.mono ?_
  rintro e w7 ⟨v7, rfl, hI, -, hb⟩
  have HB7 := Lib.hid (below_trans HB6.out hb)
  have HI7 := Lib.hid (ints33_any _ _ _ _ _ (hI.later (below_alloc w7 (.cells #[.int .i64 0, .int .i64 1] 3))) (ints_made [0, 1] (alloc_self w7 _) rfl (by decide)))
  rw [decide_eq_true (show natInts [0, 1] = [0, 1] from rfl)] at HI7
  clear hI hb HO6
  go_wp2_with fail
  refine HI7.out.mono ?_
  rintro e w8 ⟨rfl, hb⟩
  have HB8 := Lib.hid (below_trans (below_trans HB7.out (below_alloc _ _)) hb)
  clear hb HI7
  go_wp2_with fail
  refine (example_any ⟨#[99]⟩ _ (by decide)).mono ?_
  rintro e w9 ⟨vi9, vs9, L9, rfl, hr, hb⟩
  have HO9 := Lib.hid (slice_any _ _ _ _ _ hr)
  have HB9 := Lib.hid (below_trans HB8.out hb)
  obtain ⟨ai9, ci9, av9, cv9, rfl, rfl⟩ := hr.slices
  rw [exSliceC] at HO9
  clear hb hr
  go_wp2_with fail
  refine HO9.out.mono ?_
  rintro e w10 ⟨v10, rfl, hI, -, hb⟩
  have HB10 := Lib.hid (below_trans HB9.out hb)
  have HI10 := Lib.hid (ints33_any _ _ _ _ _ (hI.later (below_alloc w10 (.cells #[.int .i64 0] 3))) (ints_made [0] (alloc_self w10 _) rfl (by decide)))
  rw [decide_eq_true (show natInts [0] = [0] from rfl)] at HI10
  clear hI hb HO9
  go_wp2_with fail
  refine HI10.out.mono ?_
  rintro e w11 ⟨rfl, hb⟩
  have HB11 := Lib.hid (below_trans (below_trans HB10.out (below_alloc _ _)) hb)
  clear hb HI10
  go_wp2_with fail
  refine (example_any ⟨#[100]⟩ _ (by decide)).mono ?_
  rintro e w12 ⟨vi12, vs12, L12, rfl, hr, hb⟩
  have HO12 := Lib.hid (pure_any _ _ _ _ _ hr)
  have HB12 := Lib.hid (below_trans HB11.out hb)
  obtain ⟨ai12, ci12, av12, cv12, rfl, rfl⟩ := hr.slices
  rw [exPureD] at HO12
  clear hb hr
  go_wp2_with fail
  refine HO12.out.mono ?_
  rintro e w13 ⟨rfl, hb⟩
  have HB13 := Lib.hid (below_trans HB12.out hb)
  clear hb HO12
  go_wp2_with fail
  refine (example_any ⟨#[99]⟩ _ (by decide)).mono ?_
  rintro e w14 ⟨vi14, vs14, L14, rfl, hr, hb⟩
  have HO14 := Lib.hid (pure_any _ _ _ _ _ hr)
  have HB14 := Lib.hid (below_trans HB13.out hb)
  obtain ⟨ai14, ci14, av14, cv14, rfl, rfl⟩ := hr.slices
  rw [exPureC] at HO14
  clear hb hr
  go_wp2_with fail
  refine HO14.out.mono ?_
  rintro e w15 ⟨rfl, hb⟩
  have HB15 := Lib.hid (below_trans HB14.out hb)
  clear hb HO14
  go_wp2_with fail
  go_ret
  exact ⟨rfl, HB15.out⟩
end Go.Proofs.YtacgopankhpnbaaGreatDoor
/- Lemmas for ladinglaw33.BuildRefuses: a list of steps with one more, in memory. -/
namespace Go.Proofs.YtacgopankhpnbaaGreatDoor
open Go.RowKit

theorem stpInfo : (Tryz.prog.info? 24).map (fun i => (i.zero, i.size, i.bytes)) = some (some (.agg #[.int .i64 0, .slice none 0 0, .string ByteArray.empty, .bool false]), 4, 56) := by kernel_rfl
theorem alloc_at1 (w : World) (o1 o2 : Obj) : ((w.alloc o1).alloc o2).heap[w.heap.size + 1]? = some o2 := by
  have := alloc_self (w.alloc o1) o2
  simpa only [World.size_alloc] using this
theorem alloc_at2 (w : World) (o1 o2 o3 : Obj) : (((w.alloc o1).alloc o2).alloc o3).heap[w.heap.size + 1 + 1]? = some o3 := by
  have := alloc_self ((w.alloc o1).alloc o2) o3
  simpa only [World.size_alloc] using this
theorem alloc_up1 {w : World} {o o2 : Obj} {k : Nat} (h : w.heap[k]? = some o) : (w.alloc o2).heap[k]? = some o := heap_up (below_alloc _ _) h
/-- An empty list that the call itself has made. -/
theorem own_empty {w : World} {base g : Nat} {t : TypeId} (h : w.heap[g]? = some (.cells #[] t)) (hb : base ≤ g) : w.ownsRow base t 4 (.slice (some ⟨g, 0, none⟩) 0 0) 0 [] :=
  ⟨rfl, .inr ⟨g, 0, #[], rfl, hb, h, Nat.le_refl _, Nat.zero_le _, rfl, rfl⟩⟩
/-- The cells of the steps that came in. -/
def NewsAt (w : World) (b o : Nat) (news : List Value) : Prop := ∀ (j : Nat) (u : Value), news[j]? = some u → w.cell? ⟨b, o + j, none⟩ = some u
theorem NewsAt.later {w w' : World} {b o : Nat} {news : List Value} (h : NewsAt w b o news) (hb : Below w.heap.size w w') : ∀ (j : Nat) (u : Value), news[j]? = some u → w'.cell? ((⟨b, o, none⟩ : Addr).add j) = some u := fun j u hu => by
  rw [Addr.add_lit]; exact cell_later hb (h j u hu)
theorem stpCells_len (L : List (Value × Stp)) : (L.flatMap stpCells).length = L.length * 4 := by
  induction L with
  | nil => rfl
  | cons a l ih => rw [List.flatMap_cons, List.length_append, ih]; simp; omega
theorem stps_news {w : World} {b o c : Nat} {L : List (Value × Stp)} (h : Stps w (.slice (some ⟨b, o, none⟩) L.length c) L) : NewsAt w b o (L.flatMap stpCells) := by
  intro j u hu
  have hlen : ∀ y, y ∈ L → (stpCells y).length = 4 := fun y _ => rfl
  rcases h.cases with ⟨e, -⟩ | ⟨b', o', c', e, h0, -, -, -, hc⟩
  · subst e; simp at hu
  injection e with e1
  cases e1
  have hj : j < L.length * 4 := by
    have := (List.getElem?_eq_some_iff.1 hu).1
    rw [stpCells_len] at this
    omega
  have hi : j / 4 < L.length := by omega
  have h1 := flatMap_at stpCells L (j / 4) L[j / 4] (j % 4) hlen (List.getElem?_eq_getElem hi) (by omega)
  rw [show j / 4 * 4 + j % 4 = j by omega, hu] at h1
  obtain ⟨s0, s1, s2, s3, -⟩ := hc (j / 4) L[j / 4] (List.getElem?_eq_getElem hi)
  have hm : j % 4 = 0 ∨ j % 4 = 1 ∨ j % 4 = 2 ∨ j % 4 = 3 := by omega
  rcases hm with hm | hm | hm | hm
  · rw [hm] at h1; cases h1; rw [show o + j = o + j / 4 * 4 by omega]; exact s0
  · rw [hm] at h1; cases h1; rw [show o + j = o + j / 4 * 4 + 1 by omega]; exact s1
  · rw [hm] at h1; cases h1; rw [show o + j = o + j / 4 * 4 + 2 by omega]; exact s2
  · rw [hm] at h1; cases h1; rw [show o + j = o + j / 4 * 4 + 3 by omega]; exact s3
theorem stpCells_one {w : World} {v : Value} {L : List (Value × Stp)} (h : Stps w v L) : ∀ u, u ∈ L.flatMap stpCells → u.oneCell' = true := by
  intro u hu
  obtain ⟨y, hy, hu⟩ := List.mem_flatMap.1 hu
  obtain ⟨a, c, hv⟩ := strs_slice (h.src hy).1
  simp only [stpCells, List.mem_cons, List.not_mem_nil, or_false] at hu
  rcases hu with rfl | rfl | rfl | rfl
  · rfl
  · rw [hv]; rfl
  · rfl
  · rfl
/-- Behind an append to a list of the call's own: the elder blocks are as they were. -/
theorem grown_new {w before x : World} {g : Nat} (hb : Below w.heap.size w before) (hg : before.grownBy x (some g)) (hw : w.heap.size ≤ g) : Below w.heap.size w x :=
  ⟨hg.os.trans hb.os, hg.tape.trans hb.tape, hg.output.trans hb.output, by have := hg.size; have := hb.size; omega, fun j hj => (hg.block j (by have := hb.size; omega) (fun e => by cases e; omega)).trans (hb.block j hj)⟩
theorem stps_of_owns {w : World} {base : Nat} {e : TypeId} {v : Value} {l : List (Value × Stp)} (h : w.ownsRow base e 4 v l.length (l.flatMap stpCells)) (hz : ∀ y, y ∈ l → Strs w y.1 y.2.src ∧ y.2.out.size ≤ 140737488355328) : Stps w v l := by
  rcases h.2 with ⟨rfl, h0⟩ | ⟨g, cap, cur, rfl, hg, hgb, r1, r2, r3, r4⟩
  · have := List.eq_nil_of_length_eq_zero h0
    subst this
    exact ⟨none, 0, rfl, by simp, by simp, fun h => absurd rfl h⟩
  · refine ⟨_, cap, rfl, r1, r2, fun _ => ⟨g, 0, rfl, fun i y hy => ⟨_, ⟨rfl, hz y (List.mem_of_getElem? hy)⟩, rfl, fun j u hu => ?_⟩⟩⟩
    have hi := (List.getElem?_eq_some_iff.1 hy).1
    have hj : j < 4 := (List.getElem?_eq_some_iff.1 hu).1
    have h1 := flatMap_at stpCells l i y j (fun y _ => rfl) hy hj
    rw [show (stpCells y)[j]? = some u from hu] at h1
    have := congrArg (fun t : List Value => t[i * 4 + j]?) r4
    rw [List.getElem?_take, if_pos (by omega), h1] at this
    have h2 : cur[i * 4 + j]? = some u := by simpa using this
    simp [World.cell?, hgb, h2]
/-- A recipe with one more step. -/
theorem rcp_more {r : Rcp} {L : List (Value × Stp)} {vi vs vf v : Value} {w x : World} {base : Nat} {e : TypeId} {t : Stp} (h : RcpIn r L vi vs w) (hb : Below w.heap.size w x) (hown : x.ownsRow base e 4 v (L.length + 1) (L.flatMap stpCells ++ [.int .i64 t.kind, vf, .string t.out, .bool t.sorted])) (hs : Strs x vf t.src) (ho : t.out.size ≤ 140737488355328) :
    RcpIn (more r t) (L ++ [(vf, t)]) vi v x := by
  refine ⟨h.inp.later hb, stps_of_owns (by simpa using hown) (fun y hy => ?_), by simp [more, h.map], h.out⟩
  rcases List.mem_append.1 hy with hy | hy
  · exact ⟨((h.stp.src hy).1).later hb, (h.stp.src hy).2⟩
  · simp at hy; subst hy; exact ⟨hs, ho⟩
/-- A copy of a recipe that has one more step; w5: the world before the copy's box was made. -/
structure TwS (r : Rcp) (t : Stp) (vi : Value) (p : Nat) (w5 wx : World) : Prop where
  rcp : ∃ (a : Option Addr) (n c : Nat) (L : List (Value × Stp)), RcpIn (more r t) L vi (.slice a n c) wx ∧ wx.heap[p]? = some (rcpBox vi (.slice a n c) r.output)
  below : Below w5.heap.size w5 wx
theorem tw_made {r : Rcp} {L : List (Value × Stp)} {vi vs : Value} {w5 w6 x : World} {p f g c : Nat} {s out : ByteArray} {t9 e : TypeId} (hr : RcpIn r L vi vs w5) (h56 : Below w5.heap.size w5 w6) (hp : p = w5.heap.size) (h6 : p < w6.heap.size) (hT : w6.heap[p]? = some (rcpBox vi vs r.output)) (hb : Below w6.heap.size w6 x)
    (hown : x.ownsRow w6.heap.size e 4 (.slice (some ⟨g, 0, none⟩) (L.length + 1) c) (L.length + 1) (L.flatMap stpCells ++ [.int .i64 0, .slice (some ⟨f, 0, none⟩) 1 1, .string out, .bool false])) (hf : x.heap[f]? = some (.cells #[.string s] t9)) (hs : s.size ≤ 140737488355328) (ho : out.size ≤ 140737488355328) :
    TwS r (copyStep s out) vi p w5 (x.setCell ⟨p, 1, none⟩ (.slice (some ⟨g, 0, none⟩) (L.length + 1) c)) := by
  have hx : x.heap[p]? = some (rcpBox vi vs r.output) := heap_up hb hT
  have hfp : f ≠ p := by
    rintro rfl
    rw [hf] at hx
    simp at hx
  have hb5 : Below w5.heap.size w5 (x.setCell ⟨p, 1, none⟩ (.slice (some ⟨g, 0, none⟩) (L.length + 1) c)) := (below_trans h56 hb).setCell (by simp; omega) _
  refine ⟨⟨some ⟨g, 0, none⟩, L.length + 1, c, L ++ [(.slice (some ⟨f, 0, none⟩) 1 1, copyStep s out)], ?_, ?_⟩, hb5⟩
  · refine rcp_more (t := copyStep s out) (base := w6.heap.size) (e := e) hr hb5 (ownsRow_setCell_below hown (a := ⟨p, 1, none⟩) (by simp; omega) _) ?_ ho
    have hf2 : (x.setCell ⟨p, 1, none⟩ (.slice (some ⟨g, 0, none⟩) (L.length + 1) c)).heap[f]? = some (.cells #[.string s] t9) := by
      rw [Below.heap_setCell _ _ _ _ (by simpa using hfp)]; exact hf
    exact strs_made [s] hf2 rfl (by show (1 : Nat) ≤ _; decide) (fun y hy => by simp at hy; subst hy; exact hs)
  · simp [World.setCell, Array.getElem?_modify, hx]
end Go.Proofs.YtacgopankhpnbaaGreatDoor
