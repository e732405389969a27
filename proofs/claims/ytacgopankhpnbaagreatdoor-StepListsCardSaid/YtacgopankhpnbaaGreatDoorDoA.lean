/- Walks of package step: Do, the early errors. -/
import Derived.Test.YtacgopankhpnbaaGreatDoorStepJ
import Derived.Test.YtacgopankhpnbaaGreatDoorStepD
import Derived.Test.YtacgopankhpnbaaGreatDoorClone
namespace Go.Proofs.YtacgopankhpnbaaGreatDoor
open Go.RowKit

theorem res_cells {w : World} {b : Nat} {u v x y : Value} (h0 : w.cell? ⟨b, 0, none⟩ = some x) (h1 : w.cell? ⟨b, 1, none⟩ = some y) :
    ((w.setCell ⟨b, 0, none⟩ u).setCell ⟨b, 1, none⟩ v).drew.cell? ⟨b, 0, none⟩ = some u ∧ ((w.setCell ⟨b, 0, none⟩ u).setCell ⟨b, 1, none⟩ v).drew.cell? ⟨b, 1, none⟩ = some v := by
  obtain ⟨c, e, fr, hb, hc0⟩ := Sort.cells_of_cell? h0
  obtain ⟨c', e', fr', hb', hc1⟩ := Sort.cells_of_cell? h1
  rw [hb] at hb'; cases hb'
  have i0 : 0 < c.size := by rcases Nat.lt_or_ge 0 c.size with h | h; exact h; rw [Array.getElem?_eq_none h] at hc0; cases hc0
  have i1 : 1 < c.size := by rcases Nat.lt_or_ge 1 c.size with h | h; exact h; rw [Array.getElem?_eq_none h] at hc1; cases hc1
  have hH : ((w.setCell ⟨b, 0, none⟩ u).setCell ⟨b, 1, none⟩ v).drew.heap[b]? = some (.cells ((c.setIfInBounds 0 u).setIfInBounds 1 v) e fr) := by
    show ((w.setCell ⟨b, 0, none⟩ u).setCell ⟨b, 1, none⟩ v).heap[b]? = _
    simp [World.setCell, Array.getElem?_modify, hb]
  constructor
  · simp only [World.cell?, hH]; simp [i0]
  · simp only [World.cell?, hH]; simp [i1]
/-- What is handed to Do. -/
structure DoIn (s : Stp) (files : List Fil) (clock order : List Int) (vf vl vc vo vn : Value) (u0 u1 : Int) (w : World) : Prop where
  hglob : Glob w
  hsrc : Strs w vf s.src
  hout : s.out.size ≤ 140737488355328
  hfil : Fils w vl files
  hclk : Ints w vc clock
  hord : Ints w vo order
  hnxt : ∃ a n c, vn = .slice a n c
  hu0 : -9223372036854775808 ≤ u0 ∧ u0 ≤ 1152921504606846976
  hu1 : -9223372036854775808 ≤ u1 ∧ u1 ≤ 1152921504606846976
  hcwf : ∀ x, x ∈ clock → (Lit.int .i64 x).wf = true
  howf : ∀ x, x ∈ order → (Lit.int .i64 x).wf = true

/-- Do's arguments. -/
abbrev doArgs (s : Stp) (vf vl vc vo vn : Value) (u0 u1 : Int) : Array Value :=
  #[.agg #[.int .i64 s.kind, vf, .string s.out, .bool s.sorted], vl, .agg #[vc, vo, vn], .agg #[.int .i64 u0, .int .i64 u1]]

/-- What Do returns with an error. -/
abbrev doErr (u0 u1 e : Int) : Value := .tuple #[.slice none 0 0, .slice none 0 0, .agg #[.int .i64 u0, .int .i64 u1], .int .i64 e]

theorem value_slices {s : Stp} {files : List Fil} {clock order : List Int} {vf vl vc vo vn : Value} {u0 u1 : Int} {w : World} (h : DoIn s files clock order vf vl vc vo vn u0 u1 w) :
    (∃ a c, vf = .slice a s.src.length c) ∧ (∃ a c, vl = .slice a files.length c) ∧ (∃ a n c, vc = .slice a n c) ∧ (∃ a n c, vo = .slice a n c) ∧ (∃ a n c, vn = .slice a n c) := by
  obtain ⟨a1, c1, h1, -⟩ := h.hsrc
  obtain ⟨a2, c2, h2, -⟩ := h.hfil
  obtain ⟨a3, c3, h3, -⟩ := h.hclk
  obtain ⟨a4, c4, h4, -⟩ := h.hord
  exact ⟨⟨a1, c1, h1⟩, ⟨a2, c2, h2⟩, ⟨a3, _, c3, h3⟩, ⟨a4, _, c4, h4⟩, h.hnxt⟩

/-- The four boxes that Do lays first, in a later world. -/
structure DoBoxes (w W : World) (kind : Int) (vf : Value) (out : ByteArray) (sorted : Bool) (vc vo vn : Value) (u0 u1 : Int) : Prop where
  bs : W.heap[w.heap.size]? = some (.cells #[.int .i64 kind, vf, .string out, .bool sorted] 24 (0, 0))
  bw : W.heap[w.heap.size + 1]? = some (.cells #[vc, vo, vn] 28 (0, 0))
  bu : W.heap[w.heap.size + 1 + 1]? = some (.cells #[.int .i64 u0, .int .i64 u1] 31 (0, 0))
  br : W.heap[w.heap.size + 1 + 1 + 1]? = some (.cells #[.int .i64 0, .int .i64 0] 31 (0, 0))
  below : Below w.heap.size w W
theorem heap_lt {W : World} {k : Nat} {o : Obj} (h : W.heap[k]? = some o) : k < W.heap.size := (Array.getElem?_eq_some_iff.1 h).1
theorem DoBoxes.made (w : World) (kind : Int) (vf : Value) (out : ByteArray) (sorted : Bool) (vc vo vn : Value) (u0 u1 : Int) :
    DoBoxes w ((((w.alloc (.cells #[.int .i64 kind, vf, .string out, .bool sorted] 24)).alloc (.cells #[vc, vo, vn] 28)).alloc (.cells #[.int .i64 u0, .int .i64 u1] 31)).alloc (.cells #[.int .i64 0, .int .i64 0] 31)) kind vf out sorted vc vo vn u0 u1 := by
  refine ⟨?_, ?_, ?_, ?_, ((((Below.refl _ w).alloc (Nat.le_refl _) _).alloc (by simp) _).alloc (by simp; omega) _).alloc (by simp; omega) _⟩
  · rw [Below.heap_alloc _ _ _ (by simp; omega), Below.heap_alloc _ _ _ (by simp; omega), Below.heap_alloc _ _ _ (by simp), alloc_self]
  · rw [Below.heap_alloc _ _ _ (by simp), Below.heap_alloc _ _ _ (by simp)]
    have h := alloc_self (w.alloc (.cells #[.int .i64 kind, vf, .string out, .bool sorted] 24)) (.cells #[vc, vo, vn] 28)
    simpa only [World.size_alloc] using h
  · rw [Below.heap_alloc _ _ _ (by simp)]
    have h := alloc_self ((w.alloc (.cells #[.int .i64 kind, vf, .string out, .bool sorted] 24)).alloc (.cells #[vc, vo, vn] 28)) (.cells #[.int .i64 u0, .int .i64 u1] 31)
    simpa only [World.size_alloc] using h
  · have h := alloc_self (((w.alloc (.cells #[.int .i64 kind, vf, .string out, .bool sorted] 24)).alloc (.cells #[vc, vo, vn] 28)).alloc (.cells #[.int .i64 u0, .int .i64 u1] 31)) (.cells #[.int .i64 0, .int .i64 0] 31)
    simpa only [World.size_alloc] using h
section
variable {w W W' : World} {kind : Int} {vf : Value} {out : ByteArray} {sorted : Bool} {vc vo vn : Value} {u0 u1 : Int}
theorem DoBoxes.later (h : DoBoxes w W kind vf out sorted vc vo vn u0 u1) (hb : Below W.heap.size W W') : DoBoxes w W' kind vf out sorted vc vo vn u0 u1 :=
  ⟨(hb.block _ (heap_lt h.bs)).trans h.bs, (hb.block _ (heap_lt h.bw)).trans h.bw, (hb.block _ (heap_lt h.bu)).trans h.bu, (hb.block _ (heap_lt h.br)).trans h.br, below_trans h.below hb⟩
theorem DoBoxes.only {b : Nat} (h : DoBoxes w W kind vf out sorted vc vo vn u0 u1) (hb : Only b W W') (hbb : w.heap.size + 1 + 1 + 1 < b) : DoBoxes w W' kind vf out sorted vc vo vn u0 u1 :=
  ⟨(hb.block _ (heap_lt h.bs) (by omega)).trans h.bs, (hb.block _ (heap_lt h.bw) (by omega)).trans h.bw, (hb.block _ (heap_lt h.bu) (by omega)).trans h.bu, (hb.block _ (heap_lt h.br) (by omega)).trans h.br, hb.below h.below (by omega) (by have := heap_lt h.bs; omega)⟩
theorem DoBoxes.cells (h : DoBoxes w W kind vf out sorted vc vo vn u0 u1) :
    W.cell? ⟨w.heap.size, 0, none⟩ = some (.int .i64 kind) ∧ W.cell? ⟨w.heap.size, 1, none⟩ = some vf ∧ W.cell? ⟨w.heap.size, 2, none⟩ = some (.string out) ∧ W.cell? ⟨w.heap.size, 3, none⟩ = some (.bool sorted) ∧
    W.cell? ⟨w.heap.size + 1, 0, none⟩ = some vc ∧ W.cell? ⟨w.heap.size + 1, 1, none⟩ = some vo ∧ W.cell? ⟨w.heap.size + 1, 2, none⟩ = some vn ∧
    W.cell? ⟨w.heap.size + 1 + 1, 0, none⟩ = some (.int .i64 u0) ∧ W.cell? ⟨w.heap.size + 1 + 1, 1, none⟩ = some (.int .i64 u1) ∧
    W.cell? ⟨w.heap.size + 1 + 1 + 1, 0, none⟩ = some (.int .i64 0) ∧ W.cell? ⟨w.heap.size + 1 + 1 + 1, 1, none⟩ = some (.int .i64 0) ∧
    W.frozen? ⟨w.heap.size + 1 + 1 + 1, 0, none⟩ = false ∧ W.frozen? ⟨w.heap.size + 1 + 1 + 1, 1, none⟩ = false := by
  obtain ⟨h1, h2, h3, h4, -⟩ := h
  refine ⟨?_, ?_, ?_, ?_, ?_, ?_, ?_, ?_, ?_, ?_, ?_, ?_, ?_⟩ <;> simp [World.cell?, World.frozen?, h1, h2, h3, h4]
/-- The end of a call that returns an error. -/
theorem DoBoxes.err {e : Int} {a : Act} (h : DoBoxes w W kind vf out sorted vc vo vn u0 u1) (h8 : a.tmps[8]?.getD undef = .slice none 0 0) (h9 : a.tmps[9]?.getD undef = .slice none 0 0) (h10 : a.tmps[10]?.getD undef = .pointer (some ⟨w.heap.size + 1 + 1 + 1, 0, none⟩)) (h11 : a.tmps[11]?.getD undef = .int .i64 e) (hd : a.defers = []) {R : Ending → World → Prop}
    (hR : ∀ W', Below w.heap.size w W' → R (.returned (doErr u0 u1 e)) W') :
    bodyPost Tryz.prog Tryz.f17 R .ret a ((W.setCell ⟨w.heap.size + 1 + 1 + 1, 0, none⟩ (.int .i64 u0)).setCell ⟨w.heap.size + 1 + 1 + 1, 1, none⟩ (.int .i64 u1)).drew := by
  obtain ⟨-, -, -, -, -, -, -, -, -, r0, r1, -, -⟩ := h.cells
  have hr := res_cells (w := W) (b := w.heap.size + 1 + 1 + 1) (u := .int .i64 u0) (v := .int .i64 u1) r0 r1
  refine bodyPost_ret (v := doErr u0 u1 e) (by simp [results, Tryz.results17, go_sem, hr.1, hr.2, h8, h9, h10, h11]) hd (hR _ ?_)
  exact ((h.below.setCell (by simp; omega) _).setCell (by simp; omega) _).drew
end
set_option maxHeartbeats 1000000 in
set_option maxRecDepth 100000 in
theorem do_arg (s : Stp) (files : List Fil) (clock order : List Int) (vf vl vc vo vn : Value) (u0 u1 : Int) (w : World) (h : DoIn s files clock order vf vl vc vo vn u0 u1 w)
    (hbad : stepRight s = false ∨ rightFiles files = false ∨ min u0 u1 < 0) :
    Calls Tryz.prog 17 (doArgs s vf vl vc vo vn u0 u1) w fun e w' => e = .returned (doErr u0 u1 1) ∧ Below w.heap.size w w' := by
  obtain ⟨⟨a1, c1, e1⟩, ⟨a2, c2, e2⟩, ⟨a3, n3, c3, e3⟩, ⟨a4, n4, c4, e4⟩, ⟨a5, n5, c5, e5⟩⟩ := value_slices h
  have HR : Hid (∀ W, Below w.heap.size w W → Calls Tryz.prog 24 #[.agg #[.int .i64 s.kind, vf, .string s.out, .bool s.sorted]] W fun e w' => e = .returned (.bool (stepRight s)) ∧ Below W.heap.size W w') :=
    Lib.hid fun W hb => stepRight_any s vf W (h.hsrc.later hb) h.hout
  have HF : Hid (∀ W, Below w.heap.size w W → Calls Tryz.prog 51 #[vl] W fun e w' => e = .returned (.bool (rightFiles files)) ∧ Below W.heap.size W w') :=
    Lib.hid fun W hb => rightFiles_any files vl W (h.hfil.later hb)
  obtain ⟨kind, src, out, sorted⟩ := s
  have hu0 := h.hu0
  have hu1 := h.hu1
  clear h
  simp only at e1
  subst e1 e2 e3 e4 e5
  unfold doArgs
  simp only at HR HF ⊢
  generalize stepRight ⟨kind, src, out, sorted⟩ = r1 at HR hbad
  generalize rightFiles files = r2 at HF hbad
  have hm0 := DoBoxes.made w kind (.slice a1 src.length c1) out sorted (.slice a3 n3 c3) (.slice a4 n4 c4) (.slice a5 n5 c5) u0 u1
  have HB0 := Lib.hid hm0; clear hm0
  cases r1 with
  | false =>
    clear hbad HF
    go_enter Tryz.func17, Tryz.ntmps17
    go_wp2_with fail
    refine (HR.out _ HB0.out.below).mono ?_
    rintro e w1 ⟨rfl, hb1⟩
    have HB1 := Lib.hid (HB0.out.later hb1); clear HB0 hb1
    obtain ⟨-, -, -, -, -, -, -, x0, x1, r0, r1, f0, f1⟩ := HB1.out.cells
    go_wp2_with fail
    go_region
    go_wp2_with fail
    exact HB1.out.err rfl rfl rfl rfl rfl fun W' hW => ⟨rfl, hW⟩
  | true =>
    cases r2 with
    | false =>
      clear hbad
      go_enter Tryz.func17, Tryz.ntmps17
      go_wp2_with fail
      refine (HR.out _ HB0.out.below).mono ?_
      rintro e w1 ⟨rfl, hb1⟩
      have HB1 := Lib.hid (HB0.out.later hb1); clear HB0 hb1
      go_wp2_with fail
      refine (HF.out _ HB1.out.below).mono ?_
      rintro e w2 ⟨rfl, hb2⟩
      have HB2 := Lib.hid (HB1.out.later hb2); clear HB1 hb2
      obtain ⟨-, -, -, -, -, -, -, x0, x1, r0, r1, f0, f1⟩ := HB2.out.cells
      go_wp2_with fail
      go_region
      go_wp2_with fail
      exact HB2.out.err rfl rfl rfl rfl rfl fun W' hW => ⟨rfl, hW⟩
    | true =>
      have hmin : min u0 u1 < 0 := by simpa using hbad
      clear hbad
      go_enter Tryz.func17, Tryz.ntmps17
      go_wp2_with fail
      refine (HR.out _ HB0.out.below).mono ?_
      rintro e w1 ⟨rfl, hb1⟩
      have HB1 := Lib.hid (HB0.out.later hb1); clear HB0 hb1
      go_wp2_with fail
      refine (HF.out _ HB1.out.below).mono ?_
      rintro e w2 ⟨rfl, hb2⟩
      have HB2 := Lib.hid (HB1.out.later hb2); clear HB1 hb2
      obtain ⟨-, -, -, -, -, -, -, x0, x1, r0, r1, f0, f1⟩ := HB2.out.cells
      go_wp2_with fail
      go_region
      go_wp2_with fail
      exact HB2.out.err rfl rfl rfl rfl rfl fun W' hW => ⟨rfl, hW⟩

set_option maxHeartbeats 1000000 in
set_option maxRecDepth 100000 in
theorem do_twice (s : Stp) (files : List Fil) (clock order : List Int) (vf vl vc vo vn : Value) (u0 u1 : Int) (w : World) (h : DoIn s files clock order vf vl vc vo vn u0 u1 w)
    (hr1 : stepRight s = true) (hr2 : rightFiles files = true) (hmin : ¬ min u0 u1 < 0) (t : ByteArray) (ht : findFile files s.out = some t) :
    Calls Tryz.prog 17 (doArgs s vf vl vc vo vn u0 u1) w fun e w' => e = .returned (doErr u0 u1 5) ∧ Below w.heap.size w w' := by
  have HT := Lib.hid (show findV files s.out = .tuple #[.string t, .bool true] by unfold findV; rw [ht]); clear ht
  obtain ⟨⟨a1, c1, e1⟩, ⟨a2, c2, e2⟩, ⟨a3, n3, c3, e3⟩, ⟨a4, n4, c4, e4⟩, ⟨a5, n5, c5, e5⟩⟩ := value_slices h
  have HR : Hid (∀ W, Below w.heap.size w W → Calls Tryz.prog 24 #[.agg #[.int .i64 s.kind, vf, .string s.out, .bool s.sorted]] W fun e w' => e = .returned (.bool true) ∧ Below W.heap.size W w') :=
    Lib.hid fun W hb => hr1 ▸ stepRight_any s vf W (h.hsrc.later hb) h.hout
  have HF : Hid (∀ W, Below w.heap.size w W → Calls Tryz.prog 51 #[vl] W fun e w' => e = .returned (.bool true) ∧ Below W.heap.size W w') :=
    Lib.hid fun W hb => hr2 ▸ rightFiles_any files vl W (h.hfil.later hb)
  have HFd : Hid (∀ W x, Below w.heap.size w W → Calls Tryz.prog 21 #[vl, .string x] W fun e w' => e = .returned (findV files x) ∧ Below W.heap.size W w') :=
    Lib.hid fun W x hb => find_any files vl x W (h.hfil.later hb)
  have HIn := Lib.hid h
  obtain ⟨kind, src, out, sorted⟩ := s
  have hu0 := h.hu0
  have hu1 := h.hu1
  clear h
  simp only at e1
  subst e1 e2 e3 e4 e5
  unfold doArgs
  simp only at HR HF ⊢
  have hm0 := DoBoxes.made w kind (.slice a1 src.length c1) out sorted (.slice a3 n3 c3) (.slice a4 n4 c4) (.slice a5 n5 c5) u0 u1
  have HB0 := Lib.hid hm0; clear hm0 hr1 hr2
  simp only at HT
  go_enter Tryz.func17, Tryz.ntmps17
  go_wp2_with fail
  refine (HR.out _ HB0.out.below).mono ?_
  rintro e w1 ⟨rfl, hb1⟩
  have HB1 := Lib.hid (HB0.out.later hb1); clear HB0 hb1
  go_wp2_with fail
  refine (HF.out _ HB1.out.below).mono ?_
  rintro e w2 ⟨rfl, hb2⟩
  have HB2 := Lib.hid (HB1.out.later hb2); clear HB1 hb2
  obtain ⟨s0, s1, s2, s3, y0, y1, y2, x0, x1, r0, r1, f0, f1⟩ := HB2.out.cells
  go_wp2_with fail
  refine (HFd.out _ _ HB2.out.below).mono ?_
  rw [HT.out]
  rintro e w3 ⟨rfl, hb3⟩
  have HB3 := Lib.hid (HB2.out.later hb3); clear HB2 hb3 s0 s1 s2 s3 y0 y1 y2 x0 x1 r0 r1 f0 f1
  obtain ⟨s0, s1, s2, s3, y0, y1, y2, x0, x1, r0, r1, f0, f1⟩ := HB3.out.cells
  go_wp2_with fail
  go_region
  go_wp2_with fail
  exact HB3.out.err rfl rfl rfl rfl rfl fun W' hW => ⟨rfl, hW⟩

set_option maxHeartbeats 1000000 in
set_option maxRecDepth 100000 in
theorem do_full (s : Stp) (files : List Fil) (clock order : List Int) (vf vl vc vo vn : Value) (u0 u1 : Int) (w : World) (h : DoIn s files clock order vf vl vc vo vn u0 u1 w)
    (hr1 : stepRight s = true) (hr2 : rightFiles files = true) (hmin : ¬ min u0 u1 < 0) (ht : findFile files s.out = none) (hfull : 60 ≤ files.length) :
    Calls Tryz.prog 17 (doArgs s vf vl vc vo vn u0 u1) w fun e w' => e = .returned (doErr u0 u1 6) ∧ Below w.heap.size w w' := by
  have HT := Lib.hid (show findV files s.out = .tuple #[.string ByteArray.empty, .bool false] by unfold findV; rw [ht]); clear ht
  obtain ⟨⟨a1, c1, e1⟩, ⟨a2, c2, e2⟩, ⟨a3, n3, c3, e3⟩, ⟨a4, n4, c4, e4⟩, ⟨a5, n5, c5, e5⟩⟩ := value_slices h
  have HR : Hid (∀ W, Below w.heap.size w W → Calls Tryz.prog 24 #[.agg #[.int .i64 s.kind, vf, .string s.out, .bool s.sorted]] W fun e w' => e = .returned (.bool true) ∧ Below W.heap.size W w') :=
    Lib.hid fun W hb => hr1 ▸ stepRight_any s vf W (h.hsrc.later hb) h.hout
  have HF : Hid (∀ W, Below w.heap.size w W → Calls Tryz.prog 51 #[vl] W fun e w' => e = .returned (.bool true) ∧ Below W.heap.size W w') :=
    Lib.hid fun W hb => hr2 ▸ rightFiles_any files vl W (h.hfil.later hb)
  have HFd : Hid (∀ W x, Below w.heap.size w W → Calls Tryz.prog 21 #[vl, .string x] W fun e w' => e = .returned (findV files x) ∧ Below W.heap.size W w') :=
    Lib.hid fun W x hb => find_any files vl x W (h.hfil.later hb)
  have HIn := Lib.hid h
  obtain ⟨kind, src, out, sorted⟩ := s
  have hu0 := h.hu0
  have hu1 := h.hu1
  clear h
  simp only at e1
  subst e1 e2 e3 e4 e5
  unfold doArgs
  simp only at HR HF ⊢
  have hm0 := DoBoxes.made w kind (.slice a1 src.length c1) out sorted (.slice a3 n3 c3) (.slice a4 n4 c4) (.slice a5 n5 c5) u0 u1
  have HB0 := Lib.hid hm0; clear hm0 hr1 hr2
  simp only at HT
  go_enter Tryz.func17, Tryz.ntmps17
  go_wp2_with fail
  refine (HR.out _ HB0.out.below).mono ?_
  rintro e w1 ⟨rfl, hb1⟩
  have HB1 := Lib.hid (HB0.out.later hb1); clear HB0 hb1
  go_wp2_with fail
  refine (HF.out _ HB1.out.below).mono ?_
  rintro e w2 ⟨rfl, hb2⟩
  have HB2 := Lib.hid (HB1.out.later hb2); clear HB1 hb2
  obtain ⟨s0, s1, s2, s3, y0, y1, y2, x0, x1, r0, r1, f0, f1⟩ := HB2.out.cells
  go_wp2_with fail
  refine (HFd.out _ _ HB2.out.below).mono ?_
  rw [HT.out]
  rintro e w3 ⟨rfl, hb3⟩
  have HB3 := Lib.hid (HB2.out.later hb3); clear HB2 hb3 s0 s1 s2 s3 y0 y1 y2 x0 x1 r0 r1 f0 f1
  obtain ⟨s0, s1, s2, s3, y0, y1, y2, x0, x1, r0, r1, f0, f1⟩ := HB3.out.cells
  go_wp2_with fail
  go_region
  go_wp2_with fail
  exact HB3.out.err rfl rfl rfl rfl rfl fun W' hW => ⟨rfl, hW⟩
end Go.Proofs.YtacgopankhpnbaaGreatDoor
