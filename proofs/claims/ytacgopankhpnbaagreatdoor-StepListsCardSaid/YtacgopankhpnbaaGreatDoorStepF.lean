/- Walks of package step: the sandbox: next, list, write. -/
import Derived.Test.YtacgopankhpnbaaGreatDoorStepE
import Derived.RegionTactic
import Derived.ChangeAlike
namespace Go.Proofs.YtacgopankhpnbaaGreatDoor
open Go.RowKit

/-- w' is w but for block b (and new blocks, and draws). -/
structure Only (b : Nat) (w w' : World) : Prop where
  os : w'.os = w.os
  tape : w'.tape = w.tape
  output : w'.output = w.output
  size : w.heap.size ≤ w'.heap.size
  block : ∀ k, k < w.heap.size → k ≠ b → w'.heap[k]? = w.heap[k]?
theorem Only.refl (b : Nat) (w : World) : Only b w w := ⟨rfl, rfl, rfl, Nat.le_refl _, fun _ _ _ => rfl⟩
theorem Only.trans {b : Nat} {u v w : World} (h : Only b u v) (k : Only b v w) : Only b u w :=
  ⟨k.os.trans h.os, k.tape.trans h.tape, k.output.trans h.output, Nat.le_trans h.size k.size, fun i hi hne => (k.block i (Nat.lt_of_lt_of_le hi h.size) hne).trans (h.block i hi hne)⟩
theorem Only.of_below {b : Nat} {w w' : World} (h : Below w.heap.size w w') : Only b w w' := ⟨h.os, h.tape, h.output, h.size, fun k hk _ => h.block k hk⟩
theorem Only.below {b : Nat} {u w w' : World} {B : Nat} (h : Below B u w) (k : Only b w w') (hb : B ≤ b) (hB : B ≤ w.heap.size) : Below B u w' :=
  ⟨k.os.trans h.os, k.tape.trans h.tape, k.output.trans h.output, Nat.le_trans h.size k.size, fun i hi => (k.block i (by omega) (by omega)).trans (h.block i hi)⟩
theorem Only.cell {b : Nat} {w w' : World} (h : Only b w w') {k o : Nat} {v : Value} (hne : k ≠ b) (hc : w.cell? ⟨k, o, none⟩ = some v) : w'.cell? ⟨k, o, none⟩ = some v :=
  (World.cell?_of_block (w := w) (h.block k (cell_lt hc) hne)).trans hc
theorem Only.setCell {b o : Nat} {v : Value} (w : World) : Only b w (w.setCell ⟨b, o, none⟩ v) :=
  ⟨rfl, rfl, rfl, by simp [World.setCell], fun k _ hne => Below.heap_setCell _ _ _ _ hne⟩
theorem Only.drew {b : Nat} {u w : World} (h : Only b u w) : Only b u w.drew := ⟨h.os, h.tape, h.output, h.size, h.block⟩

theorem Glob.only {b : Nat} {w w' : World} (h : Glob w) (ho : Only b w w') (hb : 11 ≤ b) : Glob w' := by
  refine ⟨Nat.le_trans h.big ho.size, ?_, ?_⟩
  · obtain ⟨m, hm⟩ := h.maxLen
    exact ⟨m, ho.cell (by omega) hm⟩
  · exact var?_below (B := 11) (g := 4) ⟨ho.os, ho.tape, ho.output, ho.size, fun k hk => ho.block k (by have := h.big; omega) (by omega)⟩ (by kernel_rfl) (by omega) h.pow10

/-- The sandbox of a step, in block b. -/
def Sbx (w : World) (b : Nat) (saw clk ord nxt : Value) (u0 u1 : Int) : Prop :=
  w.heap[b]? = some (.cells #[saw, clk, ord, nxt, .int .i64 u0, .int .i64 u1] 87 (0, 0))
theorem Sbx.cell {w : World} {b : Nat} {saw clk ord nxt : Value} {u0 u1 : Int} (h : Sbx w b saw clk ord nxt u0 u1) (j : Nat) : w.cell? ⟨b, j, none⟩ = #[saw, clk, ord, nxt, .int .i64 u0, .int .i64 u1][j]? := by
  simp [World.cell?, show w.heap[b]? = _ from h]
theorem Sbx.frozen {w : World} {b : Nat} {saw clk ord nxt : Value} {u0 u1 : Int} (h : Sbx w b saw clk ord nxt u0 u1) (j : Nat) : w.frozen? ⟨b, j, none⟩ = false := by
  simp [World.frozen?, show w.heap[b]? = _ from h]

theorem Sbx.lt {w : World} {b : Nat} {saw clk ord nxt : Value} {u0 u1 : Int} (h : Sbx w b saw clk ord nxt u0 u1) : b < w.heap.size := cell_lt (h.cell 0)
theorem Sbx.of_block {w w' : World} {b : Nat} {saw clk ord nxt : Value} {u0 u1 : Int} (h : Sbx w b saw clk ord nxt u0 u1) (hb : w'.heap[b]? = w.heap[b]?) : Sbx w' b saw clk ord nxt u0 u1 := hb.trans h
theorem Sbx.later {w w' : World} {b : Nat} {saw clk ord nxt : Value} {u0 u1 : Int} (h : Sbx w b saw clk ord nxt u0 u1) (hb : Below w.heap.size w w') : Sbx w' b saw clk ord nxt u0 u1 := h.of_block (hb.block b h.lt)
theorem Sbx.cast {w : World} {b : Nat} {saw clk ord nxt : Value} {u0 u1 v1 : Int} (h : Sbx w b saw clk ord nxt u0 u1) (e : u1 = v1) : Sbx w b saw clk ord nxt u0 v1 := e ▸ h
theorem Sbx.put0 {w : World} {b : Nat} {saw clk ord nxt : Value} {u0 u1 : Int} (h : Sbx w b saw clk ord nxt u0 u1) (x : Int) : Sbx (w.setCell ⟨b, 4, none⟩ (.int .i64 x)).drew b saw clk ord nxt x u1 := by
  unfold Sbx at h ⊢
  show (w.setCell _ _).heap[b]? = _
  simp [World.setCell, Array.getElem?_modify, h]
theorem Sbx.put1 {w : World} {b : Nat} {saw clk ord nxt : Value} {u0 u1 : Int} (h : Sbx w b saw clk ord nxt u0 u1) (x : Int) : Sbx (w.setCell ⟨b, 5, none⟩ (.int .i64 x)).drew b saw clk ord nxt u0 x := by
  unfold Sbx at h ⊢
  show (w.setCell _ _).heap[b]? = _
  simp [World.setCell, Array.getElem?_modify, h]
set_option maxHeartbeats 1000000 in
theorem next0_any (b : Nat) (saw clk ord nxt : Value) (u0 u1 : Int) (l : List Int) (vl : Value) (w : World) (hs : Sbx w b saw clk ord nxt u0 u1) (hl : Ints w vl l) (h0 : 0 ≤ u0) (h1 : u0 ≤ 4611686018427387904) :
    Calls Tryz.prog 83 #[.pointer (some ⟨b, 0, none⟩), vl, .int .i64 0] w fun e w' => e = .returned (.int .i64 (l.getD (u0).toNat 0)) ∧ Sbx w' b saw clk ord nxt (u0 + 1) u1 ∧ Only b w w' := by
  have c4 := hs.cell 4
  have f4 := hs.frozen 4
  simp only [List.getElem?_toArray, List.getElem?_cons_succ, List.getElem?_cons_zero] at c4
  have HS := Lib.hid hs; clear hs
  have hend : ∀ x, Sbx (w.setCell ⟨b, 4, none⟩ (.int .i64 x)).drew b saw clk ord nxt x u1 := fun x => Sbx.put0 HS.out x
  have HE := Lib.hid hend; clear hend
  rcases hl.cases with ⟨rfl, a, c, rfl⟩ | ⟨bl, o, c, rfl, hl0, hl1, hl2, hlb, hc⟩
  · clear hl
    go_enter Tryz.func83, Tryz.ntmps83
    go_wp2_with fail
    go_region
    go_wp2_with fail
    go_ret
    exact ⟨ret_int (by simp), HE.out _, (Only.setCell w).drew⟩
  · obtain ⟨u, hu⟩ : ∃ u : Nat, u0 = u := ⟨(u0).toNat, by omega⟩
    subst hu
    have HC := Lib.hid hc; clear hc hl
    by_cases hlt : u < l.length
    · obtain ⟨x, hx, -⟩ := getElem?_of_lt hlt
      have hcell := HC.out u x hx
      have HX := Lib.hid (show l.getD u 0 = x by rw [List.getD_eq_getElem?_getD, hx]; rfl)
      clear hx HC
      go_enter Tryz.func83, Tryz.ntmps83
      go_wp2_with fail
      go_region
      go_wp2_with fail
      go_ret
      exact ⟨ret_int (by rw [Int.toNat_natCast, HX.out]), HE.out _, (Only.setCell w).drew⟩
    · have HX := Lib.hid (show l.getD u 0 = 0 by rw [List.getD_eq_getElem?_getD, List.getElem?_eq_none (by omega)]; rfl)
      clear HC
      go_enter Tryz.func83, Tryz.ntmps83
      go_wp2_with fail
      go_region
      go_wp2_with fail
      go_ret
      exact ⟨ret_int (by rw [Int.toNat_natCast, HX.out]), HE.out _, (Only.setCell w).drew⟩

set_option maxHeartbeats 1000000 in
theorem next1_any (b : Nat) (saw clk ord nxt : Value) (u0 u1 : Int) (l : List Int) (vl : Value) (w : World) (hs : Sbx w b saw clk ord nxt u0 u1) (hl : Ints w vl l) (h0 : 0 ≤ u1) (h1 : u1 ≤ 4611686018427387904) :
    Calls Tryz.prog 83 #[.pointer (some ⟨b, 0, none⟩), vl, .int .i64 1] w fun e w' => e = .returned (.int .i64 (l.getD (u1).toNat 0)) ∧ Sbx w' b saw clk ord nxt u0 (u1 + 1) ∧ Only b w w' := by
  have c5 := hs.cell 5
  have f5 := hs.frozen 5
  simp only [List.getElem?_toArray, List.getElem?_cons_succ, List.getElem?_cons_zero] at c5
  have HS := Lib.hid hs; clear hs
  have hend : ∀ x, Sbx (w.setCell ⟨b, 5, none⟩ (.int .i64 x)).drew b saw clk ord nxt u0 x := fun x => Sbx.put1 HS.out x
  have HE := Lib.hid hend; clear hend
  rcases hl.cases with ⟨rfl, a, c, rfl⟩ | ⟨bl, o, c, rfl, hl0, hl1, hl2, hlb, hc⟩
  · clear hl
    go_enter Tryz.func83, Tryz.ntmps83
    go_wp2_with fail
    go_region
    go_wp2_with fail
    go_ret
    exact ⟨ret_int (by simp), HE.out _, (Only.setCell w).drew⟩
  · obtain ⟨u, hu⟩ : ∃ u : Nat, u1 = u := ⟨(u1).toNat, by omega⟩
    subst hu
    have HC := Lib.hid hc; clear hc hl
    by_cases hlt : u < l.length
    · obtain ⟨x, hx, -⟩ := getElem?_of_lt hlt
      have hcell := HC.out u x hx
      have HX := Lib.hid (show l.getD u 0 = x by rw [List.getD_eq_getElem?_getD, hx]; rfl)
      clear hx HC
      go_enter Tryz.func83, Tryz.ntmps83
      go_wp2_with fail
      go_region
      go_wp2_with fail
      go_ret
      exact ⟨ret_int (by rw [Int.toNat_natCast, HX.out]), HE.out _, (Only.setCell w).drew⟩
    · have HX := Lib.hid (show l.getD u 0 = 0 by rw [List.getD_eq_getElem?_getD, List.getElem?_eq_none (by omega)]; rfl)
      clear HC
      go_enter Tryz.func83, Tryz.ntmps83
      go_wp2_with fail
      go_region
      go_wp2_with fail
      go_ret
      exact ⟨ret_int (by rw [Int.toNat_natCast, HX.out]), HE.out _, (Only.setCell w).drew⟩

end Go.Proofs.YtacgopankhpnbaaGreatDoor
