/- slices.Clone at files. -/
import Derived.Test.YtacgopankhpnbaaGreatDoorStepB
import Derived.Test.YtacgopankhpnbaaGreatDoorShelf
namespace Go.Proofs.YtacgopankhpnbaaGreatDoor
open Go.RowKit

theorem filInfo : (Tryz.prog.info? 40).map (fun i => (i.zero, i.size, i.bytes)) = some (some (.agg #[.string ByteArray.empty, .string ByteArray.empty]), 2, 32) := by kernel_rfl
/-- The cells of files. -/
def filCells (l : List Fil) : List Value := l.flatMap fun f => [.string f.name, .string f.text]

theorem filCells_length (l : List Fil) : (filCells l).length = l.length * 2 := by
  induction l with
  | nil => rfl
  | cons f l ih => rw [show filCells (f :: l) = [.string f.name, .string f.text] ++ filCells l from rfl, List.length_append, ih]; simp; omega
theorem filCells_get (l : List Fil) : ∀ (j : Nat) (u : Value), (filCells l)[j]? = some u → ∃ i f, l[i]? = some f ∧ (j = i * 2 ∧ u = .string f.name ∨ j = i * 2 + 1 ∧ u = .string f.text) := by
  induction l with
  | nil => intro j u h; simp [filCells] at h
  | cons f l ih =>
    intro j u h
    rw [show filCells (f :: l) = [.string f.name, .string f.text] ++ filCells l from rfl] at h
    match j, h with
    | 0, h => simp at h; exact ⟨0, f, rfl, .inl ⟨rfl, h.symm⟩⟩
    | 1, h => simp at h; exact ⟨0, f, rfl, .inr ⟨rfl, h.symm⟩⟩
    | j + 2, h =>
      obtain ⟨i, g, hg, hh⟩ := ih j u (by simpa using h)
      exact ⟨i + 1, g, by simpa using hg, by rcases hh with ⟨h1, h2⟩ | ⟨h1, h2⟩; exact .inl ⟨by omega, h2⟩; exact .inr ⟨by omega, h2⟩⟩
theorem filCells_at (l : List Fil) (i : Nat) (f : Fil) (h : l[i]? = some f) : (filCells l)[i * 2]? = some (.string f.name) ∧ (filCells l)[i * 2 + 1]? = some (.string f.text) := by
  induction l generalizing i with
  | nil => simp at h
  | cons g l ih =>
    rw [show filCells (g :: l) = .string g.name :: .string g.text :: filCells l from rfl]
    match i, h with
    | 0, h => simp at h; subst h; exact ⟨rfl, rfl⟩
    | i + 1, h =>
      have := ih i (by simpa using h)
      rw [show (i + 1) * 2 = i * 2 + 1 + 1 by omega]
      simpa using this
theorem filCells_one (l : List Fil) : ∀ u ∈ filCells l, u.oneCell' = true := by
  intro u hu
  simp only [filCells, List.mem_flatMap] at hu
  obtain ⟨f, -, hu⟩ := hu
  simp at hu
  rcases hu with rfl | rfl <;> rfl

set_option maxHeartbeats 1000000 in
/-- slices.Clone at files that are not nil. -/
theorem clone_some (ad : Addr) (c : Nat) (l : List Fil) (w : World) (hc : ∀ j u, (filCells l)[j]? = some u → w.cell? (ad.add j) = some u) (hl : l.length ≤ 1000000) :
    Calls Tryz.prog 53 #[.slice (some ad) l.length c] w fun e w' => ∃ v', e = .returned v' ∧ w'.ownsRow w.heap.size 40 2 v' l.length (filCells l) ∧ Below w.heap.size w w' := by
  obtain ⟨i0, hi, hz0, hz1, hz2⟩ := info_parts filInfo
  have HC := Lib.hid hc; clear hc
  have q22 : ∀ (w : World) (a : Option Addr) (n c n' c' : Nat), (binOp .eql 25 (.slice a n c) (.slice none n' c')).run Tryz.prog w = .ok (.bool a.isNone) w := fun w a n c n' c' => Lib.run_eql_slice_nil w _ _ a n c n' c' Tryz.underlying25
  go_enter Tryz.func53, Tryz.ntmps53
  go_wp2_with (at_builtin; refine wpList_append_own _ rfl _ _ 25 rfl w.heap.size 40 i0 (.agg #[.string ByteArray.empty, .string ByteArray.empty]) 2 32 Tryz.underlying25 hi hz0 hz1 hz2 rfl (by decide) _ _ _ rfl (World.ownsRow_made w #[] 0 (Nat.le_refl _) (Nat.zero_le _) (by simp)) ad l.length c (filCells l) rfl (filCells_length l) (fun j u hj => Lib.cell?_alloc_some _ (HC.out j u hj)) (filCells_one l) (by unfold maxLen; omega) (by omega) (by simp) ?_)
  intro v' w1 hown hgrow hnil
  have HO := Lib.hid hown; clear hown hnil
  have HGr := Lib.hid hgrow; clear hgrow
  go_wp2_with fail
  go_ret
  refine ⟨v', rfl, by simpa using HO.out, ?_⟩
  exact ((Below.refl _ w).alloc (Nat.le_refl _) _).grown HGr.out (by simp) (by intro k hk; simp [Value.ownBlock] at hk; omega)

theorem clone_nil (c : Nat) (w : World) :
    Calls Tryz.prog 53 #[.slice none 0 c] w fun e w' => ∃ v', e = .returned v' ∧ w'.ownsRow w.heap.size 40 2 v' 0 [] ∧ Below w.heap.size w w' := by
  have q22 : ∀ (w : World) (a : Option Addr) (n c n' c' : Nat), (binOp .eql 25 (.slice a n c) (.slice none n' c')).run Tryz.prog w = .ok (.bool a.isNone) w := fun w a n c n' c' => Lib.run_eql_slice_nil w _ _ a n c n' c' Tryz.underlying25
  go_enter Tryz.func53, Tryz.ntmps53
  go_wp2_with fail
  go_ret
  exact ⟨_, rfl, World.ownsRow_nil _ _ _ _, Below.refl _ _⟩

theorem clone_any (l : List Fil) (v : Value) (w : World) (hv : Fils w v l) (hl : l.length ≤ 1000000) :
    Calls Tryz.prog 53 #[v] w fun e w' => ∃ v', e = .returned v' ∧ w'.ownsRow w.heap.size 40 2 v' l.length (filCells l) ∧ Below w.heap.size w w' := by
  rcases hv.cases with ⟨rfl, a, c, rfl⟩ | ⟨b, o, c, rfl, h0, h1, h2, hb, hc⟩
  · cases a with
    | none => exact clone_nil c w
    | some a => exact clone_some a c [] w (fun j u h => by simp [filCells] at h) hl
  · refine clone_some _ c l w (fun j u h => ?_) hl
    obtain ⟨i, f, hf, hh⟩ := filCells_get l j u h
    obtain ⟨c1, c2, -⟩ := hc i f hf
    rw [Addr.add_lit]
    rcases hh with ⟨rfl, rfl⟩ | ⟨rfl, rfl⟩
    · exact c1
    · rw [← Nat.add_assoc]; exact c2
end Go.Proofs.YtacgopankhpnbaaGreatDoor
