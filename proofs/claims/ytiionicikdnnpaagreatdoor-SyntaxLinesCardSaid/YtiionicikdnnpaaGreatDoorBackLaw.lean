/- What is printed of a module that comes in. No program in sight. -/
import Derived.Test.YtiionicikdnnpaaGreatDoorTopY
namespace Go.Proofs.YtiionicikdnnpaaGreatDoor
set_option linter.unusedSimpArgs false
set_option linter.unusedVariables false

theorem mdl_each {m : Mdl} (h : eX m = true) : ∀ f ∈ m.funcs, eY f = true ∧ aM f.name = true := by
  unfold eX at h
  simp only [Bool.and_eq_true] at h
  exact fun f hf => (funcs_each h.1.1.1.1.1.1.1.1.1.2 f hf).symm
theorem mdl_eff {m : Mdl} (h : eX m = true) (hw : ∀ f ∈ m.funcs, -9223372036854775808 ≤ f.effects ∧ f.effects ≤ 9223372036854775807) : ∀ f ∈ m.funcs, 0 ≤ f.effects ∧ f.effects ≤ 15 := fun f hf => by
  have h1 := (mdl_each h f hf).1
  unfold eY at h1
  simp only [Bool.and_eq_true] at h1
  exact eff_range h1.2 (hw f hf).1 (hw f hf).2
theorem print_no {m : Mdl} {c : Int} (h : kD m = .error c) : (eX m = false ∧ c = 1) ∨ (eX m = true ∧ c = 6) := by
  unfold kD at h
  split at h
  · rename_i hr
    unfold mG at h
    split at h
    · cases h; exact .inr ⟨hr, rfl⟩
    · cases h
  · rename_i hr
    cases h
    exact .inl ⟨by simpa using hr, rfl⟩
theorem print_yes {m : Mdl} {s : ByteArray} (h : kD m = .ok s) : eX m = true ∧ s = textM m ∧ s.size ≤ 8000 := by
  unfold kD at h
  split at h
  · rename_i hr
    unfold mG at h
    split at h
    · cases h
    · cases h; exact ⟨hr, rfl, by omega⟩
  · cases h
theorem print_back {m : Mdl} {s : ByteArray} (hw : ∀ f ∈ m.funcs, -9223372036854775808 ≤ f.effects ∧ f.effects ≤ 9223372036854775807) (h : kD m = .ok s) : eI s = .ok m := (print_parse (mdl_eff (print_yes h).1 hw) h).1
end Go.Proofs.YtiionicikdnnpaaGreatDoor
