/- What SyntaxLines comes to. No program in sight. -/
import Derived.Test.YtiionicikdnnpaaGreatDoorBackLaw
namespace Go.Proofs.YtiionicikdnnpaaGreatDoor
set_option linter.unusedSimpArgs false
set_option linter.unusedVariables false

theorem bytes_eq {a b : ByteArray} (h : a.data.toList = b.data.toList) : a = b := by
  cases a; cases b
  congr 1
  exact Array.toList_inj.1 h
theorem extract_list (s : ByteArray) (i j : Nat) : (s.extract i j).data.toList = (s.data.toList.drop i).take (j - i) := by
  rw [ByteArray.data_extract, Array.toList_extract]
theorem append_list (a b : ByteArray) : (a ++ b).data.toList = a.data.toList ++ b.data.toList := by simp [ByteArray.data_append]
theorem size_list (s : ByteArray) : s.size = s.data.toList.length := by rw [Array.length_toList]; rfl
theorem synName_some {s : ByteArray} (h : aM s = true) : s.size ≠ 0 := by
  intro e
  have : s = noB := bytes_eq (by
    have h1 := size_list s
    rw [e] at h1
    rw [List.eq_nil_of_length_eq_zero h1.symm])
  rw [this] at h
  exact absurd h (by decide +kernel)
theorem lines_law {m : Mdl} {k : Nat} {f : Fnc} {s : ByteArray} (hf : m.funcs[k]? = some f) (hp : kD m = .ok s) :
    ∃ (t u : ByteArray) (p : Nat), kD (lessM m k) = .ok t ∧ kD (oneM f) = .ok u ∧ t.size ≤ 8000 ∧ u.size ≤ 8000 ∧ 11 ≤ u.size ∧ u.extract 0 11 = ⟨#[109, 111, 100, 117, 108, 101, 32, 109, 32, 59, 10]⟩ ∧ s.size + 11 = t.size + u.size ∧ p ≤ t.size ∧
      (t.extract 0 p ++ u.extract 11 u.size) ++ t.extract p t.size = s := by
  obtain ⟨hr, hs, hz⟩ := print_yes hp
  obtain ⟨a, b, h1, h2, h3⟩ := less_text hf
  have hfr := mdl_each hr f (List.mem_of_getElem? hf)
  have ho := one_text f
  have hname : m.name.size ≠ 0 := synName_some (by
    unfold eX at hr
    simp only [Bool.and_eq_true] at hr
    exact hr.1.1.1.1.1.1.1.1.2)
  rw [if_neg hname] at h3
  have z1 : s.size = a.length + ((rowB f).length + b.length) := by rw [hs, size_list, h1]; simp
  have z2 : (textM (lessM m k)).size = a.length + b.length := by rw [size_list, h2]; simp
  have z3 : (textM (oneM f)).size = 11 + (rowB f).length := by rw [size_list, ho]; simp; omega
  refine ⟨textM (lessM m k), textM (oneM f), a.length, ?_, ?_, by omega, by omega, by omega, ?_, by omega, by omega, ?_⟩
  · unfold kD mG
    rw [if_pos (less_right k hr), if_neg (by omega)]
  · unfold kD mG
    rw [if_pos (one_right hfr.2 hfr.1), if_neg (by omega)]
  · refine bytes_eq ?_
    rw [extract_list, ho]
    rfl
  · refine bytes_eq ?_
    rw [append_list, append_list, extract_list, extract_list, extract_list, h2, ho, hs, h1, z2, z3]
    have e1 : ((a ++ b).drop 0).take (a.length - 0) = a := by simp
    have e2 : (([109, 111, 100, 117, 108, 101, 32, 109, 32, 59, 10] ++ rowB f : List UInt8).drop 11).take (11 + (rowB f).length - 11) = rowB f := by
      rw [List.drop_append_of_le_length (by simp)]
      simp
    have e3 : ((a ++ b).drop a.length).take (a.length + b.length - a.length) = b := by simp
    rw [e1, e2, e3, List.append_assoc]
end Go.Proofs.YtiionicikdnnpaaGreatDoor
