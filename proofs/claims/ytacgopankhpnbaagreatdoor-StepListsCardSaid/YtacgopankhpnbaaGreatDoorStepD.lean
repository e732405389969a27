/- Walks of package step: Right. -/
import Derived.Test.YtacgopankhpnbaaGreatDoorStepC
namespace Go.Proofs.YtacgopankhpnbaaGreatDoor
open Go.RowKit

set_option maxHeartbeats 800000 in
theorem stepRight_any (s : Stp) (vf : Value) (w : World) (hv : Strs w vf s.src) (hto : s.out.size ≤ 140737488355328) :
    Calls Tryz.prog 24 #[.agg #[.int .i64 s.kind, vf, .string s.out, .bool s.sorted]] w fun e w' => e = .returned (.bool (stepRight s)) ∧ Below w.heap.size w w' := by
  obtain ⟨kind, src, tn, sorted⟩ := s
  simp only at hv hto ⊢
  have hC : ∀ W, Below w.heap.size w W → Calls Tryz.prog 57 #[vf, .func (.func 58) #[] #[]] W fun e w' => e = .returned (.bool (src.any fun x => !isName x)) ∧ Below W.heap.size W w' := fun W hb =>
    containsFunc_str _ _ _ src vf W (hv.later hb) enters_isName (fun x hx W' hb' => by
      refine (right1_any x W' (strs_size hv hx)).mono ?_
      rintro e w' ⟨rfl, rfl⟩
      exact ⟨rfl, Below.refl _ _⟩)
  have hN : ∀ W, Calls Tryz.prog 56 #[.string tn] W fun e w' => e = .returned (.bool (isName tn)) ∧ W = w' := fun W => isName_any tn W hto
  obtain ⟨a, c, hvv, -⟩ := hv
  subst hvv
  have HC := Lib.hid hC; clear hC
  have HN := Lib.hid hN; clear hN
  have hR : stepRight ⟨kind, src, tn, sorted⟩ = if (!isName tn || src.any fun x => !isName x) then false else if kind = 2 then decide (src.length ≤ 60)
      else if kind = 1 then decide (src.length ≤ 60) && !sorted else if kind = 0 ∨ kind = 3 ∨ kind = 4 ∨ kind = 5 then decide (src.length = 1) && !sorted else false := rfl
  have HR := Lib.hid hR; clear hR
  generalize stepRight ⟨kind, src, tn, sorted⟩ = R at HR ⊢
  generalize hi : isName tn = ni at HN HR ⊢
  generalize ha : (src.any fun x => !isName x) = na at HC HR ⊢
  clear hi ha
  cases ni with
  | false =>
    clear HC
    go_enter Tryz.func24, Tryz.ntmps24
    go_wp2_with (go_at_call 56; refine (HN.out _).mono ?_; rintro e w' ⟨rfl, rfl⟩)
    go_ret
    exact ⟨ret_bool (by rw [HR.out]; rfl), below_alloc _ _⟩
  | true =>
    cases na with
    | true =>
      go_enter Tryz.func24, Tryz.ntmps24
      go_wp2_with (first | (go_at_call 56; refine (HN.out _).mono ?_; rintro e w' ⟨rfl, rfl⟩) | (go_at_call 57; refine (HC.out _ (below_alloc _ _)).mono ?_; rintro e w' ⟨rfl, hb'⟩))
      go_ret
      exact ⟨ret_bool (by rw [HR.out]; rfl), below_trans (below_alloc _ _) hb'⟩
    | false =>
      by_cases k2 : kind = 2
      · subst k2
        go_enter Tryz.func24, Tryz.ntmps24
        go_wp2_with (first | (go_at_call 56; refine (HN.out _).mono ?_; rintro e w' ⟨rfl, rfl⟩) | (go_at_call 57; refine (HC.out _ (below_alloc _ _)).mono ?_; rintro e w' ⟨rfl, hb'⟩; obtain ⟨hcc, hff⟩ := bcell hb'))
        go_ret
        exact ⟨ret_bool (by rw [HR.out]; simp; omega), below_trans (below_alloc _ _) hb'⟩
      by_cases k1 : kind = 1
      · subst k1
        go_enter Tryz.func24, Tryz.ntmps24
        go_wp2_with (first | (go_at_call 56; refine (HN.out _).mono ?_; rintro e w' ⟨rfl, rfl⟩) | (go_at_call 57; refine (HC.out _ (below_alloc _ _)).mono ?_; rintro e w' ⟨rfl, hb'⟩; obtain ⟨hcc, hff⟩ := bcell hb'))
        all_goals go_ret
        all_goals exact ⟨ret_bool (by rw [HR.out]; simp; try omega), below_trans (below_alloc _ _) hb'⟩
      have HK2 := Lib.hid k2
      have HK1 := Lib.hid k1
      have b2 : (kind == 2) = false := by simpa using k2
      have b1 : (kind == 1) = false := by simpa using k1
      clear k2 k1
      by_cases kx : kind = 0 ∨ kind = 3 ∨ kind = 4 ∨ kind = 5
      · have HKX := Lib.hid kx
        by_cases hl : src.length = 1
        · have bl : (((src.length : Nat) : Int) == 1) = true := by simp [hl]
          have HL := Lib.hid hl; clear hl
          rcases kx with rfl | rfl | rfl | rfl
          all_goals
            clear b2 b1
            go_enter Tryz.func24, Tryz.ntmps24
            go_wp2_with (first | (go_at_call 56; refine (HN.out _).mono ?_; rintro e w' ⟨rfl, rfl⟩) | (go_at_call 57; refine (HC.out _ (below_alloc _ _)).mono ?_; rintro e w' ⟨rfl, hb'⟩; obtain ⟨hcc, hff⟩ := bcell hb'))
            go_ret
            exact ⟨ret_bool (by rw [HR.out, HL.out]; rfl), below_trans (below_alloc _ _) hb'⟩
        · have bl : (((src.length : Nat) : Int) == 1) = false := by rw [beq_eq_false_iff_ne]; omega
          have HL := Lib.hid hl; clear hl
          rcases kx with rfl | rfl | rfl | rfl
          all_goals
            clear b2 b1
            go_enter Tryz.func24, Tryz.ntmps24
            go_wp2_with (first | (go_at_call 56; refine (HN.out _).mono ?_; rintro e w' ⟨rfl, rfl⟩) | (go_at_call 57; refine (HC.out _ (below_alloc _ _)).mono ?_; rintro e w' ⟨rfl, hb'⟩; obtain ⟨hcc, hff⟩ := bcell hb'))
            go_ret
            exact ⟨ret_bool (by rw [HR.out, decide_eq_false HL.out]; rfl), below_trans (below_alloc _ _) hb'⟩
      · have HKX := Lib.hid kx
        have b0 : (kind == 0) = false := by rw [beq_eq_false_iff_ne]; omega
        have b3 : (kind == 3) = false := by rw [beq_eq_false_iff_ne]; omega
        have b4 : (kind == 4) = false := by rw [beq_eq_false_iff_ne]; omega
        have b5 : (kind == 5) = false := by rw [beq_eq_false_iff_ne]; omega
        clear kx
        go_enter Tryz.func24, Tryz.ntmps24
        go_wp2_with (first | (go_at_call 56; refine (HN.out _).mono ?_; rintro e w' ⟨rfl, rfl⟩) | (go_at_call 57; refine (HC.out _ (below_alloc _ _)).mono ?_; rintro e w' ⟨rfl, hb'⟩; obtain ⟨hcc, hff⟩ := bcell hb'))
        go_ret
        exact ⟨ret_bool (by rw [HR.out, if_neg HK2.out, if_neg HK1.out, if_neg HKX.out]; rfl), below_trans (below_alloc _ _) hb'⟩
end Go.Proofs.YtacgopankhpnbaaGreatDoor
