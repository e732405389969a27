/- Walks: step.Pure. -/
import Derived.Test.YtacgopankhpnbaaGreatDoorLawB
namespace Go.Proofs.YtacgopankhpnbaaGreatDoor
open Go.RowKit

set_option maxHeartbeats 1000000 in
theorem stepPure_any (s : Stp) (vf : Value) (w : World) (hv : Strs w vf s.src) (hto : s.out.size ≤ 140737488355328) :
    Calls Tryz.prog 18 #[.agg #[.int .i64 s.kind, vf, .string s.out, .bool s.sorted]] w fun e w' => e = .returned (.bool (stepPure s)) ∧ Below w.heap.size w w' := by
  have HR : Hid (∀ W, Below w.heap.size w W → Calls Tryz.prog 24 #[.agg #[.int .i64 s.kind, vf, .string s.out, .bool s.sorted]] W fun e w' => e = .returned (.bool (stepRight s)) ∧ Below W.heap.size W w') :=
    Lib.hid fun W hb => stepRight_any s vf W (hv.later hb) hto
  have hP : stepPure s = (stepRight s && decide (s.kind ≠ 4) && (decide (s.kind ≠ 2) || s.sorted)) := rfl
  have HP := Lib.hid hP; clear hP
  generalize stepPure s = P at HP ⊢
  generalize stepRight s = r at HP HR
  obtain ⟨kind, src, out, sorted⟩ := s
  obtain ⟨a, c, hvv, -⟩ := hv
  simp only at hvv HR HP ⊢
  subst hvv
  cases r with
  | false =>
    go_enter Tryz.func18, Tryz.ntmps18
    go_wp2_with fail
    refine (HR.out _ (below_alloc _ _)).mono ?_
    rintro e w1 ⟨rfl, hb⟩
    go_wp2_with fail
    go_ret
    exact ⟨ret_bool (by rw [HP.out]; rfl), below_trans (below_alloc _ _) hb⟩
  | true =>
    have b4 : (kind == 4) = decide (kind = 4) := by rw [Bool.eq_iff_iff]; simp
    by_cases k4 : kind = 4
    · subst k4
      clear b4
      go_enter Tryz.func18, Tryz.ntmps18
      go_wp2_with fail
      refine (HR.out _ (below_alloc _ _)).mono ?_
      rintro e w1 ⟨rfl, hb⟩
      obtain ⟨hcc, hff⟩ := bcell hb
      go_wp2_with fail
      go_ret
      exact ⟨ret_bool (by rw [HP.out]; rfl), below_trans (below_alloc _ _) hb⟩
    · have n4 : (kind != 4) = true := by rw [bne_iff_ne]; exact k4
      have HK4 := Lib.hid k4
      clear b4 k4
      by_cases k2 : kind = 2
      · subst k2
        clear n4
        go_enter Tryz.func18, Tryz.ntmps18
        go_wp2_with fail
        refine (HR.out _ (below_alloc _ _)).mono ?_
        rintro e w1 ⟨rfl, hb⟩
        obtain ⟨hcc, hff⟩ := bcell hb
        go_wp2_with fail
        go_ret
        exact ⟨ret_bool (by rw [HP.out]; rfl), below_trans (below_alloc _ _) hb⟩
      · have n2 : (kind != 2) = true := by rw [bne_iff_ne]; exact k2
        have HK2 := Lib.hid k2
        clear k2
        go_enter Tryz.func18, Tryz.ntmps18
        go_wp2_with fail
        refine (HR.out _ (below_alloc _ _)).mono ?_
        rintro e w1 ⟨rfl, hb⟩
        obtain ⟨hcc, hff⟩ := bcell hb
        go_wp2_with fail
        go_ret
        exact ⟨ret_bool (by rw [HP.out, decide_eq_true HK4.out, decide_eq_true HK2.out]; rfl), below_trans (below_alloc _ _) hb⟩
end Go.Proofs.YtacgopankhpnbaaGreatDoor
