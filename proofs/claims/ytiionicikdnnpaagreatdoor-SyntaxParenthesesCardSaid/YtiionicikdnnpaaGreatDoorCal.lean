/- Walk of ladinglaw15.called (printed by gen_parn.py). -/
import Derived.Test.YtiionicikdnnpaaGreatDoorFewA
import Derived.Test.YtiionicikdnnpaaGreatDoorTopY
namespace Go.Proofs.YtiionicikdnnpaaGreatDoor
open Go.RowKit
set_option linter.unusedSimpArgs false
set_option linter.unusedVariables false

set_option maxHeartbeats 16000000 in
set_option maxRecDepth 100000 in
/-- ladinglaw15.called. -/
theorem called_any (kd : Int) (tx : ByteArray) (nn po : Int) (w : World) (hg : iF w) (hz : tx.size ≤ 8000) :
    Calls Tryz.prog 38 #[.agg #[.int .i64 kd, .string tx, .int .i64 nn, .int .i64 po]] w fun e w' => SaysB True e ∧ Below w.heap.size w w' := by
  have HG := Lib.hid (fun W (hb : Below w.heap.size w W) => hg.later hb)
  have HB0 := Lib.hid (aB w (.cells #[.int .i64 kd, .string tx, .int .i64 nn, .int .i64 po] 59))
  have hX := heap_alloc_new w (.cells #[.int .i64 kd, .string tx, .int .i64 nn, .int .i64 po] 59)
  obtain ⟨y0, y1, y2, y3⟩ := bx4 hX
  clear hX hg
  by_cases k1 : tx.toList = [102, 105, 108, 101, 115]
  · by_cases hk : kd = 0
    · subst hk
      go_enter Tryz.func38, Tryz.ntmps38
      go_wp2_with fail
      go_ret
      exact ⟨⟨true, rfl, fun _ => trivial⟩, HB0.out⟩
    · have hk' : (kd == 0) = false := beq_eq_false_iff_ne.2 hk
      go_enter Tryz.func38, Tryz.ntmps38
      go_wp2_with fail
      go_ret
      exact ⟨⟨false, rfl, fun _ => trivial⟩, HB0.out⟩
  · by_cases k2 : tx.toList = [110, 101, 116]
    · by_cases hk : kd = 0
      · subst hk
        go_enter Tryz.func38, Tryz.ntmps38
        go_wp2_with fail
        go_ret
        exact ⟨⟨true, rfl, fun _ => trivial⟩, HB0.out⟩
      · have hk' : (kd == 0) = false := beq_eq_false_iff_ne.2 hk
        go_enter Tryz.func38, Tryz.ntmps38
        go_wp2_with fail
        go_ret
        exact ⟨⟨false, rfl, fun _ => trivial⟩, HB0.out⟩
    · by_cases k3 : tx.toList = [99, 108, 111, 99, 107]
      · by_cases hk : kd = 0
        · subst hk
          go_enter Tryz.func38, Tryz.ntmps38
          go_wp2_with fail
          go_ret
          exact ⟨⟨true, rfl, fun _ => trivial⟩, HB0.out⟩
        · have hk' : (kd == 0) = false := beq_eq_false_iff_ne.2 hk
          go_enter Tryz.func38, Tryz.ntmps38
          go_wp2_with fail
          go_ret
          exact ⟨⟨false, rfl, fun _ => trivial⟩, HB0.out⟩
      · by_cases k4 : tx.toList = [115, 101, 99, 114, 101, 116, 115]
        · by_cases hk : kd = 0
          · subst hk
            go_enter Tryz.func38, Tryz.ntmps38
            go_wp2_with fail
            go_ret
            exact ⟨⟨true, rfl, fun _ => trivial⟩, HB0.out⟩
          · have hk' : (kd == 0) = false := beq_eq_false_iff_ne.2 hk
            go_enter Tryz.func38, Tryz.ntmps38
            go_wp2_with fail
            go_ret
            exact ⟨⟨false, rfl, fun _ => trivial⟩, HB0.out⟩
        · by_cases hk : kd = 0
          · subst hk
            go_enter Tryz.func38, Tryz.ntmps38
            go_wp2_with fail
            refine (iY tx _ (by omega) (HG.out _ HB0.out)).mono ?_
            rintro e w1 ⟨rfl, rfl⟩
            go_wp2_with fail
            go_ret
            exact ⟨⟨_, rfl, fun _ => trivial⟩, HB0.out⟩
          · have hk' : (kd == 0) = false := beq_eq_false_iff_ne.2 hk
            go_enter Tryz.func38, Tryz.ntmps38
            go_wp2_with fail
            go_ret
            exact ⟨⟨false, rfl, fun _ => trivial⟩, HB0.out⟩
end Go.Proofs.YtiionicikdnnpaaGreatDoor
