/- The walk of ladinglaw32.StepSorts. -/
import Derived.Test.YtacgopankhpnbaaGreatDoorSortsA
import Derived.Deep.Cut
namespace Go.Proofs.YtacgopankhpnbaaGreatDoor
open Go.RowKit

set_option maxHeartbeats 40000000 in
set_option maxRecDepth 100000 in
theorem stepSorts_any (text row : ByteArray) (w : World) (hG : Glob w) (ht : text.size ≤ 140737488355328) (hr : row.size ≤ 140737488355328) :
    Calls Tryz.prog 5 #[.string text, .string row] w fun e w' => e = .returned (.bool true) ∧ Below w.heap.size w w' := by
  have HG := Lib.hid hG; clear hG
  by_cases h1 : 2000 < text.size
  · go_enter Tryz.func5, Tryz.ntmps5
    go_wp2_with fail
    refine (small_any _ HG.out).mono ?_
    rintro e w1 ⟨rfl, hb⟩
    go_wp2_with fail
    go_ret
    exact ⟨rfl, hb⟩
  by_cases h2 : 100 < row.size
  · go_enter Tryz.func5, Tryz.ntmps5
    go_wp2_with fail
    refine (small_any _ HG.out).mono ?_
    rintro e w1 ⟨rfl, hb⟩
    go_wp2_with fail
    go_ret
    exact ⟨rfl, hb⟩
  go_enter Tryz.func5, Tryz.ntmps5
  go_wp2_with fail
  refine (small_any _ HG.out).mono ?_
  rintro e w1 ⟨rfl, hb⟩
  have HB := Lib.hid hb; clear hb
  go_wp2_with fail
  go_loop [6] (fun i => ∃ k : Nat, k ≤ row.size ∧ i = .int .i64 k ∧ Hid (∀ j, j < k → row.data.toList.getD j 0 ≠ 10)) (fun i => row.size - (intOf i).toNat)
  case atStart => exact ⟨0, Nat.zero_le _, rfl, Lib.hid fun j h => by omega⟩
  case round =>
    obtain ⟨k, hk, rfl, HK⟩ := hrel
    by_cases hlt : k < row.size
    · have hget : row.data.toList.getD k 0 = row[k] := by
        rw [List.getD_eq_getElem?_getD, List.getElem?_eq_getElem (by simpa using hlt)]; rfl
      have HGet := Lib.hid hget; clear hget
      go_wp2_with fail
      · go_ret
        exact ⟨rfl, HB.out⟩
      · go_round
        case rel =>
          refine ⟨k + 1, by omega, by go_num, Lib.hid fun j hj => ?_⟩
          rcases Nat.lt_or_ge j k with h | h
          · exact HK.out j h
          · obtain rfl : j = k := by omega
            rw [HGet.out]; exact byte_ne' ‹_›
        case measure => simp [intOf]; omega
    · obtain rfl : k = row.size := by omega
      go_wp2_with fail
      · obtain ⟨T, hT⟩ : ∃ T, text ++ (⟨#[10]⟩ : ByteArray) = T := ⟨_, rfl⟩
        have HL := Lib.hid (sorts_law T row (hT ▸ ends_nl text) (row_clean HK.out))
        have HZ : Hid (T.size ≤ 2001) := Lib.hid (by rw [← hT, ByteArray.size_append]; show _ + 1 ≤ _; omega)
        rw [hT]
        clear hT
        have HLW := sorts_sizes HL.out HZ.out h2
        have HK0 := Lib.hid (Kept.first HG.out HB.out)
        refine (sort_new T _ _ _ (by simp only [World.size_alloc]) HK0.out.glob HK0.out.src HLW.out.s1 HLW.out.r1).mono ?_
        rintro e d1 ⟨hd, p1, q1, x1, y1, r1, rfl, HA1, HR1⟩
        have HK1 := Lib.hid (HK0.out.later hd)
        clear hd
        go_wp2_with fail
        have HP := Lib.hid (below_alloc d1 (.cells #[.int .i64 0, .int .i64 0] 31))
        replace HK1 := Lib.hid (HK1.out.later HP.out)
        replace HA1 := Lib.hid (HA1.out.later HP.out)
        clear HP
        generalize hD1 : d1.alloc (.cells #[.int .i64 0, .int .i64 0] 31) = P1 at HK1 HA1 ⊢
        clear hD1
        go_cut [12, 13, 14, 15] from 76 (fun b12 b13 b14 b15 wx => ∃ p2 q2 r2, b12 = .slice p2 2 q2 ∧ b15 = .int .i64 0 ∧ Hid (Cut2 w w1.heap.size T r1 p1 q1 p2 q2 r2 wx))
        case first =>
          have HC1 := Lib.hid (HK1.out.later (Below.refl _ P1).drew).cells
          have HC2 := Lib.hid (HK1.out.later (below_alloc P1 usedObj).drew).cells
          have HC3 := Lib.hid (HK1.out.later (below_alloc P1 (.cells #[.string ⟨#[97]⟩, .string r1] 40)).drew).cells
          have HC4 := Lib.hid (HK1.out.later (below_trans (below_alloc P1 (.cells #[.string ⟨#[97]⟩, .string r1] 40)) (below_alloc _ usedObj)).drew).cells
          have HC5 := Lib.hid (HK1.out.later (below_trans (below_alloc P1 usedObj) (below_alloc _ (.cells #[.string ⟨#[97]⟩, .string r1] 40))).drew).cells
          have HL1 := Lib.hid (last2' (HA1.out.later (Below.refl _ P1).drew))
          have HL2 := Lib.hid (last2' (HA1.out.later (below_alloc P1 usedObj).drew))
          have HFa := Lib.hid (sort_new_drew r1 (.slice (some ⟨w1.heap.size, 0, none⟩) 1 1) P1 P1.heap.size rfl HK1.out.glob HK1.out.src (sizes2 HLW.out HR1.out).1 (sizes2 HLW.out HR1.out).2)
          have HFb := Lib.hid (sort_new_drew2 r1 (.slice (some ⟨w1.heap.size, 0, none⟩) 1 1) P1 P1.heap.size rfl HK1.out.glob HK1.out.src (sizes2 HLW.out HR1.out).1 (sizes2 HLW.out HR1.out).2)
          have HFc := Lib.hid (sort_new_drew r1 (.slice (some ⟨w1.heap.size, 0, none⟩) 1 1) (P1.alloc usedObj) (P1.heap.size + 1) (by simp only [World.size_alloc]) (HK1.out.later (below_alloc _ _)).glob (HK1.out.later (below_alloc _ _)).src (sizes2 HLW.out HR1.out).1 (sizes2 HLW.out HR1.out).2)
          have hzz := HK1.out.lt
          go_region_held3 (fun W => W.cell? ⟨w1.heap.size + 1, 0, none⟩ = some (.int .i64 3) ∧ W.cell? ⟨w1.heap.size + 1, 1, none⟩ = some (.slice (some ⟨w1.heap.size, 0, none⟩) 1 1) ∧ W.cell? ⟨w1.heap.size + 1, 2, none⟩ = some (.string ⟨#[98]⟩) ∧ W.cell? ⟨w1.heap.size + 1, 3, none⟩ = some (.bool false))
            (first | (with_reducible exact HC1.out) | (with_reducible exact HC2.out) | (with_reducible exact HC3.out) | (with_reducible exact HC4.out) | (with_reducible exact HC5.out) | (with_reducible exact HC6.out) | (with_reducible exact HC7.out) | go_keep)
          (first | (go_at_call 22; (first | (with_reducible refine HL1.out.mono ?_) | (with_reducible refine HL2.out.mono ?_)); rintro e w' ⟨rfl, rfl⟩) | (go_at_call 17; (with_reducible refine HFa.out.mono ?_); rintro e d2 ⟨hd, p2, q2, x2, y2, r2, rfl, HA2, HR2⟩; have HQ := Lib.hid (way_a HK1.out HA1.out hd HA2.out HR2.out); have HC6 := Lib.hid HQ.out.kept.cells; have HC7 := Lib.hid (HQ.out.kept.later (below_alloc d2 usedObj)).cells; have HQ2 := Lib.hid (HQ.out.later (below_alloc d2 usedObj))) | (go_at_call 17; (with_reducible refine HFb.out.mono ?_); rintro e d2 ⟨hd, p2, q2, x2, y2, r2, rfl, HA2, HR2⟩; have HQ2 := Lib.hid (way_b HK1.out HA1.out hd HA2.out HR2.out).1; have HC6 := Lib.hid HQ2.out.kept.cells; obtain ⟨z1, z2, z3, z4, z5, z6⟩ := zero_box (way_b HK1.out HA1.out hd HA2.out HR2.out).2; have HC7 := HC6) | (go_at_call 17; (with_reducible refine HFc.out.mono ?_); rintro e d2 ⟨hd, p2, q2, x2, y2, r2, rfl, HA2, HR2⟩; have HQ2 := Lib.hid (way_c HK1.out HA1.out hd HA2.out HR2.out).1; have HC6 := Lib.hid HQ2.out.kept.cells; obtain ⟨z1, z2, z3, z4, z5, z6⟩ := zero_box (way_c HK1.out HA1.out hd HA2.out HR2.out).2; have HC7 := HC6))
          all_goals (go_wp2_with fail; go_meet; exact ⟨_, _, _, rfl, rfl, HQ2⟩)
        case rest =>
          obtain ⟨p2, q2, r2, rfl, rfl, HQ⟩ := hcut
          have HK2 := Lib.hid HQ.out.kept; have HA2 := Lib.hid HQ.out.fils2; have HR2 := Lib.hid HQ.out.eq2
          replace HA1 := Lib.hid HQ.out.fils1
          clear HQ
          rename World => d2
          have hT1 : T.size ≤ 2001 := HZ.out
          have hr1 : row.size ≤ 100 := by omega
          obtain ⟨b0, b1, b2, b3⟩ := HK2.out.cells
          have hz2 := HK2.out.lt
          go_wp2_with fail
          have HF := Lib.hid (sort_new (row ++ ⟨#[10]⟩ ++ T) (.slice (some ⟨w1.heap.size, 0, none⟩) 1 1) d2 d2.heap.size (rfl) (HK2.out).glob (HK2.out).src HLW.out.s3 HLW.out.r3)
          with_reducible refine HF.out.mono ?_
          clear HF
          rintro e d3 ⟨hd, p3, q3, x3, y3, r3, rfl, HA3, HR3⟩
          have HD := Lib.hid hd
          have HK3 := Lib.hid (HK2.out.later HD.out)
          replace HA1 := Lib.hid (HA1.out.later HD.out)
          replace HA2 := Lib.hid (HA2.out.later HD.out)
          clear hd HD b0 b1 b2 b3
          obtain ⟨b0, b1, b2, b3⟩ := HK3.out.cells
          have hz3 := HK3.out.lt
          go_wp2_with fail
          have HF := Lib.hid (sort_new (T ++ row ++ ⟨#[10]⟩) (.slice (some ⟨w1.heap.size, 0, none⟩) 1 1) (d3.alloc usedObj) (d3.heap.size + 1) (by simp only [World.size_alloc]) (HK3.out.later (below_alloc _ usedObj)).glob (HK3.out.later (below_alloc _ usedObj)).src HLW.out.s4 HLW.out.r4)
          with_reducible refine HF.out.mono ?_
          clear HF
          rintro e d4 ⟨hd, p4, q4, x4, y4, r4, rfl, HA4, HR4⟩
          have HD := Lib.hid (below_trans (below_alloc d3 (.cells #[.int .i64 0, .int .i64 0] 31)) hd)
          have HK4 := Lib.hid (HK3.out.later HD.out)
          replace HA1 := Lib.hid (HA1.out.later HD.out)
          replace HA2 := Lib.hid (HA2.out.later HD.out)
          replace HA3 := Lib.hid (HA3.out.later HD.out)
          clear hd HD b0 b1 b2 b3
          have HO := Lib.hid (sorts_out HL.out HR1.out HR2.out HR3.out HR4.out)
          have HB4 := Lib.hid (below_alloc d4 (.cells #[.int .i64 0, .int .i64 0] 31))
          have HLa := Lib.hid (last2e (HA1.out.later HB4.out) rfl)
          have HLb := Lib.hid (last2e (HA2.out.later HB4.out) HO.out.again)
          have HLc := Lib.hid (last2e (HA3.out.later HB4.out) rfl)
          have HLd := Lib.hid (last2e (HA4.out.later HB4.out) HO.out.ahead.symm)
          have hs1 : r1.size = T.size := HO.out.size
          have hs3 : r3.size = T.size + row.size + 1 := HO.out.more
          have HN1 := Lib.hid (lines_e r1 (d4.alloc (.cells #[.int .i64 0, .int .i64 0] 31)) (linesN T) true (by omega) (by rw [HO.out.same]) HO.out.ok)
          have HN2 := Lib.hid (lines_e T (d4.alloc (.cells #[.int .i64 0, .int .i64 0] 31)) (linesN T) (linesOk T) (by omega) rfl rfl)
          go_wp2_with (first | (go_at_call 22; (first | (with_reducible refine HLa.out.mono ?_) | (with_reducible refine HLb.out.mono ?_) | (with_reducible refine HLc.out.mono ?_) | (with_reducible refine HLd.out.mono ?_)); rintro e w' ⟨rfl, rfl⟩) | (go_at_call 23; (first | (with_reducible refine HN1.out.mono ?_) | (with_reducible refine HN2.out.mono ?_)); rintro e w' ⟨rfl, rfl⟩))
          go_ret
          exact ⟨rfl, (HK4.out.later HB4.out).below⟩
      · have HL := Lib.hid (sorts_law text row (ends_self (by omega) (byte_eq ‹_›)) (row_clean HK.out))
        have HZ : Hid (text.size ≤ 2001) := Lib.hid (by omega)
        have HLW := sorts_sizes HL.out HZ.out h2
        have HK0 := Lib.hid (Kept.first HG.out HB.out)
        refine (sort_new text _ _ _ (by simp only [World.size_alloc]) HK0.out.glob HK0.out.src HLW.out.s1 HLW.out.r1).mono ?_
        rintro e d1 ⟨hd, p1, q1, x1, y1, r1, rfl, HA1, HR1⟩
        have HK1 := Lib.hid (HK0.out.later hd)
        clear hd
        go_wp2_with fail
        have HP := Lib.hid (below_alloc d1 (.cells #[.int .i64 0, .int .i64 0] 31))
        replace HK1 := Lib.hid (HK1.out.later HP.out)
        replace HA1 := Lib.hid (HA1.out.later HP.out)
        clear HP
        generalize hD1 : d1.alloc (.cells #[.int .i64 0, .int .i64 0] 31) = P1 at HK1 HA1 ⊢
        clear hD1
        go_cut [12, 13, 14, 15] from 76 (fun b12 b13 b14 b15 wx => ∃ p2 q2 r2, b12 = .slice p2 2 q2 ∧ b15 = .int .i64 0 ∧ Hid (Cut2 w w1.heap.size text r1 p1 q1 p2 q2 r2 wx))
        case first =>
          have HC1 := Lib.hid (HK1.out.later (Below.refl _ P1).drew).cells
          have HC2 := Lib.hid (HK1.out.later (below_alloc P1 usedObj).drew).cells
          have HC3 := Lib.hid (HK1.out.later (below_alloc P1 (.cells #[.string ⟨#[97]⟩, .string r1] 40)).drew).cells
          have HC4 := Lib.hid (HK1.out.later (below_trans (below_alloc P1 (.cells #[.string ⟨#[97]⟩, .string r1] 40)) (below_alloc _ usedObj)).drew).cells
          have HC5 := Lib.hid (HK1.out.later (below_trans (below_alloc P1 usedObj) (below_alloc _ (.cells #[.string ⟨#[97]⟩, .string r1] 40))).drew).cells
          have HL1 := Lib.hid (last2' (HA1.out.later (Below.refl _ P1).drew))
          have HL2 := Lib.hid (last2' (HA1.out.later (below_alloc P1 usedObj).drew))
          have HFa := Lib.hid (sort_new_drew r1 (.slice (some ⟨w1.heap.size, 0, none⟩) 1 1) P1 P1.heap.size rfl HK1.out.glob HK1.out.src (sizes2 HLW.out HR1.out).1 (sizes2 HLW.out HR1.out).2)
          have HFb := Lib.hid (sort_new_drew2 r1 (.slice (some ⟨w1.heap.size, 0, none⟩) 1 1) P1 P1.heap.size rfl HK1.out.glob HK1.out.src (sizes2 HLW.out HR1.out).1 (sizes2 HLW.out HR1.out).2)
          have HFc := Lib.hid (sort_new_drew r1 (.slice (some ⟨w1.heap.size, 0, none⟩) 1 1) (P1.alloc usedObj) (P1.heap.size + 1) (by simp only [World.size_alloc]) (HK1.out.later (below_alloc _ _)).glob (HK1.out.later (below_alloc _ _)).src (sizes2 HLW.out HR1.out).1 (sizes2 HLW.out HR1.out).2)
          have hzz := HK1.out.lt
          go_region_held3 (fun W => W.cell? ⟨w1.heap.size + 1, 0, none⟩ = some (.int .i64 3) ∧ W.cell? ⟨w1.heap.size + 1, 1, none⟩ = some (.slice (some ⟨w1.heap.size, 0, none⟩) 1 1) ∧ W.cell? ⟨w1.heap.size + 1, 2, none⟩ = some (.string ⟨#[98]⟩) ∧ W.cell? ⟨w1.heap.size + 1, 3, none⟩ = some (.bool false))
            (first | (with_reducible exact HC1.out) | (with_reducible exact HC2.out) | (with_reducible exact HC3.out) | (with_reducible exact HC4.out) | (with_reducible exact HC5.out) | (with_reducible exact HC6.out) | (with_reducible exact HC7.out) | go_keep)
          (first | (go_at_call 22; (first | (with_reducible refine HL1.out.mono ?_) | (with_reducible refine HL2.out.mono ?_)); rintro e w' ⟨rfl, rfl⟩) | (go_at_call 17; (with_reducible refine HFa.out.mono ?_); rintro e d2 ⟨hd, p2, q2, x2, y2, r2, rfl, HA2, HR2⟩; have HQ := Lib.hid (way_a HK1.out HA1.out hd HA2.out HR2.out); have HC6 := Lib.hid HQ.out.kept.cells; have HC7 := Lib.hid (HQ.out.kept.later (below_alloc d2 usedObj)).cells; have HQ2 := Lib.hid (HQ.out.later (below_alloc d2 usedObj))) | (go_at_call 17; (with_reducible refine HFb.out.mono ?_); rintro e d2 ⟨hd, p2, q2, x2, y2, r2, rfl, HA2, HR2⟩; have HQ2 := Lib.hid (way_b HK1.out HA1.out hd HA2.out HR2.out).1; have HC6 := Lib.hid HQ2.out.kept.cells; obtain ⟨z1, z2, z3, z4, z5, z6⟩ := zero_box (way_b HK1.out HA1.out hd HA2.out HR2.out).2; have HC7 := HC6) | (go_at_call 17; (with_reducible refine HFc.out.mono ?_); rintro e d2 ⟨hd, p2, q2, x2, y2, r2, rfl, HA2, HR2⟩; have HQ2 := Lib.hid (way_c HK1.out HA1.out hd HA2.out HR2.out).1; have HC6 := Lib.hid HQ2.out.kept.cells; obtain ⟨z1, z2, z3, z4, z5, z6⟩ := zero_box (way_c HK1.out HA1.out hd HA2.out HR2.out).2; have HC7 := HC6))
          all_goals (go_wp2_with fail; go_meet; exact ⟨_, _, _, rfl, rfl, HQ2⟩)
        case rest =>
          obtain ⟨p2, q2, r2, rfl, rfl, HQ⟩ := hcut
          have HK2 := Lib.hid HQ.out.kept; have HA2 := Lib.hid HQ.out.fils2; have HR2 := Lib.hid HQ.out.eq2
          replace HA1 := Lib.hid HQ.out.fils1
          clear HQ
          rename World => d2
          have hT1 : text.size ≤ 2001 := HZ.out
          have hr1 : row.size ≤ 100 := by omega
          obtain ⟨b0, b1, b2, b3⟩ := HK2.out.cells
          have hz2 := HK2.out.lt
          go_wp2_with fail
          have HF := Lib.hid (sort_new (row ++ ⟨#[10]⟩ ++ text) (.slice (some ⟨w1.heap.size, 0, none⟩) 1 1) d2 d2.heap.size (rfl) (HK2.out).glob (HK2.out).src HLW.out.s3 HLW.out.r3)
          with_reducible refine HF.out.mono ?_
          clear HF
          rintro e d3 ⟨hd, p3, q3, x3, y3, r3, rfl, HA3, HR3⟩
          have HD := Lib.hid hd
          have HK3 := Lib.hid (HK2.out.later HD.out)
          replace HA1 := Lib.hid (HA1.out.later HD.out)
          replace HA2 := Lib.hid (HA2.out.later HD.out)
          clear hd HD b0 b1 b2 b3
          obtain ⟨b0, b1, b2, b3⟩ := HK3.out.cells
          have hz3 := HK3.out.lt
          go_wp2_with fail
          have HF := Lib.hid (sort_new (text ++ row ++ ⟨#[10]⟩) (.slice (some ⟨w1.heap.size, 0, none⟩) 1 1) (d3.alloc usedObj) (d3.heap.size + 1) (by simp only [World.size_alloc]) (HK3.out.later (below_alloc _ usedObj)).glob (HK3.out.later (below_alloc _ usedObj)).src HLW.out.s4 HLW.out.r4)
          with_reducible refine HF.out.mono ?_
          clear HF
          rintro e d4 ⟨hd, p4, q4, x4, y4, r4, rfl, HA4, HR4⟩
          have HD := Lib.hid (below_trans (below_alloc d3 (.cells #[.int .i64 0, .int .i64 0] 31)) hd)
          have HK4 := Lib.hid (HK3.out.later HD.out)
          replace HA1 := Lib.hid (HA1.out.later HD.out)
          replace HA2 := Lib.hid (HA2.out.later HD.out)
          replace HA3 := Lib.hid (HA3.out.later HD.out)
          clear hd HD b0 b1 b2 b3
          have HO := Lib.hid (sorts_out HL.out HR1.out HR2.out HR3.out HR4.out)
          have HB4 := Lib.hid (below_alloc d4 (.cells #[.int .i64 0, .int .i64 0] 31))
          have HLa := Lib.hid (last2e (HA1.out.later HB4.out) rfl)
          have HLb := Lib.hid (last2e (HA2.out.later HB4.out) HO.out.again)
          have HLc := Lib.hid (last2e (HA3.out.later HB4.out) rfl)
          have HLd := Lib.hid (last2e (HA4.out.later HB4.out) HO.out.ahead.symm)
          have hs1 : r1.size = text.size := HO.out.size
          have hs3 : r3.size = text.size + row.size + 1 := HO.out.more
          have HN1 := Lib.hid (lines_e r1 (d4.alloc (.cells #[.int .i64 0, .int .i64 0] 31)) (linesN text) true (by omega) (by rw [HO.out.same]) HO.out.ok)
          have HN2 := Lib.hid (lines_e text (d4.alloc (.cells #[.int .i64 0, .int .i64 0] 31)) (linesN text) (linesOk text) (by omega) rfl rfl)
          go_wp2_with (first | (go_at_call 22; (first | (with_reducible refine HLa.out.mono ?_) | (with_reducible refine HLb.out.mono ?_) | (with_reducible refine HLc.out.mono ?_) | (with_reducible refine HLd.out.mono ?_)); rintro e w' ⟨rfl, rfl⟩) | (go_at_call 23; (first | (with_reducible refine HN1.out.mono ?_) | (with_reducible refine HN2.out.mono ?_)); rintro e w' ⟨rfl, rfl⟩))
          go_ret
          exact ⟨rfl, (HK4.out.later HB4.out).below⟩
      · have HL := Lib.hid (sorts_law text row (ends_none (by omega)) (row_clean HK.out))
        have HZ : Hid (text.size ≤ 2001) := Lib.hid (by omega)
        have HLW := sorts_sizes HL.out HZ.out h2
        have HK0 := Lib.hid (Kept.first HG.out HB.out)
        refine (sort_new text _ _ _ (by simp only [World.size_alloc]) HK0.out.glob HK0.out.src HLW.out.s1 HLW.out.r1).mono ?_
        rintro e d1 ⟨hd, p1, q1, x1, y1, r1, rfl, HA1, HR1⟩
        have HK1 := Lib.hid (HK0.out.later hd)
        clear hd
        go_wp2_with fail
        have HP := Lib.hid (below_alloc d1 (.cells #[.int .i64 0, .int .i64 0] 31))
        replace HK1 := Lib.hid (HK1.out.later HP.out)
        replace HA1 := Lib.hid (HA1.out.later HP.out)
        clear HP
        generalize hD1 : d1.alloc (.cells #[.int .i64 0, .int .i64 0] 31) = P1 at HK1 HA1 ⊢
        clear hD1
        go_cut [12, 13, 14, 15] from 76 (fun b12 b13 b14 b15 wx => ∃ p2 q2 r2, b12 = .slice p2 2 q2 ∧ b15 = .int .i64 0 ∧ Hid (Cut2 w w1.heap.size text r1 p1 q1 p2 q2 r2 wx))
        case first =>
          have HC1 := Lib.hid (HK1.out.later (Below.refl _ P1).drew).cells
          have HC2 := Lib.hid (HK1.out.later (below_alloc P1 usedObj).drew).cells
          have HC3 := Lib.hid (HK1.out.later (below_alloc P1 (.cells #[.string ⟨#[97]⟩, .string r1] 40)).drew).cells
          have HC4 := Lib.hid (HK1.out.later (below_trans (below_alloc P1 (.cells #[.string ⟨#[97]⟩, .string r1] 40)) (below_alloc _ usedObj)).drew).cells
          have HC5 := Lib.hid (HK1.out.later (below_trans (below_alloc P1 usedObj) (below_alloc _ (.cells #[.string ⟨#[97]⟩, .string r1] 40))).drew).cells
          have HL1 := Lib.hid (last2' (HA1.out.later (Below.refl _ P1).drew))
          have HL2 := Lib.hid (last2' (HA1.out.later (below_alloc P1 usedObj).drew))
          have HFa := Lib.hid (sort_new_drew r1 (.slice (some ⟨w1.heap.size, 0, none⟩) 1 1) P1 P1.heap.size rfl HK1.out.glob HK1.out.src (sizes2 HLW.out HR1.out).1 (sizes2 HLW.out HR1.out).2)
          have HFb := Lib.hid (sort_new_drew2 r1 (.slice (some ⟨w1.heap.size, 0, none⟩) 1 1) P1 P1.heap.size rfl HK1.out.glob HK1.out.src (sizes2 HLW.out HR1.out).1 (sizes2 HLW.out HR1.out).2)
          have HFc := Lib.hid (sort_new_drew r1 (.slice (some ⟨w1.heap.size, 0, none⟩) 1 1) (P1.alloc usedObj) (P1.heap.size + 1) (by simp only [World.size_alloc]) (HK1.out.later (below_alloc _ _)).glob (HK1.out.later (below_alloc _ _)).src (sizes2 HLW.out HR1.out).1 (sizes2 HLW.out HR1.out).2)
          have hzz := HK1.out.lt
          go_region_held3 (fun W => W.cell? ⟨w1.heap.size + 1, 0, none⟩ = some (.int .i64 3) ∧ W.cell? ⟨w1.heap.size + 1, 1, none⟩ = some (.slice (some ⟨w1.heap.size, 0, none⟩) 1 1) ∧ W.cell? ⟨w1.heap.size + 1, 2, none⟩ = some (.string ⟨#[98]⟩) ∧ W.cell? ⟨w1.heap.size + 1, 3, none⟩ = some (.bool false))
            (first | (with_reducible exact HC1.out) | (with_reducible exact HC2.out) | (with_reducible exact HC3.out) | (with_reducible exact HC4.out) | (with_reducible exact HC5.out) | (with_reducible exact HC6.out) | (with_reducible exact HC7.out) | go_keep)
          (first | (go_at_call 22; (first | (with_reducible refine HL1.out.mono ?_) | (with_reducible refine HL2.out.mono ?_)); rintro e w' ⟨rfl, rfl⟩) | (go_at_call 17; (with_reducible refine HFa.out.mono ?_); rintro e d2 ⟨hd, p2, q2, x2, y2, r2, rfl, HA2, HR2⟩; have HQ := Lib.hid (way_a HK1.out HA1.out hd HA2.out HR2.out); have HC6 := Lib.hid HQ.out.kept.cells; have HC7 := Lib.hid (HQ.out.kept.later (below_alloc d2 usedObj)).cells; have HQ2 := Lib.hid (HQ.out.later (below_alloc d2 usedObj))) | (go_at_call 17; (with_reducible refine HFb.out.mono ?_); rintro e d2 ⟨hd, p2, q2, x2, y2, r2, rfl, HA2, HR2⟩; have HQ2 := Lib.hid (way_b HK1.out HA1.out hd HA2.out HR2.out).1; have HC6 := Lib.hid HQ2.out.kept.cells; obtain ⟨z1, z2, z3, z4, z5, z6⟩ := zero_box (way_b HK1.out HA1.out hd HA2.out HR2.out).2; have HC7 := HC6) | (go_at_call 17; (with_reducible refine HFc.out.mono ?_); rintro e d2 ⟨hd, p2, q2, x2, y2, r2, rfl, HA2, HR2⟩; have HQ2 := Lib.hid (way_c HK1.out HA1.out hd HA2.out HR2.out).1; have HC6 := Lib.hid HQ2.out.kept.cells; obtain ⟨z1, z2, z3, z4, z5, z6⟩ := zero_box (way_c HK1.out HA1.out hd HA2.out HR2.out).2; have HC7 := HC6))
          all_goals (go_wp2_with fail; go_meet; exact ⟨_, _, _, rfl, rfl, HQ2⟩)
        case rest =>
          obtain ⟨p2, q2, r2, rfl, rfl, HQ⟩ := hcut
          have HK2 := Lib.hid HQ.out.kept; have HA2 := Lib.hid HQ.out.fils2; have HR2 := Lib.hid HQ.out.eq2
          replace HA1 := Lib.hid HQ.out.fils1
          clear HQ
          rename World => d2
          have hT1 : text.size ≤ 2001 := HZ.out
          have hr1 : row.size ≤ 100 := by omega
          obtain ⟨b0, b1, b2, b3⟩ := HK2.out.cells
          have hz2 := HK2.out.lt
          go_wp2_with fail
          have HF := Lib.hid (sort_new (row ++ ⟨#[10]⟩ ++ text) (.slice (some ⟨w1.heap.size, 0, none⟩) 1 1) d2 d2.heap.size (rfl) (HK2.out).glob (HK2.out).src HLW.out.s3 HLW.out.r3)
          with_reducible refine HF.out.mono ?_
          clear HF
          rintro e d3 ⟨hd, p3, q3, x3, y3, r3, rfl, HA3, HR3⟩
          have HD := Lib.hid hd
          have HK3 := Lib.hid (HK2.out.later HD.out)
          replace HA1 := Lib.hid (HA1.out.later HD.out)
          replace HA2 := Lib.hid (HA2.out.later HD.out)
          clear hd HD b0 b1 b2 b3
          obtain ⟨b0, b1, b2, b3⟩ := HK3.out.cells
          have hz3 := HK3.out.lt
          go_wp2_with fail
          have HF := Lib.hid (sort_new (text ++ row ++ ⟨#[10]⟩) (.slice (some ⟨w1.heap.size, 0, none⟩) 1 1) (d3.alloc usedObj) (d3.heap.size + 1) (by simp only [World.size_alloc]) (HK3.out.later (below_alloc _ usedObj)).glob (HK3.out.later (below_alloc _ usedObj)).src HLW.out.s4 HLW.out.r4)
          with_reducible refine HF.out.mono ?_
          clear HF
          rintro e d4 ⟨hd, p4, q4, x4, y4, r4, rfl, HA4, HR4⟩
          have HD := Lib.hid (below_trans (below_alloc d3 (.cells #[.int .i64 0, .int .i64 0] 31)) hd)
          have HK4 := Lib.hid (HK3.out.later HD.out)
          replace HA1 := Lib.hid (HA1.out.later HD.out)
          replace HA2 := Lib.hid (HA2.out.later HD.out)
          replace HA3 := Lib.hid (HA3.out.later HD.out)
          clear hd HD b0 b1 b2 b3
          have HO := Lib.hid (sorts_out HL.out HR1.out HR2.out HR3.out HR4.out)
          have HB4 := Lib.hid (below_alloc d4 (.cells #[.int .i64 0, .int .i64 0] 31))
          have HLa := Lib.hid (last2e (HA1.out.later HB4.out) rfl)
          have HLb := Lib.hid (last2e (HA2.out.later HB4.out) HO.out.again)
          have HLc := Lib.hid (last2e (HA3.out.later HB4.out) rfl)
          have HLd := Lib.hid (last2e (HA4.out.later HB4.out) HO.out.ahead.symm)
          have hs1 : r1.size = text.size := HO.out.size
          have hs3 : r3.size = text.size + row.size + 1 := HO.out.more
          have HN1 := Lib.hid (lines_e r1 (d4.alloc (.cells #[.int .i64 0, .int .i64 0] 31)) (linesN text) true (by omega) (by rw [HO.out.same]) HO.out.ok)
          have HN2 := Lib.hid (lines_e text (d4.alloc (.cells #[.int .i64 0, .int .i64 0] 31)) (linesN text) (linesOk text) (by omega) rfl rfl)
          go_wp2_with (first | (go_at_call 22; (first | (with_reducible refine HLa.out.mono ?_) | (with_reducible refine HLb.out.mono ?_) | (with_reducible refine HLc.out.mono ?_) | (with_reducible refine HLd.out.mono ?_)); rintro e w' ⟨rfl, rfl⟩) | (go_at_call 23; (first | (with_reducible refine HN1.out.mono ?_) | (with_reducible refine HN2.out.mono ?_)); rintro e w' ⟨rfl, rfl⟩))
          go_ret
          exact ⟨rfl, (HK4.out.later HB4.out).below⟩
end Go.Proofs.YtacgopankhpnbaaGreatDoor
