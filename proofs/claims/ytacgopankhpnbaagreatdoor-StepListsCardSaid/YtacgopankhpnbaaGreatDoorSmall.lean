/- Walk of ladinglaw32.small. -/
import Derived.Test.YtacgopankhpnbaaGreatDoorLawC
namespace Go.Proofs.YtacgopankhpnbaaGreatDoor
open Go.RowKit

theorem small_sizes (l : List ByteArray) (h : l.all (fun x => decide (x.size ≤ 100)) = true) : ∀ x, x ∈ l → x.size ≤ 140737488355328 := by
  intro x hx
  have := List.all_eq_true.1 h x hx
  simp at this; omega

theorem do_lit (s : Stp) (clock order : List Int) (vf vl vc vo : Value) (u0 u1 : Int) (w : World) (hG : Glob w) (hsrc : Strs w vf s.src) (hout : s.out.size ≤ 100) (hfil : Fils w vl lawFiles) (hclk : Ints w vc clock) (hord : Ints w vo order)
    (hu : 0 ≤ u0 ∧ u0 ≤ 100 ∧ 0 ≤ u1 ∧ u1 ≤ 100) (hc : clock.all (fun x => (Lit.int .i64 x).wf) = true) (ho : order.all (fun x => (Lit.int .i64 x).wf) = true) (h5 : s.kind ≠ 5) {r : DoRes} (hr : doStep C0 s lawFiles clock order u0 u1 = r) :
    Calls Tryz.prog 17 (doArgs s vf vl vc vo (.slice none 0 0) u0 u1) w (DoPost w s lawFiles u0 u1 r) := by
  rw [← hr]
  exact do_any C0 s lawFiles clock order vf vl vc vo _ u0 u1 w ⟨hG, hsrc, by omega, hfil, hclk, hord, ⟨_, _, _, rfl⟩, by omega, by omega, List.all_eq_true.1 hc, List.all_eq_true.1 ho⟩ h5

theorem alloc_self2 (d : World) (u o : Obj) : ((d.alloc u).alloc o).heap[d.heap.size + 1]? = some o := by
  have := alloc_self (d.alloc u) o
  simpa only [World.size_alloc] using this
theorem used0 (d : World) (x y : Value) : (d.alloc (.cells #[x, y] 31)).cell? ⟨d.heap.size, 0, none⟩ = some x := by simp only [World.cell?, alloc_self]; simp
theorem used1 (d : World) (x y : Value) : (d.alloc (.cells #[x, y] 31)).cell? ⟨d.heap.size, 1, none⟩ = some y := by simp only [World.cell?, alloc_self]; simp
theorem last_do {s : Stp} {files : List Fil} {text : ByteArray} {v : Value} {w : World} (h : Fils w v (doFiles s files text)) :
    Calls Tryz.prog 22 #[v] w fun e w' => e = .returned (.string text) ∧ w = w' := by
  have := last_any _ v w h
  rwa [show lastText (doFiles s files text) = text by simp [lastText, doFiles]] at this
theorem arr20 (w : World) : (binOp .eql 31 (.agg #[.int .i64 2, .int .i64 0]) (.agg #[.int .i64 2, .int .i64 0])).run Tryz.prog w = .ok (.bool true) w := by kernel_rfl
theorem arr02 (w : World) : (binOp .eql 31 (.agg #[.int .i64 0, .int .i64 2]) (.agg #[.int .i64 0, .int .i64 2])).run Tryz.prog w = .ok (.bool true) w := by kernel_rfl
theorem arr00 (w : World) : (binOp .eql 31 (.agg #[.int .i64 0, .int .i64 0]) (.agg #[.int .i64 0, .int .i64 0])).run Tryz.prog w = .ok (.bool true) w := by kernel_rfl
theorem fils_slice {w : World} {v : Value} {l : List Fil} (h : Fils w v l) : ∃ a c, v = .slice a l.length c := by
  obtain ⟨a, c, hv, -⟩ := h; exact ⟨a, c, hv⟩

set_option maxHeartbeats 4000000 in
set_option maxRecDepth 100000 in
theorem small_any (w : World) (hG : Glob w) :
    Calls Tryz.prog 15 #[] w fun e w' => e = .returned (.bool true) ∧ Below w.heap.size w w' := by
  have HG := Lib.hid hG; clear hG
  have q1 := arr20
  have q2 := arr02
  have q3 := arr00
  go_enter Tryz.func15, Tryz.ntmps15
  go_wp2_with fail
  refine (files_any _).mono ?_
  rintro e f1 ⟨v1, rfl, hv1, hb1⟩
  have HS1 : Hid (Strs f1 (.slice (some ⟨w.heap.size, 0, none⟩) 1 1) [⟨#[97]⟩]) := Lib.hid ((strs_made [⟨#[97]⟩] (alloc_self w _) rfl (by decide) (small_sizes _ (by decide))).later hb1)
  have HF1 : Hid (Below w.heap.size w f1) := Lib.hid (below_trans (below_alloc w _) hb1)
  obtain ⟨a1, c1, e1⟩ := fils_slice hv1
  subst e1
  have HV1 := Lib.hid hv1
  clear hv1 hb1
  go_wp2_with fail
  refine (do_lit ⟨3, [⟨#[97]⟩], ⟨#[99]⟩, false⟩ [] [] _ _ _ _ 0 0 _ (by exact (HG.out.later HF1.out)) (by exact HS1.out) (by decide) (by exact HV1.out) (by exact (ints_nil _)) (by exact (ints_nil _)) (by decide) rfl rfl (by decide) ex1).mono ?_
  rintro e d1 ⟨hd1, vA1, vS1, rfl, hA1, hT1⟩
  obtain ⟨p1, q1, r1⟩ := fils_slice hA1
  obtain ⟨x1, y1, z1⟩ := strs_slice hT1
  subst r1 z1
  have HA1 := Lib.hid hA1; clear hA1 hT1
  have HD1 : Hid (Below w.heap.size w d1) := Lib.hid (below_trans (HF1.out) hd1)
  clear hd1
  go_wp2_with fail
  refine (files_any _).mono ?_
  rintro e f2 ⟨v2, rfl, hv2, hb2⟩
  have HS2 : Hid (Strs f2 (.slice (some ⟨d1.heap.size + 1, 0, none⟩) 1 1) [⟨#[98]⟩]) := Lib.hid ((strs_made [⟨#[98]⟩] (alloc_self2 d1 _ _) rfl (by decide) (small_sizes _ (by decide))).later hb2)
  have HF2 : Hid (Below w.heap.size w f2) := Lib.hid (below_trans (below_trans (below_trans HD1.out (below_alloc _ _)) (below_alloc _ _)) hb2)
  have HFd2 : Hid (Below d1.heap.size d1 f2) := Lib.hid (below_trans (below_trans (below_alloc _ _) (below_alloc _ _)) hb2)
  have HU1 : Hid (f2.cell? ⟨d1.heap.size, 0, none⟩ = some (.int .i64 0) ∧ f2.cell? ⟨d1.heap.size, 1, none⟩ = some (.int .i64 0)) := Lib.hid ⟨cell_later (below_trans (below_alloc _ _) hb2) (used0 d1 _ _), cell_later (below_trans (below_alloc _ _) hb2) (used1 d1 _ _)⟩
  obtain ⟨a2, c2, e2⟩ := fils_slice hv2
  subst e2
  have HV2 := Lib.hid hv2
  clear hv2 hb2
  go_wp2_with fail
  refine (do_lit ⟨4, [⟨#[98]⟩], ⟨#[99]⟩, false⟩ [70, 80] [] _ _ _ _ 1 0 _ (by exact (HG.out.later (below_trans HF2.out (below_alloc _ _)))) (by exact (HS2.out.later (below_alloc _ _))) (by decide) (by exact (HV2.out.later (below_alloc _ _))) (by exact (ints_made [70, 80] (alloc_self _ _) rfl (by decide))) (by exact (ints_nil _)) (by decide) rfl rfl (by decide) ex2).mono ?_
  rintro e d2 ⟨hd2, vA2, vS2, rfl, hA2, hT2⟩
  obtain ⟨p2, q2, r2⟩ := fils_slice hA2
  obtain ⟨x2, y2, z2⟩ := strs_slice hT2
  subst r2 z2
  have HA2 := Lib.hid hA2; clear hA2 hT2
  have HD2 : Hid (Below w.heap.size w d2) := Lib.hid (below_trans (below_trans HF2.out (below_alloc _ _)) hd2)
  have HDd2 : Hid (Below d1.heap.size d1 d2) := Lib.hid (below_trans (below_trans HFd2.out (below_alloc _ _)) hd2)
  have HUd1 := Lib.hid (show d2.cell? ⟨d1.heap.size, 0, none⟩ = some (.int .i64 0) ∧ d2.cell? ⟨d1.heap.size, 1, none⟩ = some (.int .i64 0) from ⟨cell_later (below_trans (below_alloc _ _) hd2) HU1.out.1, cell_later (below_trans (below_alloc _ _) hd2) HU1.out.2⟩)
  clear hd2
  go_wp2_with fail
  refine (files_any _).mono ?_
  rintro e f3 ⟨v3, rfl, hv3, hb3⟩
  have HS3 : Hid (Strs f3 (.slice (some ⟨d2.heap.size + 1, 0, none⟩) 2 2) [⟨#[98]⟩, ⟨#[97]⟩]) := Lib.hid ((strs_made [⟨#[98]⟩, ⟨#[97]⟩] (alloc_self2 d2 _ _) rfl (by decide) (small_sizes _ (by decide))).later hb3)
  have HF3 : Hid (Below w.heap.size w f3) := Lib.hid (below_trans (below_trans (below_trans HD2.out (below_alloc _ _)) (below_alloc _ _)) hb3)
  have HFd3 : Hid (Below d2.heap.size d2 f3) := Lib.hid (below_trans (below_trans (below_alloc _ _) (below_alloc _ _)) hb3)
  have HU2 : Hid (f3.cell? ⟨d2.heap.size, 0, none⟩ = some (.int .i64 2) ∧ f3.cell? ⟨d2.heap.size, 1, none⟩ = some (.int .i64 0)) := Lib.hid ⟨cell_later (below_trans (below_alloc _ _) hb3) (used0 d2 _ _), cell_later (below_trans (below_alloc _ _) hb3) (used1 d2 _ _)⟩
  obtain ⟨a3, c3, e3⟩ := fils_slice hv3
  subst e3
  have HV3 := Lib.hid hv3
  clear hv3 hb3
  go_wp2_with fail
  refine (do_lit ⟨2, [⟨#[98]⟩, ⟨#[97]⟩], ⟨#[99]⟩, false⟩ [] [1] _ _ _ _ 0 0 _ (by exact (HG.out.later (below_trans HF3.out (below_alloc _ _)))) (by exact (HS3.out.later (below_alloc _ _))) (by decide) (by exact (HV3.out.later (below_alloc _ _))) (by exact (ints_nil _)) (by exact (ints_made [1] (alloc_self _ _) rfl (by decide))) (by decide) rfl rfl (by decide) ex3).mono ?_
  rintro e d3 ⟨hd3, vA3, vS3, rfl, hA3, hT3⟩
  obtain ⟨p3, q3, r3⟩ := fils_slice hA3
  obtain ⟨x3, y3, z3⟩ := strs_slice hT3
  subst r3 z3
  have HA3 := Lib.hid hA3; clear hA3 hT3
  have HD3 : Hid (Below w.heap.size w d3) := Lib.hid (below_trans (below_trans HF3.out (below_alloc _ _)) hd3)
  have HDd3 : Hid (Below d2.heap.size d2 d3) := Lib.hid (below_trans (below_trans HFd3.out (below_alloc _ _)) hd3)
  have HUd2 := Lib.hid (show d3.cell? ⟨d2.heap.size, 0, none⟩ = some (.int .i64 2) ∧ d3.cell? ⟨d2.heap.size, 1, none⟩ = some (.int .i64 0) from ⟨cell_later (below_trans (below_alloc _ _) hd3) HU2.out.1, cell_later (below_trans (below_alloc _ _) hd3) HU2.out.2⟩)
  clear hd3
  go_wp2_with fail
  refine (files_any _).mono ?_
  rintro e f4 ⟨v4, rfl, hv4, hb4⟩
  have HS4 : Hid (Strs f4 (.slice (some ⟨d3.heap.size + 1, 0, none⟩) 2 2) [⟨#[98]⟩, ⟨#[97]⟩]) := Lib.hid ((strs_made [⟨#[98]⟩, ⟨#[97]⟩] (alloc_self2 d3 _ _) rfl (by decide) (small_sizes _ (by decide))).later hb4)
  have HF4 : Hid (Below w.heap.size w f4) := Lib.hid (below_trans (below_trans (below_trans HD3.out (below_alloc _ _)) (below_alloc _ _)) hb4)
  have HFd4 : Hid (Below d3.heap.size d3 f4) := Lib.hid (below_trans (below_trans (below_alloc _ _) (below_alloc _ _)) hb4)
  have HU3 : Hid (f4.cell? ⟨d3.heap.size, 0, none⟩ = some (.int .i64 0) ∧ f4.cell? ⟨d3.heap.size, 1, none⟩ = some (.int .i64 2)) := Lib.hid ⟨cell_later (below_trans (below_alloc _ _) hb4) (used0 d3 _ _), cell_later (below_trans (below_alloc _ _) hb4) (used1 d3 _ _)⟩
  obtain ⟨a4, c4, e4⟩ := fils_slice hv4
  subst e4
  have HV4 := Lib.hid hv4
  clear hv4 hb4
  go_wp2_with fail
  refine (do_lit ⟨2, [⟨#[98]⟩, ⟨#[97]⟩], ⟨#[99]⟩, true⟩ [] [1] _ _ _ _ 0 0 _ (by exact (HG.out.later (below_trans HF4.out (below_alloc _ _)))) (by exact (HS4.out.later (below_alloc _ _))) (by decide) (by exact (HV4.out.later (below_alloc _ _))) (by exact (ints_nil _)) (by exact (ints_made [1] (alloc_self _ _) rfl (by decide))) (by decide) rfl rfl (by decide) ex4).mono ?_
  rintro e d4 ⟨hd4, vA4, vS4, rfl, hA4, hT4⟩
  obtain ⟨p4, q4, r4⟩ := fils_slice hA4
  obtain ⟨x4, y4, z4⟩ := strs_slice hT4
  subst r4 z4
  have HA4 := Lib.hid hA4; clear hA4 hT4
  have HD4 : Hid (Below w.heap.size w d4) := Lib.hid (below_trans (below_trans HF4.out (below_alloc _ _)) hd4)
  have HDd4 : Hid (Below d3.heap.size d3 d4) := Lib.hid (below_trans (below_trans HFd4.out (below_alloc _ _)) hd4)
  have HUd3 := Lib.hid (show d4.cell? ⟨d3.heap.size, 0, none⟩ = some (.int .i64 0) ∧ d4.cell? ⟨d3.heap.size, 1, none⟩ = some (.int .i64 2) from ⟨cell_later (below_trans (below_alloc _ _) hd4) HU3.out.1, cell_later (below_trans (below_alloc _ _) hd4) HU3.out.2⟩)
  clear hd4
  go_wp2_with fail
  refine (files_any _).mono ?_
  rintro e f5 ⟨v5, rfl, hv5, hb5⟩
  have HS5 : Hid (Strs f5 (.slice (some ⟨d4.heap.size + 1, 0, none⟩) 3 3) [⟨#[98]⟩, ⟨#[97]⟩, ⟨#[98]⟩]) := Lib.hid ((strs_made [⟨#[98]⟩, ⟨#[97]⟩, ⟨#[98]⟩] (alloc_self2 d4 _ _) rfl (by decide) (small_sizes _ (by decide))).later hb5)
  have HF5 : Hid (Below w.heap.size w f5) := Lib.hid (below_trans (below_trans (below_trans HD4.out (below_alloc _ _)) (below_alloc _ _)) hb5)
  have HFd5 : Hid (Below d4.heap.size d4 f5) := Lib.hid (below_trans (below_trans (below_alloc _ _) (below_alloc _ _)) hb5)
  have HU4 : Hid (f5.cell? ⟨d4.heap.size, 0, none⟩ = some (.int .i64 0) ∧ f5.cell? ⟨d4.heap.size, 1, none⟩ = some (.int .i64 0)) := Lib.hid ⟨cell_later (below_trans (below_alloc _ _) hb5) (used0 d4 _ _), cell_later (below_trans (below_alloc _ _) hb5) (used1 d4 _ _)⟩
  obtain ⟨a5, c5, e5⟩ := fils_slice hv5
  subst e5
  have HV5 := Lib.hid hv5
  clear hv5 hb5
  go_wp2_with fail
  refine (do_lit ⟨1, [⟨#[98]⟩, ⟨#[97]⟩, ⟨#[98]⟩], ⟨#[98]⟩, false⟩ [] [] _ _ _ _ 0 0 _ (by exact (HG.out.later HF5.out)) (by exact HS5.out) (by decide) (by exact HV5.out) (by exact (ints_nil _)) (by exact (ints_nil _)) (by decide) rfl rfl (by decide) ex5).mono ?_
  rintro e d5 ⟨hd5, rfl⟩
  have HD5 : Hid (Below w.heap.size w d5) := Lib.hid (below_trans (HF5.out) hd5)
  have HDd5 : Hid (Below d4.heap.size d4 d5) := Lib.hid (below_trans (HFd5.out) hd5)
  have HUd4 := Lib.hid (show d5.cell? ⟨d4.heap.size, 0, none⟩ = some (.int .i64 0) ∧ d5.cell? ⟨d4.heap.size, 1, none⟩ = some (.int .i64 0) from ⟨cell_later (hd5) HU4.out.1, cell_later (hd5) HU4.out.2⟩)
  clear hd5
  go_wp2_with fail
  refine (files_any _).mono ?_
  rintro e f6 ⟨v6, rfl, hv6, hb6⟩
  have HS6 : Hid (Strs f6 (.slice (some ⟨d5.heap.size + 1, 0, none⟩) 1 1) [⟨#[100]⟩]) := Lib.hid ((strs_made [⟨#[100]⟩] (alloc_self2 d5 _ _) rfl (by decide) (small_sizes _ (by decide))).later hb6)
  have HF6 : Hid (Below w.heap.size w f6) := Lib.hid (below_trans (below_trans (below_trans HD5.out (below_alloc _ _)) (below_alloc _ _)) hb6)
  have HFd6 : Hid (Below d5.heap.size d5 f6) := Lib.hid (below_trans (below_trans (below_alloc _ _) (below_alloc _ _)) hb6)
  have HU5 : Hid (f6.cell? ⟨d5.heap.size, 0, none⟩ = some (.int .i64 0) ∧ f6.cell? ⟨d5.heap.size, 1, none⟩ = some (.int .i64 0)) := Lib.hid ⟨cell_later (below_trans (below_alloc _ _) hb6) (used0 d5 _ _), cell_later (below_trans (below_alloc _ _) hb6) (used1 d5 _ _)⟩
  obtain ⟨a6, c6, e6⟩ := fils_slice hv6
  subst e6
  have HV6 := Lib.hid hv6
  clear hv6 hb6
  go_wp2_with fail
  refine (do_lit ⟨0, [⟨#[100]⟩], ⟨#[99]⟩, false⟩ [] [] _ _ _ _ 0 0 _ (by exact (HG.out.later HF6.out)) (by exact HS6.out) (by decide) (by exact HV6.out) (by exact (ints_nil _)) (by exact (ints_nil _)) (by decide) rfl rfl (by decide) ex6).mono ?_
  rintro e d6 ⟨hd6, rfl⟩
  have HD6 : Hid (Below w.heap.size w d6) := Lib.hid (below_trans (HF6.out) hd6)
  have HDd6 : Hid (Below d5.heap.size d5 d6) := Lib.hid (below_trans (HFd6.out) hd6)
  have HUd5 := Lib.hid (show d6.cell? ⟨d5.heap.size, 0, none⟩ = some (.int .i64 0) ∧ d6.cell? ⟨d5.heap.size, 1, none⟩ = some (.int .i64 0) from ⟨cell_later (hd6) HU5.out.1, cell_later (hd6) HU5.out.2⟩)
  clear hd6
  go_wp2_with fail
  refine (files_any _).mono ?_
  rintro e f7 ⟨v7, rfl, hv7, hb7⟩
  obtain ⟨a7, c7, e7⟩ := fils_slice hv7
  subst e7
  have HV7 := Lib.hid hv7; clear hv7
  have HFd7 := Lib.hid (below_trans (below_alloc d6 _) hb7); clear hb7
  go_wp2_with fail
  refine (find_any lawFiles _ _ _ HV7.out).mono ?_
  rw [show findV lawFiles ⟨#[98]⟩ = .tuple #[.string ⟨#[120]⟩, .bool true] by unfold findV; rw [ex7]]
  rintro e g7 ⟨rfl, hg7⟩
  have HB6 := Lib.hid (below_trans HFd7.out hg7); clear hg7
  have HB5 := Lib.hid (below_trans HDd6.out HB6.out)
  have HB4 := Lib.hid (below_trans HDd5.out HB5.out)
  have HB3 := Lib.hid (below_trans HDd4.out HB4.out)
  have HB2 := Lib.hid (below_trans HDd3.out HB3.out)
  have HB1 := Lib.hid (below_trans HDd2.out HB2.out)
  have k20 := cell_later HB3.out HUd2.out.1
  have k21 := cell_later HB3.out HUd2.out.2
  have k30 := cell_later HB4.out HUd3.out.1
  have k31 := cell_later HB4.out HUd3.out.2
  have k40 := cell_later HB5.out HUd4.out.1
  have k41 := cell_later HB5.out HUd4.out.2
  have HL1 := Lib.hid (last_do (HA1.out.later HB1.out))
  have HL2 := Lib.hid (last_do (HA2.out.later HB2.out))
  have HL3 := Lib.hid (last_do (HA3.out.later HB3.out))
  have HL4 := Lib.hid (last_do (HA4.out.later HB4.out))
  go_wp2_with fail
  refine HL1.out.mono ?_
  rintro e w' ⟨rfl, rfl⟩
  go_wp2_with fail
  refine HL2.out.mono ?_
  rintro e w' ⟨rfl, rfl⟩
  go_wp2_with fail
  refine HL3.out.mono ?_
  rintro e w' ⟨rfl, rfl⟩
  go_wp2_with fail
  refine HL4.out.mono ?_
  rintro e w' ⟨rfl, rfl⟩
  go_wp2_with fail
  refine (files_any _).mono ?_
  rintro e f8 ⟨v8, rfl, hv8, hb8⟩
  obtain ⟨a8, c8, e8⟩ := fils_slice hv8
  subst e8
  have HV8 := Lib.hid hv8; have HB8 := Lib.hid hb8; clear hv8 hb8
  go_wp2_with fail
  refine (rightFiles_any lawFiles _ _ HV8.out).mono ?_
  rw [ex8]
  rintro e f9 ⟨rfl, hb9⟩
  have HB9 := Lib.hid hb9; clear hb9
  go_wp2_with fail
  refine (stepRight_any ⟨0, [⟨#[98]⟩], ⟨#[97]⟩, false⟩ _ _ (strs_made [⟨#[98]⟩] (alloc_self f9 _) rfl (by decide) (small_sizes _ (by decide))) (by decide)).mono ?_
  rw [ex9]
  rintro e f10 ⟨rfl, hb10⟩
  have HB10 := Lib.hid hb10; clear hb10
  go_wp2_with fail
  refine (stepRight_any ⟨0, [], ⟨#[]⟩, false⟩ _ _ (strs_nil _) (by decide)).mono ?_
  rw [ex10]
  rintro e f11 ⟨rfl, hb11⟩
  have HB11 := Lib.hid hb11; clear hb11
  go_wp2_with fail
  refine (stepPure_any ⟨1, [], ⟨#[97]⟩, false⟩ _ _ (strs_nil _) (by decide)).mono ?_
  rw [ex11]
  rintro e f12 ⟨rfl, hb12⟩
  have HB12 := Lib.hid hb12; clear hb12
  go_wp2_with fail
  refine (stepPure_any ⟨2, [], ⟨#[97]⟩, false⟩ _ _ (strs_nil _) (by decide)).mono ?_
  rw [ex12]
  rintro e f13 ⟨rfl, hb13⟩
  have HB13 := Lib.hid hb13; clear hb13
  go_wp2_with fail
  go_ret
  refine ⟨rfl, ?_⟩
  exact below_trans (below_trans (below_trans (below_trans (below_trans (below_trans (below_trans (below_trans HD6.out HB6.out) HB8.out) HB9.out) (below_alloc _ _)) HB10.out) HB11.out) HB12.out) HB13.out
end Go.Proofs.YtacgopankhpnbaaGreatDoor
