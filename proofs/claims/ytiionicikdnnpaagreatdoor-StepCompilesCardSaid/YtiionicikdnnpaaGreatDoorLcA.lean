/- Walk of ladinglaw32.StepCompiles. -/
import Derived.Test.YtiionicikdnnpaaGreatDoorTopC
namespace Go.Proofs.YtiionicikdnnpaaGreatDoor
open Go.RowKit
set_option linter.unusedSimpArgs false
set_option linter.unusedVariables false

/-- Do, at the step of StepCompiles and one file. -/
theorem comp_call (t : ByteArray) (sb fb : Nat) (w : World) (hg : eJ w) (ht : t.size ≤ 65536) (hs : w.heap[sb]? = some (.cells #[.string aB] 9)) (hf : w.heap[fb]? = some (.cells #[.string aB, .string t] 69)) :
    Calls Tryz.prog 40 #[.agg #[.int .i64 5, .slice (some ⟨sb, 0, none⟩) 1 1, .string bB, .bool false], .slice (some ⟨fb, 0, none⟩) 1 1, .agg #[.slice none 0 0, .slice none 0 0, .slice none 0 0], .agg #[.int .i64 0, .int .i64 0]] w (DoFar w compS [⟨aB, t⟩] 0 0 (compR t)) := by
  have h := doAll_any compS [⟨aB, t⟩] [] [] (.slice (some ⟨sb, 0, none⟩) 1 1) (.slice (some ⟨fb, 0, none⟩) 1 1) (.slice none 0 0) (.slice none 0 0) (.slice none 0 0) 0 0 w
    ⟨hg, mS [aB] hs rfl (by decide) (by decide), by decide, fils_made [⟨aB, t⟩] hf rfl (show 1 ≤ 140737488355328 by decide) (by intro f hf; rw [List.mem_singleton.1 hf]; exact ⟨by show aB.size ≤ _; decide, by show t.size ≤ _; omega⟩), mI w, mI w, ⟨_, _, _, rfl⟩, by decide, by decide, by simp, by simp⟩
  rw [comp_do ht] at h
  exact h
/-- What Do hands back here: an error, or two files. -/
theorem comp_error {w w' : World} {e : Ending} {t : ByteArray} {c : Int} (h : DoFar w compS [⟨aB, t⟩] 0 0 (.error c) e w') : e = .returned (doErr 0 0 c) ∧ Below w.heap.size w w' := ⟨h.2, h.1⟩
def codeR : DoRes → Int
  | .error c => c
  | .ok _ => 0
def outR : DoRes → ByteArray
  | .error _ => noB
  | .ok (o, _) => o
theorem comp_any {w w' : World} {e : Ending} {t : ByteArray} {r : DoRes} (h : DoFar w compS [⟨aB, t⟩] 0 0 r e w') : ∃ va n vc vs k vd a b c, e = .returned (.tuple #[.slice va n vc, .slice vs k vd, .agg #[.int .i64 a, .int .i64 b], .int .i64 c]) ∧ c = codeR r ∧ Below w.heap.size w w' ∧
    ∀ W, Below w'.heap.size w' W → Calls Tryz.prog 41 #[.slice va n vc] W fun e W' => e = .returned (.string (outR r)) ∧ W = W' := by
  cases r with
  | error c =>
    refine ⟨none, 0, 0, none, 0, 0, 0, 0, c, h.2, rfl, h.1, fun W _ => ?_⟩
    exact last_any [] _ W ⟨none, 0, rfl, by simp, by simp, fun h => absurd rfl h⟩
  | ok r =>
    obtain ⟨o, saw, a, b⟩ := r
    obtain ⟨hb, vfl, vsaw, he, hf, hs, -⟩ := h
    obtain ⟨p1, q1, rfl⟩ := gR hf
    obtain ⟨x1, y1, rfl⟩ := oT hs
    exact ⟨_, _, _, _, _, _, _, _, _, he, rfl, hb, fun W hW => last_do (hf.later hW)⟩
theorem comp_codes {t : ByteArray} {m : Mdl} (h : iG t = .ok m) : codeR (compR t) = 0 ∨ codeR (compR t) = 6 := by
  rw [comp_good h]
  split
  · exact Or.inr rfl
  · exact Or.inl rfl
theorem comp_same {s t : ByteArray} {m : Mdl} (h : iG s = .ok m) (hp : mC m = .ok t) : codeR (compR t) = codeR (compR s) ∧ outR (compR t) = outR (compR s) := by
  rw [comp_good h, comp_good (comp_canon h hp)]
  split <;> exact ⟨rfl, rfl⟩
set_option maxHeartbeats 16000000 in
set_option maxRecDepth 100000 in
theorem stepCompiles_any (text : ByteArray) (w : World) (hg : eJ w) (hz : text.size ≤ 140737488355328) :
    Calls Tryz.prog 9 #[.string text] w fun e w' => e = .returned (.bool true) ∧ Below w.heap.size w w' := by
  have HG := Lib.hid (fun W (hb : Below w.heap.size w W) => hg.later hb)
  have HSm := Lib.hid (small_any w hg)
  clear hg
  go_enter Tryz.func9, Tryz.ntmps9
  go_wp2_with fail
  go_at_call 39
  refine HSm.out.mono ?_
  rintro e w1 ⟨rfl, hb1⟩
  have HB1 := Lib.hid hb1
  clear hb1 HSm
  by_cases hl : 1500 < text.size
  · have g1 : (1500 : Int) < (text.size : Int) := by omega
    go_wp2_with fail
    go_ret
    exact ⟨rfl, HB1.out⟩
  have g1 : ¬ (1500 : Int) < (text.size : Int) := by omega
  have g2 : (text.size : Int) ≤ 1500 := by omega
  have HP := Lib.hid (fun W (hb : Below w.heap.size w W) => parse_any text W (by omega) (HG.out W hb) (HG.out W hb).signs (HG.out W hb).spc)
  have HT := Lib.hid (show text.size ≤ 65536 by omega)
  clear hl g2 hz
  go_wp2_with fail
  refine (HP.out _ (aC HB1.out (aC (aA _ _) (aA _ _)))).mono ?_
  rintro e w2 ⟨hpv, hb2⟩
  have hS2 : w2.heap[w1.heap.size]? = some (.cells #[.string ⟨#[97]⟩] 9) := aH hb2 (aH (aA _ _) (dR w1 _))
  have hT2 : w2.heap[w1.heap.size + 1]? = some (.cells #[.int .i64 5, .slice (some ⟨w1.heap.size, 0, none⟩) 1 1, .string ⟨#[98]⟩, .bool false] 63) := aH hb2 (nN w1 _ _)
  have HS2 := Lib.hid hS2
  have HT2 := Lib.hid hT2
  have HB2 := Lib.hid (aC (aC HB1.out (aC (aA w1 _) (aA _ _))) hb2)
  clear hb2 hS2 hT2 HP
  cases hp : iG text with
  | error x =>
    have e0 : (x.2 == 0) = false := by rw [beq_eq_false_iff_ne]; exact parseL_nz hp
    have e1 : (x.2 != 0) = true := by rw [bne_iff_ne]; exact parseL_nz hp
    have HR := Lib.hid (comp_bad hp (parseL_nz hp))
    rw [hp] at hpv
    obtain rfl : e = .returned (.tuple #[.agg eT, .int .i64 x.1, .int .i64 x.2]) := hpv
    clear hp
    have HX := Lib.hid (aH (aA w2 (.cells eT 30)) HT2.out)
    have HY := Lib.hid (aH (aA w2 (.cells eT 30)) HS2.out)
    have HB3 := Lib.hid (aC HB2.out (aA w2 (.cells eT 30)))
    obtain ⟨x0, x1, x2, x3⟩ := bx4 HX.out
    dsimp only [eT]
    go_wp2_with fail
    refine (comp_call text _ _ _ (HG.out _ (aC HB3.out (aA _ _))) HT.out (aH (aA _ _) HY.out) (nN w2 _ _)).mono ?_
    rintro e w4 hd
    rw [HR.out] at hd
    obtain ⟨rfl, hb4⟩ := comp_error hd
    have HB4 := Lib.hid (aC (aC HB3.out (aA _ _)) hb4)
    clear hd hb4
    go_wp2_with fail
    go_ret
    exact ⟨rfl, aC HB4.out (aA _ _)⟩
  | ok m =>
    rw [hp] at hpv
    obtain ⟨au, nu, du, av, nv, dv, ai, ni, di, af, nf, df, ao, no, do_, aw, nw, dw, ab, nb, db, rfl, hM⟩ := hpv
    have HPL := Lib.hid hp
    clear hp
    have HX := Lib.hid (aH (aA w2 (.cells #[.string m.name, .slice au nu du, .slice av nv dv, .slice ai ni di, .slice af nf df, .bool m.moves, .slice ao no do_, .slice aw nw dw, .slice ab nb db] 30)) HT2.out)
    have HY := Lib.hid (aH (aA w2 (.cells #[.string m.name, .slice au nu du, .slice av nv dv, .slice ai ni di, .slice af nf df, .bool m.moves, .slice ao no do_, .slice aw nw dw, .slice ab nb db] 30)) HS2.out)
    have HB3 := Lib.hid (aC HB2.out (aA w2 (.cells #[.string m.name, .slice au nu du, .slice av nv dv, .slice ai ni di, .slice af nf df, .bool m.moves, .slice ao no do_, .slice aw nw dw, .slice ab nb db] 30)))
    have HM2 := Lib.hid hM
    clear hM
    obtain ⟨x0, x1, x2, x3⟩ := bx4 HX.out
    go_wp2_with fail
    refine (comp_call text _ _ _ (HG.out _ (aC HB3.out (aA _ _))) HT.out (aH (aA _ _) HY.out) (nN w2 _ _)).mono ?_
    rintro e w4 hd
    obtain ⟨va, n, vc, vs, k, vd, a, b, c, rfl, hc, hb4, hlast⟩ := comp_any hd
    obtain ⟨o, ho⟩ : ∃ o, outR (compR text) = o := ⟨_, rfl⟩
    rw [ho] at hlast
    have HL1 := Lib.hid hlast
    have HO := Lib.hid ho
    have HC := Lib.hid hc
    have HU4 : Hid (Below (w2.alloc (.cells #[.string m.name, .slice au nu du, .slice av nv dv, .slice ai ni di, .slice af nf df, .bool m.moves, .slice ao no do_, .slice aw nw dw, .slice ab nb db] 30)).heap.size (w2.alloc (.cells #[.string m.name, .slice au nu du, .slice av nv dv, .slice ai ni di, .slice af nf df, .bool m.moves, .slice ao no do_, .slice aw nw dw, .slice ab nb db] 30)) w4) := Lib.hid (aC (aA _ _) hb4)
    have HB4 := Lib.hid (aC HB3.out HU4.out)
    have HX4 := Lib.hid (aH HU4.out HX.out)
    have HY4 := Lib.hid (aH HU4.out HY.out)
    obtain ⟨⟨m0, m1, m2, m3, m4, m5, m6, m7, m8⟩, -⟩ := bx9 (aH (aA w4 (.cells #[.int .i64 a, .int .i64 b] 65)) (aH HU4.out (dR w2 (.cells #[.string m.name, .slice au nu du, .slice av nv dv, .slice ai ni di, .slice af nf df, .bool m.moves, .slice ao no do_, .slice aw nw dw, .slice ab nb db] 30))))
    clear hd hb4 hlast ho hc
    go_wp2_with fail
    have HE := Lib.hid (mJ _ _ _ _ _ _ (bU.later (aC (aC (aA w2 (.cells #[.string m.name, .slice au nu du, .slice av nv dv, .slice ai ni di, .slice af nf df, .bool m.moves, .slice ao no do_, .slice aw nw dw, .slice ab nb db] 30)) HU4.out) (aA w4 (.cells #[.int .i64 a, .int .i64 b] 65)))) HM2.out)
    refine (print_any m _ _ _ (HG.out _ (aC HB4.out (aA w4 (.cells #[.int .i64 a, .int .i64 b] 65)))) HE.out).mono ?_
    rintro e w5 ⟨he, hb5⟩
    cases hpm : mC m with
    | error g =>
      rw [hpm] at he
      obtain rfl := print_full HPL.out hpm
      obtain rfl : e = .returned (.tuple #[.string noB, .int .i64 6]) := he
      clear hpm
      have HB5 := Lib.hid (aC (aC HB4.out (aA w4 (.cells #[.int .i64 a, .int .i64 b] 65))) hb5)
      have HD5 := Lib.hid (aC (aA w4 (.cells #[.int .i64 a, .int .i64 b] 65)) hb5)
      have HX5 := Lib.hid (aH HD5.out HX4.out)
      have HY5 := Lib.hid (aH HD5.out HY4.out)
      clear hb5 x0 x1 x2 x3 m0 m1 m2 m3 m4 m5 m6 m7 m8
      obtain ⟨x0, x1, x2, x3⟩ := bx4 HX5.out
      go_wp2_with fail
      refine (comp_call noB _ _ _ (HG.out _ (aC HB5.out (aA _ _))) (by decide) (aH (aA _ _) HY5.out) (dR w5 _)).mono ?_
      rintro e w6 hd
      obtain ⟨va2, n2, vc2, vs2, k2, vd2, a2, b2, c2, rfl, hc2, hb6, hlast⟩ := comp_any hd
      have HB6 := Lib.hid (aC (aC HB5.out (aA _ _)) hb6)
      clear hd hc2 hb6 hlast
      go_wp2_with fail
      go_ret
      exact ⟨rfl, aC HB6.out (aA _ _)⟩
    | ok t =>
      rw [hpm] at he
      obtain rfl : e = .returned (.tuple #[.string t, .int .i64 0]) := he
      have HT5 := Lib.hid (show t.size ≤ 65536 from Nat.le_trans (print_le hpm) (by decide))
      have HS5 := Lib.hid (comp_same HPL.out hpm)
      clear hpm
      have HB5 := Lib.hid (aC (aC HB4.out (aA w4 (.cells #[.int .i64 a, .int .i64 b] 65))) hb5)
      have HD5 := Lib.hid (aC (aA w4 (.cells #[.int .i64 a, .int .i64 b] 65)) hb5)
      have HX5 := Lib.hid (aH HD5.out HX4.out)
      have HY5 := Lib.hid (aH HD5.out HY4.out)
      clear hb5 x0 x1 x2 x3 m0 m1 m2 m3 m4 m5 m6 m7 m8
      obtain ⟨x0, x1, x2, x3⟩ := bx4 HX5.out
      go_wp2_with fail
      refine (comp_call t _ _ _ (HG.out _ (aC HB5.out (aA _ _))) HT5.out (aH (aA _ _) HY5.out) (dR w5 _)).mono ?_
      rintro e w6 hd
      obtain ⟨va2, n2, vc2, vs2, k2, vd2, a2, b2, c2, rfl, hc2, hb6, hlast⟩ := comp_any hd
      have HB6 := Lib.hid (aC (aC HB5.out (aA _ _)) hb6)
      rw [HS5.out.1, ← HC.out] at hc2
      rw [HS5.out.2, HO.out] at hlast
      subst hc2
      have HL2 := Lib.hid hlast
      have HU5 : Hid (Below w4.heap.size w4 w6) := Lib.hid (aC (aC HD5.out (aA _ _)) hb6)
      have hcc := comp_codes HPL.out
      rw [← HC.out] at hcc
      clear hd hb6 hlast HC HO
      rcases hcc with rfl | rfl
      · go_wp2_with fail
        refine (HL1.out _ (aC HU5.out (aA w6 (.cells #[.int .i64 a2, .int .i64 b2] 65)))).mono ?_
        rintro e w7 ⟨rfl, rfl⟩
        go_wp2_with fail
        refine (HL2.out _ (aA w6 (.cells #[.int .i64 a2, .int .i64 b2] 65))).mono ?_
        rintro e w7 ⟨rfl, rfl⟩
        go_wp2_with fail
        go_ret
        exact ⟨by simp, aC HB6.out (aA _ _)⟩
      · go_wp2_with fail
        refine (HL1.out _ (aC HU5.out (aA w6 (.cells #[.int .i64 a2, .int .i64 b2] 65)))).mono ?_
        rintro e w7 ⟨rfl, rfl⟩
        go_wp2_with fail
        refine (HL2.out _ (aA w6 (.cells #[.int .i64 a2, .int .i64 b2] 65))).mono ?_
        rintro e w7 ⟨rfl, rfl⟩
        go_wp2_with fail
        go_ret
        exact ⟨by simp, aC HB6.out (aA _ _)⟩
end Go.Proofs.YtiionicikdnnpaaGreatDoor
