/- Walk of ladinglaw15.SyntaxBack (printed by gen_back.py). -/
import Derived.Test.YtiionicikdnnpaaGreatDoorFewB
import Derived.Test.YtiionicikdnnpaaGreatDoorSm15
import Derived.Test.YtiionicikdnnpaaGreatDoorTopY
import Derived.Test.YtiionicikdnnpaaGreatDoorBackLaw
namespace Go.Proofs.YtiionicikdnnpaaGreatDoor
open Go.RowKit
set_option linter.unusedSimpArgs false
set_option linter.unusedVariables false
set_option linter.constructorNameAsVariable false

set_option maxHeartbeats 64000000 in
set_option maxRecDepth 100000 in
theorem back_any (m : Mdl) (N : Nat → Prop) (cs : List Value) (w : World) (hg : iF w) (hm : wM N w m cs) :
    Calls Tryz.prog 5 #[.agg cs.toArray] w fun e w' => e = .returned (.bool true) ∧ Below w.heap.size w w' := by
  obtain ⟨au, du, av, dv, ai, di, af, df, ao, do_, aw, dw, ab, db, rfl⟩ := wM_form hm
  have HG := Lib.hid (fun W (hb : Below w.heap.size w W) => hg.later hb)
  have HPL := Lib.hid (fun (s : ByteArray) (hs : s.size ≤ 140737488355328) W (hb : Below w.heap.size w W) => parse_any s W hs (hg.later hb) (hg.later hb).signs (hg.later hb).spc)
  have HB0 := Lib.hid (aB w (.cells #[.string m.name, .slice au m.uses.length du, .slice av m.vars.length dv, .slice ai m.init.length di, .slice af m.funcs.length df, .bool m.moves, .slice ao m.old.length do_, .slice aw m.forward.length dw, .slice ab m.back.length db] 30))
  have HX0 := Lib.hid (heap_alloc_new w (.cells #[.string m.name, .slice au m.uses.length du, .slice av m.vars.length dv, .slice ai m.init.length di, .slice af m.funcs.length df, .bool m.moves, .slice ao m.old.length do_, .slice aw m.forward.length dw, .slice ab m.back.length db] 30))
  have hX := HX0.out
  obtain ⟨⟨x0, x1, x2, x3, x4, x5, x6, x7, x8⟩, -⟩ := bx9 hX
  have HE := Lib.hid (fun W (hb : Below w.heap.size w W) => wM_ok _ _ _ _ _ _ (aQ.later hb) hm)
  have HEff := Lib.hid (wM_eff hm)
  have HSm := Lib.hid (small15_any _ (hg.later HB0.out))
  clear hX hg hm
  go_enter Tryz.func5, Tryz.ntmps5
  go_wp2_with fail
  go_at_call 10
  refine HSm.out.mono ?_
  rintro e w1 ⟨rfl, hb1⟩
  have HB1 := Lib.hid (aA HB0.out hb1)
  have HX1 := Lib.hid (aC hb1 HX0.out)
  have hbx := HX1.out
  clear x0 x1 x2 x3 x4 x5 x6 x7 x8 hb1
  obtain ⟨⟨x0, x1, x2, x3, x4, x5, x6, x7, x8⟩, -⟩ := bx9 hbx
  clear hbx
  clear HSm
  go_wp2_with fail
  refine (few_any m (HE.out _ HB1.out)).mono ?_
  rintro e w2 ⟨⟨b, rfl, hb⟩, hb2⟩
  have HK := Lib.hid hb
  clear hb
  have HB2 := Lib.hid (aA HB1.out hb2)
  have HX2 := Lib.hid (aC hb2 HX1.out)
  have hbx := HX2.out
  clear x0 x1 x2 x3 x4 x5 x6 x7 x8 hb2
  obtain ⟨⟨x0, x1, x2, x3, x4, x5, x6, x7, x8⟩, -⟩ := bx9 hbx
  clear hbx
  cases b with
  | false =>
    go_wp2_with fail
    go_ret
    exact ⟨rfl, HB2.out⟩
  | true =>
    have HN := Lib.hid (fun W (hb : Below w.heap.size w W) => wM_enc (HE.out W hb) (HK.out rfl))
    go_wp2_with fail
    refine (oS m _ _ _ (HG.out _ HB2.out) (HN.out _ HB2.out)).mono ?_
    rintro e w3 ⟨he, hb3⟩
    have HB3 := Lib.hid (aA HB2.out hb3)
    have HX3 := Lib.hid (aC hb3 HX2.out)
    have hbx := HX3.out
    clear x0 x1 x2 x3 x4 x5 x6 x7 x8 hb3
    obtain ⟨⟨x0, x1, x2, x3, x4, x5, x6, x7, x8⟩, -⟩ := bx9 hbx
    clear hbx
    cases hpm : kD m with
    | error c =>
      rw [hpm] at he
      obtain rfl : e = .returned (.tuple #[.string ⟨#[]⟩, .int .i64 c]) := he
      rcases print_no hpm with ⟨hr, rfl⟩ | ⟨hr, rfl⟩
      · have HR := Lib.hid hr
        clear hr hpm
        go_wp2_with fail
        have hN := HN.out _ HB3.out
        obtain ⟨g3, g4, g5, g6, g7, g8, g9⟩ := dT hN
        refine (iR m _ _ _ _ _ _ _ _ _ (HG.out _ HB3.out) g3 g4 g5 g6 g7 g8 g9 (mW hN)).mono ?_
        rw [HR.out]
        rintro e w4 ⟨rfl, hb4⟩
        clear g3 g4 g5 g6 g7 g8 g9 hN
        have HB4 := Lib.hid (aA HB3.out hb4)
        have HX4 := Lib.hid (aC hb4 HX3.out)
        have hbx := HX4.out
        clear x0 x1 x2 x3 x4 x5 x6 x7 x8 hb4
        obtain ⟨⟨x0, x1, x2, x3, x4, x5, x6, x7, x8⟩, -⟩ := bx9 hbx
        clear hbx
        go_wp2_with fail
        go_ret
        exact ⟨rfl, HB4.out⟩
      · have HR := Lib.hid hr
        clear hr hpm
        go_wp2_with fail
        have hN := HN.out _ HB3.out
        obtain ⟨g3, g4, g5, g6, g7, g8, g9⟩ := dT hN
        refine (iR m _ _ _ _ _ _ _ _ _ (HG.out _ HB3.out) g3 g4 g5 g6 g7 g8 g9 (mW hN)).mono ?_
        rw [HR.out]
        rintro e w4 ⟨rfl, hb4⟩
        clear g3 g4 g5 g6 g7 g8 g9 hN
        have HB4 := Lib.hid (aA HB3.out hb4)
        have HX4 := Lib.hid (aC hb4 HX3.out)
        have hbx := HX4.out
        clear x0 x1 x2 x3 x4 x5 x6 x7 x8 hb4
        obtain ⟨⟨x0, x1, x2, x3, x4, x5, x6, x7, x8⟩, -⟩ := bx9 hbx
        clear hbx
        go_wp2_with fail
        go_ret
        exact ⟨rfl, HB4.out⟩
    | ok t =>
      rw [hpm] at he
      obtain rfl : e = .returned (.tuple #[.string t, .int .i64 0]) := he
      have HR := Lib.hid (print_yes hpm).1
      have HBk := Lib.hid (print_back HEff.out hpm)
      have hz := (print_yes hpm).2.2
      have HZ : Hid (t.size ≤ 140737488355328) := Lib.hid (by omega)
      have hz2 : (t.size : Int) ≤ 8000 := by omega
      clear hpm hz
      go_wp2_with fail
      refine (HPL.out t HZ.out _ HB3.out).mono ?_
      rintro e w4 ⟨hv, hb4'⟩
      rw [HBk.out] at hv
      obtain ⟨qau, qnu, qdu, qav, qnv, qdv, qai, qni, qdi, qaf, qnf, qdf, qao, qno, qdo_, qaw, qnw, qdw, qab, qnb, qdb, rfl, hx⟩ := hv
      have hb4 := aA hb4' (aB w4 (.cells #[.string m.name, .slice qau qnu qdu, .slice qav qnv qdv, .slice qai qni qdi, .slice qaf qnf qdf, .bool m.moves, .slice qao qno qdo_, .slice qaw qnw qdw, .slice qab qnb qdb] 30))
      have qA0 := Lib.hid (MAt.made (w := w4) hx)
      have HB4 := Lib.hid (aA HB3.out hb4)
      have HX4 := Lib.hid (aC hb4 HX3.out)
      have hbx := HX4.out
      clear x0 x1 x2 x3 x4 x5 x6 x7 x8 hb4
      obtain ⟨⟨x0, x1, x2, x3, x4, x5, x6, x7, x8⟩, -⟩ := bx9 hbx
      clear hbx
      obtain ⟨⟨y0, y1, y2, y3, y4, y5, y6, y7, y8⟩, -⟩ := bx9 qA0.out.box
      clear hb4' hx
      go_wp2_with fail
      obtain ⟨N1, hN1⟩ := qA0.out.enc
      refine (rsame_any m m (HN.out _ HB4.out) hN1).mono ?_
      rw [(oN _ _).2 rfl]
      rintro e w5 ⟨rfl, hb5⟩
      clear hN1 y0 y1 y2 y3 y4 y5 y6 y7 y8
      have HB5 := Lib.hid (aA HB4.out hb5)
      have HX5 := Lib.hid (aC hb5 HX4.out)
      have hbx := HX5.out
      clear x0 x1 x2 x3 x4 x5 x6 x7 x8 hb5
      obtain ⟨⟨x0, x1, x2, x3, x4, x5, x6, x7, x8⟩, -⟩ := bx9 hbx
      clear hbx
      go_wp2_with fail
      have hN := HN.out _ HB5.out
      obtain ⟨g3, g4, g5, g6, g7, g8, g9⟩ := dT hN
      refine (iR m _ _ _ _ _ _ _ _ _ (HG.out _ HB5.out) g3 g4 g5 g6 g7 g8 g9 (mW hN)).mono ?_
      rw [HR.out]
      rintro e w6 ⟨rfl, hb6⟩
      clear g3 g4 g5 g6 g7 g8 g9 hN
      have HB6 := Lib.hid (aA HB5.out hb6)
      have HX6 := Lib.hid (aC hb6 HX5.out)
      have hbx := HX6.out
      clear x0 x1 x2 x3 x4 x5 x6 x7 x8 hb6
      obtain ⟨⟨x0, x1, x2, x3, x4, x5, x6, x7, x8⟩, -⟩ := bx9 hbx
      clear hbx
      go_wp2_with fail
      go_ret
      exact ⟨rfl, HB6.out⟩
end Go.Proofs.YtiionicikdnnpaaGreatDoor
