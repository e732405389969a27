/- Walks of the limits of the reference of layer 15 (printed by gen_few.py). -/
import Derived.Test.YtiionicikdnnpaaGreatDoorWd
import Derived.Test.YtiionicikdnnpaaGreatDoorFewT
import Derived.Test.YtiionicikdnnpaaGreatDoorTopY
namespace Go.Proofs.YtiionicikdnnpaaGreatDoor
open Go.RowKit
set_option linter.unusedSimpArgs false
set_option linter.unusedVariables false

set_option maxRecDepth 100000 in
set_option maxHeartbeats 16000000 in
/-- ladingref15.fewFields. -/
theorem fewFields_any (fs : List Fld) {N : Nat → Prop} {v : Value} {w : World} (ha : aO 3 wF N w v fs) :
    Calls Tryz.prog 64 #[v] w fun e w' => SaysB (∀ y ∈ fs, y.1.size ≤ 30 ∧ shT y.2) e ∧ Below w.heap.size w w' := by
  obtain ⟨a1, c1, rfl, la1, la2, HA0⟩ := ha.at
  have HA := Lib.hid HA0
  clear HA0 ha
  go_enter Tryz.func64, Tryz.ntmps64
  go_wp2_with fail
  go_loopw [3] (fun iv wr => ∃ q : Nat, q ≤ fs.length ∧ iv = .int .i64 (q : Int) ∧ Hid (Below w.heap.size w wr) ∧ Hid (∀ y ∈ fs.take q, y.1.size ≤ 30 ∧ shT y.2)) (fun iv _ => fs.length - (intOf iv).toNat)
  case atStart => exact ⟨0, Nat.zero_le _, rfl, Lib.hid (Below.refl _ _), Lib.hid (by simp)⟩
  case round =>
    obtain ⟨q, hq, rfl, HW, HT⟩ := hrel
    rename World => wr
    by_cases hlt : q < fs.length
    · by_cases hk : (q : Int) ≤ 10
      · obtain ⟨x, hx, -⟩ := getElem?_of_lt hlt
        have hq0 : (0 : Int) ≤ (q : Int) ∧ (q : Int) < (fs.length : Int) := by omega
        have HXm := Lib.hid hx
        obtain ⟨nm, x⟩ := x
        obtain ⟨b1, o1, rfl, -, cs1, ⟨ct1, rfl, hnz, he1⟩, -, hj1⟩ := HA.out q (nm, x) hx
        obtain ⟨k1, i1, j1, z1, rfl⟩ := wT_form he1
        have p10 : wr.cell? ⟨b1, o1 + q * 3, none⟩ = some (.string nm) := aD HW.out (hj1 0 _ rfl)
        have p11 : wr.cell? ⟨b1, o1 + q * 3 + 1, none⟩ = some (.int .i64 k1) := aD HW.out (hj1 1 _ rfl)
        have p12 : wr.cell? ⟨b1, o1 + q * 3 + 1 + 1, none⟩ = some (.slice i1 j1 z1) := aD HW.out (hj1 2 _ rfl)
        by_cases hz : (30 : Int) < (nm.size : Int)
        · clear hj1 hx he1
          go_wp2_with fail
          go_ret
          exact ⟨⟨false, rfl, fun h => by cases h⟩, HW.out⟩
        · have HRS := Lib.hid (fun W (hb : Below wr.heap.size wr W) => fewType_any x (wT_ok _ _ _ _ _ _ (aQ.later (aA HW.out hb)) he1))
          clear hj1 hx he1
          go_wp2_with fail
          refine (HRS.out _ (Below.refl _ _)).mono ?_
          rintro e w8 ⟨⟨sr, rfl, hsr⟩, hb8⟩
          have HB8 := Lib.hid (aA HW.out hb8)
          clear hb8 HRS p10 p11 p12
          cases sr with
          | true =>
            have HT2 := Lib.hid (all_step HXm.out HT.out ⟨by show nm.size ≤ 30; omega, hsr rfl⟩)
            clear hsr
            go_wp2_with fail
            go_roundw
            case rel => exact ⟨q + 1, by omega, by go_num, HB8, HT2⟩
            case measure => simp [intOf]; omega
          | false =>
            go_wp2_with fail
            go_ret
            exact ⟨⟨false, rfl, fun h => by cases h⟩, HB8.out⟩
      · have hf : ¬ (fs.length : Int) ≤ 10 := by omega
        go_wp2_with fail
        go_ret
        exact ⟨⟨false, rfl, fun h => by cases h⟩, HW.out⟩
    · have HR := Lib.hid (all_full HT.out (by omega))
      by_cases hf : (fs.length : Int) ≤ 10
      · go_wp2_with fail
        go_ret
        exact ⟨⟨true, rfl, fun _ => HR.out⟩, HW.out⟩
      · go_wp2_with fail
        go_ret
        exact ⟨⟨false, rfl, fun h => by cases h⟩, HW.out⟩
set_option maxRecDepth 100000 in
set_option maxHeartbeats 16000000 in
/-- ladingref15.fewExps. -/
theorem fewExps_any (fs : List Xp) {N : Nat → Prop} {v : Value} {w : World} (ha : aO 6 wX N w v fs) :
    Calls Tryz.prog 66 #[v] w fun e w' => SaysB (∀ y ∈ fs, shX y) e ∧ Below w.heap.size w w' := by
  obtain ⟨a1, c1, rfl, la1, la2, HA0⟩ := ha.at
  have HA := Lib.hid HA0
  clear HA0 ha
  go_enter Tryz.func66, Tryz.ntmps66
  go_wp2_with fail
  go_loopw [3] (fun iv wr => ∃ q : Nat, q ≤ fs.length ∧ iv = .int .i64 (q : Int) ∧ Hid (Below w.heap.size w wr) ∧ Hid (∀ y ∈ fs.take q, shX y)) (fun iv _ => fs.length - (intOf iv).toNat)
  case atStart => exact ⟨0, Nat.zero_le _, rfl, Lib.hid (Below.refl _ _), Lib.hid (by simp)⟩
  case round =>
    obtain ⟨q, hq, rfl, HW, HT⟩ := hrel
    rename World => wr
    by_cases hlt : q < fs.length
    · by_cases hk : (q : Int) ≤ 10
      · obtain ⟨x, hx, -⟩ := getElem?_of_lt hlt
        have hq0 : (0 : Int) ≤ (q : Int) ∧ (q : Int) < (fs.length : Int) := by omega
        have HXm := Lib.hid hx
        obtain ⟨b1, o1, rfl, -, cs1, he1, -, hj1⟩ := HA.out q x hx
        obtain ⟨op1, n1, s1, m1, i1, j1, k1, u1, z1, t1, rfl⟩ := wX_form he1
        have p10 : wr.cell? ⟨b1, o1 + q * 6, none⟩ = some (.int .i64 op1) := aD HW.out (hj1 0 _ rfl)
        have p11 := aD HW.out (hj1 1 _ rfl)
        have p12 := aD HW.out (hj1 2 _ rfl)
        have p13 := aD HW.out (hj1 3 _ rfl)
        have p14 := aD HW.out (hj1 4 _ rfl)
        have p15 := aD HW.out (hj1 5 _ rfl)
        have HRS := Lib.hid (fun W (hb : Below wr.heap.size wr W) => fewExp_any x (wX_ok _ _ _ _ _ _ (aQ.later (aA HW.out hb)) he1))
        clear hj1 hx he1
        go_wp2_with fail
        refine (HRS.out _ (Below.refl _ _)).mono ?_
        rintro e w8 ⟨⟨sr, rfl, hsr⟩, hb8⟩
        have HB8 := Lib.hid (aA HW.out hb8)
        clear hb8 HRS p10 p11 p12 p13 p14 p15
        cases sr with
        | true =>
          have HT2 := Lib.hid (all_step HXm.out HT.out (hsr rfl))
          clear hsr
          go_wp2_with fail
          go_roundw
          case rel => exact ⟨q + 1, by omega, by go_num, HB8, HT2⟩
          case measure => simp [intOf]; omega
        | false =>
          go_wp2_with fail
          go_ret
          exact ⟨⟨false, rfl, fun h => by cases h⟩, HB8.out⟩
      · have hf : ¬ (fs.length : Int) ≤ 10 := by omega
        go_wp2_with fail
        go_ret
        exact ⟨⟨false, rfl, fun h => by cases h⟩, HW.out⟩
    · have HR := Lib.hid (all_full HT.out (by omega))
      by_cases hf : (fs.length : Int) ≤ 10
      · go_wp2_with fail
        go_ret
        exact ⟨⟨true, rfl, fun _ => HR.out⟩, HW.out⟩
      · go_wp2_with fail
        go_ret
        exact ⟨⟨false, rfl, fun h => by cases h⟩, HW.out⟩
theorem wM_form {N : Nat → Prop} {w : World} {m : Mdl} {cs : List Value} (h : wM N w m cs) : ∃ au du av dv ai di af df ao do_ aw dw ab db, cs = [.string m.name, .slice au m.uses.length du, .slice av m.vars.length dv, .slice ai m.init.length di, .slice af m.funcs.length df, .bool m.moves, .slice ao m.old.length do_, .slice aw m.forward.length dw, .slice ab m.back.length db] := by
  obtain ⟨vu, vv, vi, vf, vo, vw, vb, h1, h2, h3, h4, h5, h6, h7, h8, h9⟩ := h
  obtain ⟨au, du, rfl, -⟩ := h3.at
  obtain ⟨av, dv, rfl, -⟩ := h4.at
  obtain ⟨ai, di, rfl, -⟩ := h5.at
  obtain ⟨af, df, rfl, -⟩ := h6.at
  obtain ⟨ao, do_, rfl, -⟩ := h7.at
  obtain ⟨aw, dw, rfl, -⟩ := h8.at
  obtain ⟨ab, db, rfl, -⟩ := h9.at
  exact ⟨au, du, av, dv, ai, di, af, df, ao, do_, aw, dw, ab, db, h1⟩
set_option maxRecDepth 100000 in
set_option maxHeartbeats 32000000 in
/-- ladingref15.Few. -/
theorem few_any (m : Mdl) {N : Nat → Prop} {cs : List Value} {w : World} (hm : wM N w m cs) :
    Calls Tryz.prog 19 #[.agg cs.toArray] w fun e w' => SaysB (shM m) e ∧ Below w.heap.size w w' := by
  obtain ⟨vu, vv, vi, vf, vo, vw, vb, rfl, hnz, h3, h4, h5, h6, h7, h8, h9⟩ := hm
  obtain ⟨au, du, rfl, lu1, lu2, HU0⟩ := h3.at
  obtain ⟨av, dv, rfl, lv1, lv2, -⟩ := h4.at
  obtain ⟨ai, di, rfl, li1, li2, -⟩ := h5.at
  obtain ⟨af, df, rfl, lf1, lf2, HA0⟩ := h6.at
  obtain ⟨ao, do_, rfl, lo1, lo2, -⟩ := h7.at
  obtain ⟨aw, dw, rfl, lw1, lw2, -⟩ := h8.at
  obtain ⟨ab, db, rfl, lb1, lb2, -⟩ := h9.at
  have HU := Lib.hid HU0
  have HA := Lib.hid HA0
  have HB0 := Lib.hid (aB w (.cells #[.string m.name, .slice au m.uses.length du, .slice av m.vars.length dv, .slice ai m.init.length di, .slice af m.funcs.length df, .bool m.moves, .slice ao m.old.length do_, .slice aw m.forward.length dw, .slice ab m.back.length db] 30))
  have HX := Lib.hid (heap_alloc_new w (.cells #[.string m.name, .slice au m.uses.length du, .slice av m.vars.length dv, .slice ai m.init.length di, .slice af m.funcs.length df, .bool m.moves, .slice ao m.old.length do_, .slice aw m.forward.length dw, .slice ab m.back.length db] 30))
  have hX := HX.out
  obtain ⟨⟨x0, x1, x2, x3, x4, x5, x6, x7, x8⟩, -⟩ := bx9 hX
  have HV := Lib.hid (fun W (hb : Below (w.alloc (.cells #[.string m.name, .slice au m.uses.length du, .slice av m.vars.length dv, .slice ai m.init.length di, .slice af m.funcs.length df, .bool m.moves, .slice ao m.old.length do_, .slice aw m.forward.length dw, .slice ab m.back.length db] 30)).heap.size (w.alloc (.cells #[.string m.name, .slice au m.uses.length du, .slice av m.vars.length dv, .slice ai m.init.length di, .slice af m.funcs.length df, .bool m.moves, .slice ao m.old.length do_, .slice aw m.forward.length dw, .slice ab m.back.length db] 30)) W) => h4.moves wF_ok (aQ.later (aA HB0.out hb)) (by decide))
  have HI := Lib.hid (fun W (hb : Below (w.alloc (.cells #[.string m.name, .slice au m.uses.length du, .slice av m.vars.length dv, .slice ai m.init.length di, .slice af m.funcs.length df, .bool m.moves, .slice ao m.old.length do_, .slice aw m.forward.length dw, .slice ab m.back.length db] 30)).heap.size (w.alloc (.cells #[.string m.name, .slice au m.uses.length du, .slice av m.vars.length dv, .slice ai m.init.length di, .slice af m.funcs.length df, .bool m.moves, .slice ao m.old.length do_, .slice aw m.forward.length dw, .slice ab m.back.length db] 30)) W) => h5.moves wX_ok (aQ.later (aA HB0.out hb)) (by decide))
  have HO := Lib.hid (fun W (hb : Below (w.alloc (.cells #[.string m.name, .slice au m.uses.length du, .slice av m.vars.length dv, .slice ai m.init.length di, .slice af m.funcs.length df, .bool m.moves, .slice ao m.old.length do_, .slice aw m.forward.length dw, .slice ab m.back.length db] 30)).heap.size (w.alloc (.cells #[.string m.name, .slice au m.uses.length du, .slice av m.vars.length dv, .slice ai m.init.length di, .slice af m.funcs.length df, .bool m.moves, .slice ao m.old.length do_, .slice aw m.forward.length dw, .slice ab m.back.length db] 30)) W) => h7.moves wF_ok (aQ.later (aA HB0.out hb)) (by decide))
  have HFw := Lib.hid (fun W (hb : Below (w.alloc (.cells #[.string m.name, .slice au m.uses.length du, .slice av m.vars.length dv, .slice ai m.init.length di, .slice af m.funcs.length df, .bool m.moves, .slice ao m.old.length do_, .slice aw m.forward.length dw, .slice ab m.back.length db] 30)).heap.size (w.alloc (.cells #[.string m.name, .slice au m.uses.length du, .slice av m.vars.length dv, .slice ai m.init.length di, .slice af m.funcs.length df, .bool m.moves, .slice ao m.old.length do_, .slice aw m.forward.length dw, .slice ab m.back.length db] 30)) W) => h8.moves wX_ok (aQ.later (aA HB0.out hb)) (by decide))
  have HBk := Lib.hid (fun W (hb : Below (w.alloc (.cells #[.string m.name, .slice au m.uses.length du, .slice av m.vars.length dv, .slice ai m.init.length di, .slice af m.funcs.length df, .bool m.moves, .slice ao m.old.length do_, .slice aw m.forward.length dw, .slice ab m.back.length db] 30)).heap.size (w.alloc (.cells #[.string m.name, .slice au m.uses.length du, .slice av m.vars.length dv, .slice ai m.init.length di, .slice af m.funcs.length df, .bool m.moves, .slice ao m.old.length do_, .slice aw m.forward.length dw, .slice ab m.back.length db] 30)) W) => h9.moves wX_ok (aQ.later (aA HB0.out hb)) (by decide))
  clear hX HU0 HA0 h3 h4 h5 h6 h7 h8 h9
  go_enter Tryz.func19, Tryz.ntmps19
  go_wp2_with fail
  go_loopw [3] (fun iv wr => ∃ q : Nat, q ≤ m.funcs.length ∧ iv = .int .i64 (q : Int) ∧ Hid (Below (w.alloc (.cells #[.string m.name, .slice au m.uses.length du, .slice av m.vars.length dv, .slice ai m.init.length di, .slice af m.funcs.length df, .bool m.moves, .slice ao m.old.length do_, .slice aw m.forward.length dw, .slice ab m.back.length db] 30)).heap.size (w.alloc (.cells #[.string m.name, .slice au m.uses.length du, .slice av m.vars.length dv, .slice ai m.init.length di, .slice af m.funcs.length df, .bool m.moves, .slice ao m.old.length do_, .slice aw m.forward.length dw, .slice ab m.back.length db] 30)) wr) ∧ Hid (∀ y ∈ m.funcs.take q, shFn y)) (fun iv _ => m.funcs.length - (intOf iv).toNat)
  case atStart => exact ⟨0, Nat.zero_le _, rfl, Lib.hid (Below.refl _ _), Lib.hid (by simp)⟩
  case round =>
    obtain ⟨q, hq, rfl, HW, HT⟩ := hrel
    rename World => wr
    have hbx := aC HW.out HX.out
    clear x0 x1 x2 x3 x4 x5 x6 x7 x8
    obtain ⟨⟨x0, x1, x2, x3, x4, x5, x6, x7, x8⟩, -⟩ := bx9 hbx
    clear hbx
    by_cases hlt : q < m.funcs.length
    focus
      by_cases hk : (q : Int) ≤ 8
      focus
        obtain ⟨x, hx, -⟩ := getElem?_of_lt hlt
        have hq0 : (0 : Int) ≤ (q : Int) ∧ (q : Int) < (m.funcs.length : Int) := by omega
        have HXm := Lib.hid hx
        obtain ⟨nm, pb, ps, rs, ef, bd⟩ := x
        obtain ⟨b1, o1, rfl, -, cs1, ⟨vp, kk, vf, op, n, s, q1, vn, va, rfl, hfz, -, -, hp, ht, hbd⟩, -, hj1⟩ := HA.out q _ hx
        obtain ⟨ap, cp, rfl, -⟩ := hp.at
        obtain ⟨kz, at_, nt, ct, ez⟩ := wT_form ht
        cases ez
        obtain ⟨oz, nz, sz, mz, an, ln, cn, ag, lg, cg, ez⟩ := wX_form hbd
        cases ez
        dsimp only at *
        have HBW := Lib.hid (aA HB0.out HW.out)
        have p0 : wr.cell? ⟨b1, o1 + q * 12, none⟩ = some (.string nm) := aD HBW.out (hj1 0 _ rfl)
        have p1 := aD HBW.out (hj1 1 _ rfl)
        have p2 := aD HBW.out (hj1 2 _ rfl)
        have p3 := aD HBW.out (hj1 3 _ rfl)
        have p4 := aD HBW.out (hj1 4 _ rfl)
        have p5 := aD HBW.out (hj1 5 _ rfl)
        have p6 := aD HBW.out (hj1 6 _ rfl)
        have p7 := aD HBW.out (hj1 7 _ rfl)
        have p8 := aD HBW.out (hj1 8 _ rfl)
        have p9 := aD HBW.out (hj1 9 _ rfl)
        have pA := aD HBW.out (hj1 10 _ rfl)
        have pB := aD HBW.out (hj1 11 _ rfl)
        have HP := Lib.hid (fun W (hb : Below w.heap.size w W) => hp.moves wF_ok (aQ.later hb) (by decide))
        have HTy := Lib.hid (fun W (hb : Below w.heap.size w W) => wT_ok _ _ _ _ _ _ (aQ.later hb) ht)
        have HBd := Lib.hid (fun W (hb : Below w.heap.size w W) => wX_ok _ _ _ _ _ _ (aQ.later hb) hbd)
        have HWf := Lib.hid (aA HW.out (aB wr (.cells #[.string nm, .bool pb, .slice ap ps.length cp, .int .i64 kk, .slice at_ nt ct, .int .i64 ef, .int .i64 op, .int .i64 n, .string s, .string q1, .slice an ln cn, .slice ag lg cg] 47)))
        have HFb := Lib.hid (heap_alloc_new wr (.cells #[.string nm, .bool pb, .slice ap ps.length cp, .int .i64 kk, .slice at_ nt ct, .int .i64 ef, .int .i64 op, .int .i64 n, .string s, .string q1, .slice an ln cn, .slice ag lg cg] 47))
        have hFb := HFb.out
        obtain ⟨⟨f0, f1, f2, f3, f4, f5, f6, f7, f8, f9, fA, fB⟩, -⟩ := eD hFb
        clear hFb hj1 hx hp ht hbd hfz
        by_cases hz : (30 : Int) < (nm.size : Int)
        · go_wp2_with fail
          go_ret
          exact ⟨⟨false, rfl, fun h => by cases h⟩, aA HB0.out HWf.out⟩
        · go_wp2_with fail
          refine (fewFields_any ps (HP.out _ (aA HB0.out HWf.out))).mono ?_
          rintro e w2 ⟨⟨b, rfl, hb⟩, hb2⟩
          have HB1 := Lib.hid hb
          have HW2 := Lib.hid (aA HWf.out hb2)
          have hbx := aC hb2 HFb.out
          clear f0 f1 f2 f3 f4 f5 f6 f7 f8 f9 fA fB
          obtain ⟨⟨f0, f1, f2, f3, f4, f5, f6, f7, f8, f9, fA, fB⟩, -⟩ := eD hbx
          clear hbx
          have HFb2 := Lib.hid (aC hb2 HFb.out)
          clear hb hb2
          cases b with
          | false =>
            go_wp2_with fail
            go_ret
            exact ⟨⟨false, rfl, fun h => by cases h⟩, aA HB0.out HW2.out⟩
          | true =>
            go_wp2_with fail
            refine (fewType_any rs (HTy.out _ (aA HB0.out HW2.out))).mono ?_
            rintro e w3 ⟨⟨b, rfl, hb⟩, hb3⟩
            have HB2 := Lib.hid hb
            have HW3 := Lib.hid (aA HW2.out hb3)
            have hbx := aC hb3 HFb2.out
            clear f0 f1 f2 f3 f4 f5 f6 f7 f8 f9 fA fB
            obtain ⟨⟨f0, f1, f2, f3, f4, f5, f6, f7, f8, f9, fA, fB⟩, -⟩ := eD hbx
            clear hbx
            have HFb3 := Lib.hid (aC hb3 HFb2.out)
            clear hb hb3
            cases b with
            | false =>
              go_wp2_with fail
              go_ret
              exact ⟨⟨false, rfl, fun h => by cases h⟩, aA HB0.out HW3.out⟩
            | true =>
              go_wp2_with fail
              refine (fewExp_any bd (HBd.out _ (aA HB0.out HW3.out))).mono ?_
              rintro e w4 ⟨⟨b, rfl, hb⟩, hb4⟩
              have HB3 := Lib.hid hb
              have HW4 := Lib.hid (aA HW3.out hb4)
              clear hb hb4
              cases b with
              | false =>
                go_wp2_with fail
                go_ret
                exact ⟨⟨false, rfl, fun h => by cases h⟩, aA HB0.out HW4.out⟩
              | true =>
                have HT2 := Lib.hid (all_step HXm.out HT.out (show shFn ⟨nm, pb, ps, rs, ef, bd⟩ from ⟨by show nm.size ≤ 30; omega, HB1.out (by first | rfl | trivial), HB2.out (by first | rfl | trivial), HB3.out (by first | rfl | trivial)⟩))
                go_wp2_with fail
                go_roundw
                case rel => exact ⟨q + 1, by omega, by go_num, HW4, HT2⟩
                case measure => simp [intOf]; omega
      have HF : Hid (m.funcs.length ≤ 8 → ∀ y ∈ m.funcs, shFn y) := Lib.hid (fun h => by omega)
      clear HT
      go_wp2_with fail
      clear hlt hk
    rotate_right
    focus
      have HF : Hid (m.funcs.length ≤ 8 → ∀ y ∈ m.funcs, shFn y) := Lib.hid (fun _ => all_full HT.out (by omega))
      clear HT
      go_wp2_with fail
      clear hlt
    all_goals
      go_loopw [5] (fun iv wr => ∃ q : Nat, q ≤ m.uses.length ∧ iv = .int .i64 (q : Int) ∧ Hid (Below (w.alloc (.cells #[.string m.name, .slice au m.uses.length du, .slice av m.vars.length dv, .slice ai m.init.length di, .slice af m.funcs.length df, .bool m.moves, .slice ao m.old.length do_, .slice aw m.forward.length dw, .slice ab m.back.length db] 30)).heap.size (w.alloc (.cells #[.string m.name, .slice au m.uses.length du, .slice av m.vars.length dv, .slice ai m.init.length di, .slice af m.funcs.length df, .bool m.moves, .slice ao m.old.length do_, .slice aw m.forward.length dw, .slice ab m.back.length db] 30)) wr)) (fun iv _ => m.uses.length - (intOf iv).toNat)
      case atStart => exact ⟨0, Nat.zero_le _, rfl, HW⟩
      case round =>
        clear HW hq
        obtain ⟨q, hq, rfl, HW⟩ := hrel
        rename World => wr
        have hbx := aC HW.out HX.out
        clear x0 x1 x2 x3 x4 x5 x6 x7 x8
        obtain ⟨⟨x0, x1, x2, x3, x4, x5, x6, x7, x8⟩, -⟩ := bx9 hbx
        clear hbx
        by_cases hlt : q < m.uses.length
        focus
          by_cases hk : (q : Int) ≤ 14
          focus
            obtain ⟨x, hx, -⟩ := getElem?_of_lt hlt
            have hq0 : (0 : Int) ≤ (q : Int) ∧ (q : Int) < (m.uses.length : Int) := by omega
            obtain ⟨b1, o1, rfl, -, cs1, ⟨rfl, -⟩, -, hj1⟩ := HU.out q x hx
            have p0 : wr.cell? ⟨b1, o1 + q, none⟩ = some (.string x) := by have h := aD (aA HB0.out HW.out) (hj1 0 _ rfl); simpa using h
            clear hj1 hx
            by_cases hz : (30 : Int) < (x.size : Int)
            · go_wp2_with fail
              go_ret
              exact ⟨⟨false, rfl, fun h => by cases h⟩, aA HB0.out HW.out⟩
            · go_wp2_with fail
              go_roundw
              case rel => exact ⟨q + 1, by omega, by go_num, HW⟩
              case measure => simp [intOf]; omega
          focus
            have g2 : ¬ (m.uses.length : Int) ≤ 14 := by omega
            by_cases g1 : (m.name.size : Int) ≤ 30
            · go_wp2_with fail
              go_ret
              exact ⟨⟨false, rfl, fun h => by cases h⟩, aA HB0.out HW.out⟩
            · go_wp2_with fail
              go_ret
              exact ⟨⟨false, rfl, fun h => by cases h⟩, aA HB0.out HW.out⟩
        focus
          by_cases g1 : (m.name.size : Int) ≤ 30
          · by_cases g2 : (m.uses.length : Int) ≤ 14
            · by_cases g3 : (m.funcs.length : Int) ≤ 8
              · have HXr := Lib.hid (aC HW.out HX.out)
                go_wp2_with fail
                refine (fewFields_any m.vars (HV.out _ HW.out)).mono ?_
                rintro e v1 ⟨⟨b, rfl, hb⟩, hb1⟩
                have HK1 := Lib.hid hb
                have HV1 := Lib.hid (aA HW.out hb1)
                have HXv1 := Lib.hid (aC hb1 HXr.out)
                have hbx := HXv1.out
                clear x0 x1 x2 x3 x4 x5 x6 x7 x8 hb hb1
                obtain ⟨⟨x0, x1, x2, x3, x4, x5, x6, x7, x8⟩, -⟩ := bx9 hbx
                clear hbx
                cases b with
                | false =>
                  go_wp2_with fail
                  go_ret
                  exact ⟨⟨false, rfl, fun h => by cases h⟩, aA HB0.out HV1.out⟩
                | true =>
                  go_wp2_with fail
                  refine (fewExps_any m.init (HI.out _ HV1.out)).mono ?_
                  rintro e v2 ⟨⟨b, rfl, hb⟩, hb2⟩
                  have HK2 := Lib.hid hb
                  have HV2 := Lib.hid (aA HV1.out hb2)
                  have HXv2 := Lib.hid (aC hb2 HXv1.out)
                  have hbx := HXv2.out
                  clear x0 x1 x2 x3 x4 x5 x6 x7 x8 hb hb2
                  obtain ⟨⟨x0, x1, x2, x3, x4, x5, x6, x7, x8⟩, -⟩ := bx9 hbx
                  clear hbx
                  cases b with
                  | false =>
                    go_wp2_with fail
                    go_ret
                    exact ⟨⟨false, rfl, fun h => by cases h⟩, aA HB0.out HV2.out⟩
                  | true =>
                    go_wp2_with fail
                    refine (fewFields_any m.old (HO.out _ HV2.out)).mono ?_
                    rintro e v3 ⟨⟨b, rfl, hb⟩, hb3⟩
                    have HK3 := Lib.hid hb
                    have HV3 := Lib.hid (aA HV2.out hb3)
                    have HXv3 := Lib.hid (aC hb3 HXv2.out)
                    have hbx := HXv3.out
                    clear x0 x1 x2 x3 x4 x5 x6 x7 x8 hb hb3
                    obtain ⟨⟨x0, x1, x2, x3, x4, x5, x6, x7, x8⟩, -⟩ := bx9 hbx
                    clear hbx
                    cases b with
                    | false =>
                      go_wp2_with fail
                      go_ret
                      exact ⟨⟨false, rfl, fun h => by cases h⟩, aA HB0.out HV3.out⟩
                    | true =>
                      go_wp2_with fail
                      refine (fewExps_any m.forward (HFw.out _ HV3.out)).mono ?_
                      rintro e v4 ⟨⟨b, rfl, hb⟩, hb4⟩
                      have HK4 := Lib.hid hb
                      have HV4 := Lib.hid (aA HV3.out hb4)
                      have HXv4 := Lib.hid (aC hb4 HXv3.out)
                      have hbx := HXv4.out
                      clear x0 x1 x2 x3 x4 x5 x6 x7 x8 hb hb4
                      obtain ⟨⟨x0, x1, x2, x3, x4, x5, x6, x7, x8⟩, -⟩ := bx9 hbx
                      clear hbx
                      cases b with
                      | false =>
                        go_wp2_with fail
                        go_ret
                        exact ⟨⟨false, rfl, fun h => by cases h⟩, aA HB0.out HV4.out⟩
                      | true =>
                        go_wp2_with fail
                        refine (fewExps_any m.back (HBk.out _ HV4.out)).mono ?_
                        rintro e v5 ⟨⟨b, rfl, hb⟩, hb5⟩
                        have HK5 := Lib.hid hb
                        have HV5 := Lib.hid (aA HV4.out hb5)
                        have HXv5 := Lib.hid (aC hb5 HXv4.out)
                        have hbx := HXv5.out
                        clear x0 x1 x2 x3 x4 x5 x6 x7 x8 hb hb5
                        obtain ⟨⟨x0, x1, x2, x3, x4, x5, x6, x7, x8⟩, -⟩ := bx9 hbx
                        clear hbx
                        cases b with
                        | false =>
                          go_wp2_with fail
                          go_ret
                          exact ⟨⟨false, rfl, fun h => by cases h⟩, aA HB0.out HV5.out⟩
                        | true =>
                          have HR : Hid (shM m) := Lib.hid ⟨by omega, HF.out (by omega), HK1.out (by first | rfl | trivial), HK2.out (by first | rfl | trivial), HK3.out (by first | rfl | trivial), HK4.out (by first | rfl | trivial), HK5.out (by first | rfl | trivial)⟩
                          go_wp2_with fail
                          go_ret
                          exact ⟨⟨true, rfl, fun _ => HR.out⟩, aA HB0.out HV5.out⟩
              · go_wp2_with fail
                go_ret
                exact ⟨⟨false, rfl, fun h => by cases h⟩, aA HB0.out HW.out⟩
            · go_wp2_with fail
              go_ret
              exact ⟨⟨false, rfl, fun h => by cases h⟩, aA HB0.out HW.out⟩
          · go_wp2_with fail
            go_ret
            exact ⟨⟨false, rfl, fun h => by cases h⟩, aA HB0.out HW.out⟩
end Go.Proofs.YtiionicikdnnpaaGreatDoor
