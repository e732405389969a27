/- Walk of ladinglaw15.SyntaxParentheses (printed by gen_parn.py). -/
import Derived.Test.YtiionicikdnnpaaGreatDoorCal
import Derived.Test.YtiionicikdnnpaaGreatDoorSm15
import Derived.Test.YtiionicikdnnpaaGreatDoorTopY
import Derived.Test.YtiionicikdnnpaaGreatDoorRowCut
import Derived.Test.YtiionicikdnnpaaGreatDoorParLaw
namespace Go.Proofs.YtiionicikdnnpaaGreatDoor
open Go.RowKit
set_option linter.unusedSimpArgs false
set_option linter.unusedVariables false
set_option linter.constructorNameAsVariable false

theorem toks_css {N : Nat → Prop} {w : World} {b o : Nat} {l : List Tok} {css : List (List Value)} (h : CssOf 4 encTok N w b o l css) : css = l.map tokCells := by
  refine List.ext_getElem? fun i => ?_
  cases hi : l[i]? with
  | none =>
    rw [List.getElem?_map, hi]
    rw [List.getElem?_eq_none_iff] at hi
    rw [List.getElem?_eq_none_iff.2 (by rw [h.1]; exact hi)]
    rfl
  | some x =>
    obtain ⟨cs, h1, ⟨rfl, -⟩, -⟩ := h.2 i x hi
    rw [List.getElem?_map, hi, h1]
    rfl
theorem toks_of_owns {x : World} {B n : Nat} {T : TypeId} {v : Value} {l : List Tok} (hz : ∀ t ∈ l, t.text.size ≤ 8000) (h : x.ownsRow B T 4 v n (l.map tokCells).flatten) (hn : n = l.length) : aO 4 encTok (fun _ => True) x v l := by
  refine aO.of_owns h hn (by simp) (fun c hc => ?_) (fun i t c ht hc => ?_)
  · obtain ⟨t, -, rfl⟩ := List.mem_map.1 hc
    rfl
  · rw [List.getElem?_map, ht] at hc
    cases hc
    exact ⟨rfl, hz t (List.mem_of_getElem? ht)⟩
theorem toks_at {N : Nat → Prop} {w : World} {a : Option Addr} {c : Nat} {l : List Tok} (h : aO 4 encTok N w (.slice a l.length c) l) : ∀ i t, l[i]? = some t → t.text.size ≤ 8000 ∧ ∃ b o, a = some ⟨b, o, none⟩ ∧ ∀ j u, (tokCells t)[j]? = some u → w.cell? ⟨b, o + i * 4 + j, none⟩ = some u := by
  obtain ⟨a', c', e, -, -, hat⟩ := h.at
  cases e
  intro i t ht
  obtain ⟨b, o, e2, -, cs, ⟨rfl, hz⟩, -, hj⟩ := hat i t ht
  exact ⟨hz, b, o, e2, hj⟩
theorem kopen_of {t : ByteArray} (h : t.toList = [40]) : t = aS := by
  have h1 : (t.toList == aS.toList) = true := by
    rw [h, show aS.toList = [40] by first | kernel_rfl | decide]
    rfl
  rw [eE] at h1
  exact of_decide_eq_true h1
theorem parseX_err {s : ByteArray} {x : Int × Int} (h : fN s = .error x) : x.2 ≠ 0 := by
  unfold fN at h
  split at h
  · rename_i y hy
    cases h
    exact lexL_nz hy
  · rename_i l hl
    split at h
    · rename_i y hy
      cases h
      exact parseXP_nz _ hy
    · cases h
set_option maxHeartbeats 64000000 in
set_option maxRecDepth 100000 in
theorem parens_any (x : Xp) (z : Int) (cs : List Value) (w : World) (hg : iF w) (hx : wX (fun _ => True) w x cs) :
    Calls Tryz.prog 8 #[.agg cs.toArray, .int .i64 z] w fun e w' => e = .returned (.bool true) ∧ Below w.heap.size w w' := by
  obtain ⟨op, xn, xs, xm, i1, j1, k1, u1, z1, t1, rfl⟩ := wX_form hx
  have HG := Lib.hid (fun W (hb : Below w.heap.size w W) => hg.later hb)
  have HPX := Lib.hid (fun (s : ByteArray) (hs : s.size ≤ 140737488355328) W (hb : Below w.heap.size w W) => parsex_any s W hs (hg.later hb) (hg.later hb).signs (hg.later hb).spc)
  have HLX := Lib.hid (fun (s : ByteArray) (hs : s.size ≤ 140737488355328) W (hb : Below w.heap.size w W) => lex_any s W hs (hg.later hb).signs)
  obtain ⟨i0, hi0, hy0, hy1, hy2⟩ := info_parts tokInfo
  have HB0 := Lib.hid (aB w (.cells #[.int .i64 op, .int .i64 xn, .string xs, .string xm, .slice i1 j1 k1, .slice u1 z1 t1] 35))
  have HX0 := Lib.hid (heap_alloc_new w (.cells #[.int .i64 op, .int .i64 xn, .string xs, .string xm, .slice i1 j1 k1, .slice u1 z1 t1] 35))
  have hX := HX0.out
  obtain ⟨⟨x0, x1, x2, x3, x4, x5⟩, -⟩ := bx6 hX
  have HE := Lib.hid (fun W (hb : Below w.heap.size w W) => wX_ok _ _ _ _ _ _ (aQ.later hb) hx)
  have HSm := Lib.hid (small15_any _ (hg.later HB0.out))
  clear hX hg hx
  go_enter Tryz.func8, Tryz.ntmps8
  go_wp2_with fail
  go_at_call 10
  refine HSm.out.mono ?_
  rintro e w1 ⟨rfl, hb1⟩
  have HB1 := Lib.hid (aA HB0.out hb1)
  have HX1 := Lib.hid (aC hb1 HX0.out)
  have hbx := HX1.out
  clear x0 x1 x2 x3 x4 x5 hb1
  obtain ⟨⟨x0, x1, x2, x3, x4, x5⟩, -⟩ := bx6 hbx
  clear hbx
  clear HSm
  go_wp2_with fail
  refine (fewExp_any x (HE.out _ HB1.out)).mono ?_
  rintro e w2 ⟨⟨b, rfl, hb⟩, hb2⟩
  have HK := Lib.hid hb
  clear hb
  have HB2 := Lib.hid (aA HB1.out hb2)
  have HX2 := Lib.hid (aC hb2 HX1.out)
  have hbx := HX2.out
  clear x0 x1 x2 x3 x4 x5 hb2
  obtain ⟨⟨x0, x1, x2, x3, x4, x5⟩, -⟩ := bx6 hbx
  clear hbx
  cases b with
  | false =>
    go_wp2_with fail
    go_ret
    exact ⟨rfl, HB2.out⟩
  | true =>
    have HN := Lib.hid (fun W (hb : Below w.heap.size w W) => wX_enc x _ (HE.out W hb) (HK.out rfl))
    go_wp2_with fail
    refine (gG x _ _ _ _ _ _ _ _ (HG.out _ HB2.out) (HN.out _ HB2.out)).mono ?_
    rintro e w3 ⟨he, hb3⟩
    have HB3 := Lib.hid (aA HB2.out hb3)
    have HX3 := Lib.hid (aC hb3 HX2.out)
    have hbx := HX3.out
    clear x0 x1 x2 x3 x4 x5 hb3
    obtain ⟨⟨x0, x1, x2, x3, x4, x5⟩, -⟩ := bx6 hbx
    clear hbx
    cases hpm : jD x with
    | error c =>
      rw [hpm] at he
      obtain rfl : e = .returned (.tuple #[.string ⟨#[]⟩, .int .i64 c]) := he
      have hc : c = 1 ∨ c = 6 := by
        unfold jD mG at hpm
        split at hpm
        · split at hpm
          · cases hpm; exact .inr rfl
          · cases hpm
        · cases hpm; exact .inl rfl
      clear hpm
      rcases hc with rfl | rfl
      · go_wp2_with fail
        go_ret
        exact ⟨rfl, HB3.out⟩
      · go_wp2_with fail
        go_ret
        exact ⟨rfl, HB3.out⟩
    | ok s =>
      rw [hpm] at he
      obtain rfl : e = .returned (.tuple #[.string s, .int .i64 0]) := he
      obtain ⟨l, hlx, hwl, hts, hln, hop⟩ := paren_lex hpm
      have hsz := (printX_parse hpm).2.2.1
      have HP := Lib.hid hpm
      have HWl := Lib.hid hwl
      have HTs := Lib.hid hts
      have HOp := Lib.hid hop
      clear hpm hwl hts hop
      go_wp2_with fail
      refine (HLX.out s (by omega) _ HB3.out).mono ?_
      rintro e w4 ⟨hv, hb4⟩
      rw [hlx] at hv
      obtain ⟨v, rfl, hrow, -⟩ := hv
      clear hlx
      obtain ⟨a0, c0, rfl, lc1, lc2, -⟩ := id hrow.at
      have HR4 := Lib.hid hrow
      clear hrow
      have HB4 := Lib.hid (aA HB3.out hb4)
      have HX4 := Lib.hid (aC hb4 HX3.out)
      have hbx := HX4.out
      clear x0 x1 x2 x3 x4 x5 hb4
      obtain ⟨⟨x0, x1, x2, x3, x4, x5⟩, -⟩ := bx6 hbx
      clear hbx
      go_wp2_with fail
      refine (text_any l _ _ _ (by omega) HR4.out).mono ?_
      rw [HTs.out]
      rintro e w5 ⟨rfl, hb5⟩
      have HR5 := Lib.hid (HR4.out.moves lM (aQ.later hb5) (by decide))
      have HTk : Hid (∀ W, Below w5.heap.size w5 W → aO 4 encTok _ W (.slice a0 l.length c0) l) := Lib.hid (fun W hb => HR5.out.moves lM (aQ.later hb) (by decide))
      clear HR4
      have HB5 := Lib.hid (aA HB4.out hb5)
      have HX5 := Lib.hid (aC hb5 HX4.out)
      have hbx := HX5.out
      clear x0 x1 x2 x3 x4 x5 hb5
      obtain ⟨⟨x0, x1, x2, x3, x4, x5⟩, -⟩ := bx6 hbx
      clear hbx
      go_wp2_with fail
      go_loopw [11, 12] (fun nv iv wr => ∃ (q n : Nat), q ≤ l.length ∧ n ≤ q ∧ iv = .int .i64 (q : Int) ∧ nv = .int .i64 (n : Int) ∧ Hid (Below w5.heap.size w5 wr)) (fun _ iv _ => l.length - (intOf iv).toNat)
      case atStart => exact ⟨0, 0, Nat.zero_le _, Nat.le_refl _, rfl, rfl, Lib.hid (Below.refl _ _)⟩
      case round =>
        obtain ⟨q, n, hq, hnq, rfl, rfl, HW⟩ := hrel
        rename World => wr
        have hbx := aC HW.out HX5.out
        clear x0 x1 x2 x3 x4 x5
        obtain ⟨⟨x0, x1, x2, x3, x4, x5⟩, -⟩ := bx6 hbx
        clear hbx
        by_cases hlt : q < l.length
        · obtain ⟨t0, ht0, -⟩ := getElem?_of_lt hlt
          have HQ := Lib.hid ht0
          obtain ⟨kd1, tx1, nn1, po1⟩ := t0
          have hq0 : (0 : Int) ≤ (q : Int) ∧ (q : Int) < (l.length : Int) := by omega
          obtain ⟨hz1, b1, o1, rfl, hj⟩ := toks_at (HTk.out wr HW.out) q _ ht0
          have p10 : wr.cell? ⟨b1, o1 + q * 4, none⟩ = some (.int .i64 kd1) := hj 0 _ rfl
          have p11 := hj 1 _ rfl
          have p12 := hj 2 _ rfl
          have p13 := hj 3 _ rfl
          clear hj ht0
          have hz1' : tx1.size ≤ 8000 := hz1
          by_cases htx : tx1.toList = [40]
          · skip
            have htx' : tx1 = aS := kopen_of htx
            have hlast := (HOp.out q _ HQ.out htx').2
            have hkd := (HOp.out q _ HQ.out htx').1
            have HKd := Lib.hid hkd
            have HTx := Lib.hid htx'
            clear htx' hkd hz1
            by_cases h0 : q = 0
            · have h00 : ¬ (0 : Int) < (q : Int) := by omega
              clear h0
              have hnv : IntKind.i64.wrap ((n : Int) + 1) = (n : Int) + 1 := bounds_wrap (by omega) (by omega)
              have hnv2 : IntKind.i64.wrap ((n : Int) + 1 - 1) = (n : Int) := by rw [show (n : Int) + 1 - 1 = (n : Int) by omega]; exact bounds_wrap (by omega) (by omega)
              cases hwh : ((n : Int) != Go.bits .and .i64 z 7) with
              | true =>
                go_wp2_with fail
                go_roundw
                case rel => exact ⟨q + 1, n + 1, by omega, by omega, by go_num, by go_num, HW⟩
                case measure => simp [intOf]; omega
              | false =>
                go_wp2_with fail
                clear hwh hnv hnv2
                go_loopw [13, 14] (fun ov kv wr2 => ∃ (op2 : Int) (k : Nat), q ≤ k ∧ k < l.length ∧ ov = .int .i64 op2 ∧ kv = .int .i64 (k : Int) ∧ -(k : Int) - 1 ≤ op2 ∧ op2 ≤ (k : Int) + 1 ∧ Hid (k = q → op2 = 1) ∧ Hid (Below w5.heap.size w5 wr2)) (fun _ kv _ => l.length - (intOf kv).toNat)
                case atStart => exact ⟨1, q, Nat.le_refl _, by omega, rfl, rfl, by omega, by omega, Lib.hid (fun _ => rfl), HW⟩
                case round =>
                  obtain ⟨op2, k, hk1, hk2, rfl, rfl, hp1, hp2, HO, HW2⟩ := hrel
                  rename World => wr2
                  have hbx := aC HW2.out HX5.out
                  clear x0 x1 x2 x3 x4 x5
                  obtain ⟨⟨x0, x1, x2, x3, x4, x5⟩, -⟩ := bx6 hbx
                  clear hbx
                  have hkw : IntKind.i64.wrap ((k : Int) + 1) = (k : Int) + 1 := bounds_wrap (by omega) (by omega)
                  have hkt : ((k : Int) + 1).toNat = k + 1 := by omega
                  by_cases hop : 0 < op2
                  focus
                    by_cases hkk : (k : Int) + 1 < (l.length : Int)
                    focus
                      obtain ⟨t2, ht2, -⟩ := getElem?_of_lt (show k + 1 < l.length by omega)
                      obtain ⟨kd2, tx2, nn2, po2⟩ := t2
                      obtain ⟨-, b2, o2, eb, hj⟩ := toks_at (HTk.out wr2 HW2.out) (k + 1) _ ht2
                      cases eb
                      have p21 : wr2.cell? ⟨b1, o1 + (k + 1) * 4 + 1, none⟩ = some (.string tx2) := hj 1 _ rfl
                      clear hj ht2
                      have hkb : (0 : Int) ≤ (k : Int) + 1 := by omega
                      by_cases k1 : tx2.toList = [40]
                      · have hvw : IntKind.i64.wrap (op2 + 1) = op2 + 1 := bounds_wrap (by omega) (by omega)
                        have k2 : (tx2.toList == [41]) = false := by rw [k1]; decide
                        go_wp2_with fail
                        go_roundw
                        case rel => exact ⟨op2 + 1, k + 1, by omega, by omega, by go_num, by go_num, by omega, by omega, Lib.hid (fun h => by omega), HW2⟩
                        case measure => simp [intOf]; omega
                      · have k1b : (tx2.toList == [40]) = false := beq_eq_false_iff_ne.2 k1
                        by_cases k2 : tx2.toList = [41]
                        · have hvw : IntKind.i64.wrap (op2 - 1) = op2 - 1 := bounds_wrap (by omega) (by omega)
                          go_wp2_with fail
                          go_roundw
                          case rel => exact ⟨op2 - 1, k + 1, by omega, by omega, by go_num, by go_num, by omega, by omega, Lib.hid (fun h => by omega), HW2⟩
                          case measure => simp [intOf]; omega
                        · have hvw : IntKind.i64.wrap (op2) = op2 := bounds_wrap (by omega) (by omega)
                          have k2b : (tx2.toList == [41]) = false := beq_eq_false_iff_ne.2 k2
                          go_wp2_with fail
                          go_roundw
                          case rel => exact ⟨op2, k + 1, by omega, by omega, by go_num, by go_num, by omega, by omega, Lib.hid (fun h => by omega), HW2⟩
                          case measure => simp [intOf]; omega
                    have hqk : q < k := by omega
                    go_wp2_with fail
                    clear hop hkk
                  rotate_right
                  focus
                    have hqk : q < k := (Nat.lt_or_ge q k).elim (fun h => h) (fun h => by have := HO.out (by omega); omega)
                    go_wp2_with fail
                    clear hop
                  all_goals
                    have hC := HTk.out wr2 HW2.out
                    obtain ⟨css, hcss⟩ := hC.parts
                    rw [toks_css hcss] at hcss
                    have HCs := Lib.hid (fun W (hb : Below wr2.heap.size wr2 W) => hcss.later lM hb)
                    have HZt : Hid (∀ t ∈ l, t.text.size ≤ 8000) := Lib.hid (fun t ht => by
                      obtain ⟨i, hi⟩ := List.mem_iff_getElem?.1 ht
                      exact (toks_at hC i t hi).1)
                    clear hC hcss
                    have hc1 : ¬ c0 < q := by omega
                    have hc2 : ¬ c0 < k := by omega
                    have hc3 : ¬ k < q + 1 := by omega
                    have hc4 : ¬ c0 = q + 1 := by omega
                    have hc5 : ¬ (l.length : Int) < (k : Int) + 1 := by omega
                    have hc6 : (0 : Int) ≤ (k : Int) + 1 := by omega
                    have hc7 : (0 : Int) ≤ (q : Int) + 1 := by omega
                    have hc8 : IntKind.i64.wrap ((q : Int) + 1) = (q : Int) + 1 := bounds_wrap (by omega) (by omega)
                    have hc9 : ((q : Int) + 1).toNat = q + 1 := by omega
                    have hcA : ¬ (k : Int) < (q : Int) + 1 := by omega
                    have hcB : k ≤ c0 := by omega
                    have hcC : (q : Int) + 1 ≤ (k : Int) := by omega
                    have hcD : k + 1 ≤ c0 := by omega
                    have hcE : (k : Int) + 1 ≤ (l.length : Int) := by omega
                    have hcF : q ≤ c0 := by omega
                    obtain ⟨pa, hpa⟩ : ∃ pa : Option Addr, (if c0 = k + 1 then some ⟨b1, o1, none⟩ else some ⟨b1, o1 + (k + 1) * 4, none⟩) = pa := ⟨_, rfl⟩
                    have HPa := Lib.hid hpa
                    refine wp_region_held_drew (S := fun W => Below wr2.heap.size wr2 W) (by kernel_rfl) (aF wr2) fun hS => ?_
                    refine wpAnyH_take (i := 1) (v := .slice (some ⟨b1, o1, none⟩) l.length c0) rfl (by kernel_rfl) (by kernel_rfl) (by kernel_rfl) (fun _ _ _ h => h) (Or.inl ⟨by kernel_rfl, fun W hW => by go_simp⟩) hS ?_
                    try simp only [Act.put, List.getElem_toArray, List.getElem_cons_zero, List.getElem_cons_succ, List.setIfInBounds_toArray, List.set_cons_zero, List.set_cons_succ]
                    refine wpAnyH_take (i := 2) (v := .int .i64 (q : Int)) rfl (by kernel_rfl) (by kernel_rfl) (by kernel_rfl) (fun _ _ _ h => h) (Or.inl ⟨by kernel_rfl, fun W hW => by go_simp⟩) hS ?_
                    try simp only [Act.put, List.getElem_toArray, List.getElem_cons_zero, List.getElem_cons_succ, List.setIfInBounds_toArray, List.set_cons_zero, List.set_cons_succ]
                    refine wpAnyH_take (i := 3) (v := .slice (some ⟨b1, o1, none⟩) q c0) rfl (by kernel_rfl) (by kernel_rfl) (by kernel_rfl) (fun _ _ _ h => h) (Or.inl ⟨by kernel_rfl, fun W hW => by go_simp⟩) hS ?_
                    try simp only [Act.put, List.getElem_toArray, List.getElem_cons_zero, List.getElem_cons_succ, List.setIfInBounds_toArray, List.set_cons_zero, List.set_cons_succ]
                    refine wpAnyH_take (i := 5) (v := .slice (some ⟨b1, o1, none⟩) l.length c0) rfl (by kernel_rfl) (by kernel_rfl) (by kernel_rfl) (fun _ _ _ h => h) (Or.inl ⟨by kernel_rfl, fun W hW => by go_simp⟩) hS ?_
                    try simp only [Act.put, List.getElem_toArray, List.getElem_cons_zero, List.getElem_cons_succ, List.setIfInBounds_toArray, List.set_cons_zero, List.set_cons_succ]
                    refine wpAnyH_take (i := 6) (v := .int .i64 (q : Int)) rfl (by kernel_rfl) (by kernel_rfl) (by kernel_rfl) (fun _ _ _ h => h) (Or.inl ⟨by kernel_rfl, fun W hW => by go_simp⟩) hS ?_
                    try simp only [Act.put, List.getElem_toArray, List.getElem_cons_zero, List.getElem_cons_succ, List.setIfInBounds_toArray, List.set_cons_zero, List.set_cons_succ]
                    refine wpAnyH_take (i := 7) (v := .int .i64 ((q : Int) + 1)) rfl (by kernel_rfl) (by kernel_rfl) (by kernel_rfl) (fun _ _ _ h => h) (Or.inl ⟨by kernel_rfl, fun W hW => by go_simp⟩) hS ?_
                    try simp only [Act.put, List.getElem_toArray, List.getElem_cons_zero, List.getElem_cons_succ, List.setIfInBounds_toArray, List.set_cons_zero, List.set_cons_succ]
                    refine wpAnyH_take (i := 8) (v := .int .i64 (k : Int)) rfl (by kernel_rfl) (by kernel_rfl) (by kernel_rfl) (fun _ _ _ h => h) (Or.inl ⟨by kernel_rfl, fun W hW => by go_simp⟩) hS ?_
                    try simp only [Act.put, List.getElem_toArray, List.getElem_cons_zero, List.getElem_cons_succ, List.setIfInBounds_toArray, List.set_cons_zero, List.set_cons_succ]
                    refine wpAnyH_take (i := 9) (v := .slice (some ⟨b1, o1 + (q + 1) * 4, none⟩) (k - (q + 1)) (c0 - (q + 1))) rfl (by kernel_rfl) (by kernel_rfl) (by kernel_rfl) (fun _ _ _ h => h) (Or.inl ⟨by kernel_rfl, fun W hW => by go_simp⟩) hS ?_
                    try simp only [Act.put, List.getElem_toArray, List.getElem_cons_zero, List.getElem_cons_succ, List.setIfInBounds_toArray, List.set_cons_zero, List.set_cons_succ]
                    refine wpAnyH_take (i := 11) (v := .slice (some ⟨b1, o1, none⟩) l.length c0) rfl (by kernel_rfl) (by kernel_rfl) (by kernel_rfl) (fun _ _ _ h => h) (Or.inl ⟨by kernel_rfl, fun W hW => by go_simp⟩) hS ?_
                    try simp only [Act.put, List.getElem_toArray, List.getElem_cons_zero, List.getElem_cons_succ, List.setIfInBounds_toArray, List.set_cons_zero, List.set_cons_succ]
                    refine wpAnyH_take (i := 12) (v := .int .i64 (k : Int)) rfl (by kernel_rfl) (by kernel_rfl) (by kernel_rfl) (fun _ _ _ h => h) (Or.inl ⟨by kernel_rfl, fun W hW => by go_simp⟩) hS ?_
                    try simp only [Act.put, List.getElem_toArray, List.getElem_cons_zero, List.getElem_cons_succ, List.setIfInBounds_toArray, List.set_cons_zero, List.set_cons_succ]
                    refine wpAnyH_take (i := 13) (v := .int .i64 ((k : Int) + 1)) rfl (by kernel_rfl) (by kernel_rfl) (by kernel_rfl) (fun _ _ _ h => h) (Or.inl ⟨by kernel_rfl, fun W hW => by go_simp⟩) hS ?_
                    try simp only [Act.put, List.getElem_toArray, List.getElem_cons_zero, List.getElem_cons_succ, List.setIfInBounds_toArray, List.set_cons_zero, List.set_cons_succ]
                    refine wpAnyH_take (i := 14) (v := .slice pa (l.length - (k + 1)) (c0 - (k + 1))) rfl (by kernel_rfl) (by kernel_rfl) (by kernel_rfl) (fun _ _ _ h => h) (Or.inl ⟨by kernel_rfl, fun W hW => by go_simp⟩) hS ?_
                    try simp only [Act.put, List.getElem_toArray, List.getElem_cons_zero, List.getElem_cons_succ, List.setIfInBounds_toArray, List.set_cons_zero, List.set_cons_succ]
                    refine wpAnyH_ready (rs := [0]) (by kernel_rfl) (by simp) ?_
                    refine AllReadyH.cons rfl (fun K hK => ?_) AllReadyH.nil
                    rw [if_pos (by kernel_rfl)]
                    try simp only [List.getElem_toArray, List.getElem_cons_zero, List.getElem_cons_succ]
                    go_simp
                    have HBe := Lib.hid (aA (Below.refl _ wr2).drew (aB wr2.drew (.cells #[] 59)))
                    refine hK.out _ _ HBe.out (fun hS => ?_)
                    clear hK K
                    try simp only [Act.put, List.getElem_toArray, List.getElem_cons_zero, List.getElem_cons_succ, List.setIfInBounds_toArray, List.set_cons_zero, List.set_cons_succ]
                    have HE1 := Lib.hid (CssOf.src (HCs.out _ HBe.out) (by decide) oneCell_tok (Nat.zero_le q) (show q ≤ l.length by omega) (some ⟨b1, o1, none⟩) (fun _ => by rw [Nat.zero_mul, Nat.add_zero]) c0)
                    simp only [Nat.sub_zero, List.drop_zero] at HE1
                    refine wpAnyH_ready (rs := [4]) (by kernel_rfl) (by simp) ?_
                    refine AllReadyH.cons rfl (fun K hK => ?_) AllReadyH.nil
                    rw [if_pos (by kernel_rfl)]
                    try simp only [List.getElem_toArray, List.getElem_cons_zero, List.getElem_cons_succ]
                    refine wp_append_all _ _ 54 rfl wr2.heap.size 59 i0 (.agg #[.int .i64 0, .string ByteArray.empty, .int .i64 0, .int .i64 0]) 4 40 Tryz.underlying54 hi0 hy0 hy1 hy2 rfl (by omega) (wr2.heap.size) (0) (0) ([]) (by rfl) (⟨rfl, .inr ⟨wr2.heap.size, 0, #[], rfl, Nat.le_refl _, heap_alloc_new wr2.drew _, Nat.le_refl _, by unfold maxLen; omega, rfl, rfl⟩⟩) (.slice (some ⟨b1, o1, none⟩) q c0) (q) _ (by rfl) (HE1.out) (by unfold maxLen; omega) (by omega) (by simp) ?_
                    intro g1 cap1 wf hown1 hgr1 hg1
                    have HBf : Hid (Below wr2.heap.size wr2 wf) := Lib.hid (grown_newB HBe.out hgr1 (Nat.le_refl _))
                    simp only [Nat.zero_add, List.nil_append, Nat.sub_zero, List.drop_zero] at hown1 ⊢
                    refine hK.out _ _ HBf.out (fun hS => ?_)
                    clear hK K
                    try simp only [Act.put, List.getElem_toArray, List.getElem_cons_zero, List.getElem_cons_succ, List.setIfInBounds_toArray, List.set_cons_zero, List.set_cons_succ]
                    have HE2 := Lib.hid (CssOf.src (HCs.out _ HBf.out) (by decide) oneCell_tok (show q + 1 ≤ k by omega) (show k ≤ l.length by omega) (some ⟨b1, o1 + (q + 1) * 4, none⟩) (fun _ => rfl) (c0 - (q + 1)))
                    refine wpAnyH_ready (rs := [10]) (by kernel_rfl) (by simp) ?_
                    refine AllReadyH.cons rfl (fun K hK => ?_) AllReadyH.nil
                    rw [if_pos (by kernel_rfl)]
                    try simp only [List.getElem_toArray, List.getElem_cons_zero, List.getElem_cons_succ]
                    refine wp_append_all _ _ 54 rfl wr2.heap.size 59 i0 (.agg #[.int .i64 0, .string ByteArray.empty, .int .i64 0, .int .i64 0]) 4 40 Tryz.underlying54 hi0 hy0 hy1 hy2 rfl (by omega) (g1) (q) (cap1) (((l.map tokCells).take q).flatten) (by rfl) (hown1) (.slice (some ⟨b1, o1 + (q + 1) * 4, none⟩) (k - (q + 1)) (c0 - (q + 1))) (k - (q + 1)) _ (by rfl) (HE2.out) (by unfold maxLen; omega) (by omega) (HBf.out.size) ?_
                    intro g2 cap2 wg hown2 hgr2 hg2
                    have HBg : Hid (Below wr2.heap.size wr2 wg) := Lib.hid (grown_newB HBf.out hgr2 (hown1.lt g1 rfl).1)
                    refine hK.out _ _ HBg.out (fun hS => ?_)
                    clear hK K
                    try simp only [Act.put, List.getElem_toArray, List.getElem_cons_zero, List.getElem_cons_succ, List.setIfInBounds_toArray, List.set_cons_zero, List.set_cons_succ]
                    have HE3 := Lib.hid (CssOf.src (HCs.out _ HBg.out) (by decide) oneCell_tok (show k + 1 ≤ l.length by omega) (Nat.le_refl _) pa (fun h => by rw [← HPa.out, if_neg (by omega)]) (c0 - (k + 1)))
                    refine wpAnyH_ready (rs := [15]) (by kernel_rfl) (by simp) ?_
                    refine AllReadyH.cons rfl (fun K hK => ?_) AllReadyH.nil
                    rw [if_pos (by kernel_rfl)]
                    try simp only [List.getElem_toArray, List.getElem_cons_zero, List.getElem_cons_succ]
                    refine wp_append_all _ _ 54 rfl wr2.heap.size 59 i0 (.agg #[.int .i64 0, .string ByteArray.empty, .int .i64 0, .int .i64 0]) 4 40 Tryz.underlying54 hi0 hy0 hy1 hy2 rfl (by omega) (g2) (q + (k - (q + 1))) (cap2) (((l.map tokCells).take q).flatten ++ (((l.map tokCells).drop (q + 1)).take (k - (q + 1))).flatten) (by rfl) (hown2) (.slice pa (l.length - (k + 1)) (c0 - (k + 1))) (l.length - (k + 1)) _ (by rfl) (HE3.out) (by unfold maxLen; omega) (by omega) (HBg.out.size) ?_
                    intro g3 cap3 wh hown3 hgr3 hg3
                    have HBh : Hid (Below wr2.heap.size wr2 wh) := Lib.hid (grown_newB HBg.out hgr3 (hown2.lt g2 rfl).1)
                    refine hK.out _ _ HBh.out (fun hS => ?_)
                    clear hK K
                    try simp only [Act.put, List.getElem_toArray, List.getElem_cons_zero, List.getElem_cons_succ, List.setIfInBounds_toArray, List.set_cons_zero, List.set_cons_succ]
                    refine wpAnyH_take (i := 16) (v := .slice (some ⟨g3, 0, none⟩) (q + (k - (q + 1)) + (l.length - (k + 1))) cap3) rfl (by kernel_rfl) (by kernel_rfl) (by kernel_rfl) (fun _ _ _ h => h) (Or.inl ⟨by kernel_rfl, fun W hW => by go_simp⟩) hS ?_
                    try simp only [Act.put, List.getElem_toArray, List.getElem_cons_zero, List.getElem_cons_succ, List.setIfInBounds_toArray, List.set_cons_zero, List.set_cons_succ]
                    refine wpAnyH_done (by kernel_rfl) ?_ _
                    have HRr : Hid (aO 4 encTok (fun _ => True) wh (.slice (some ⟨g3, 0, none⟩) (q + (k - (q + 1)) + (l.length - (k + 1))) cap3) (restT l q k)) := Lib.hid (by
                      refine toks_of_owns (fun t ht => HZt.out t ((rest_sub HQ.out hqk hk2).subset ht)) (B := wr2.heap.size) (T := 59) (n := q + (k - (q + 1)) + (l.length - (k + 1))) ?_ (by unfold restT; rw [List.length_append, List.length_append, List.length_take, List.length_take, List.length_drop, List.length_drop]; omega)
                      rw [List.take_of_length_le (l := (l.map tokCells).drop (k + 1)) (by rw [List.length_drop, List.length_map]; exact Nat.le_refl _)] at hown3
                      unfold restT
                      rw [List.map_append, List.map_append, List.flatten_append, List.flatten_append, List.map_take, List.map_take, List.map_drop, List.map_drop]
                      exact hown3)
                    have HLs := Lib.hid (paren_less HP.out HWl.out HQ.out HTx.out HKd.out hqk hk2)
                    have hrl : (restT l q k).length ≤ 20000 := Nat.le_trans (rest_sub HQ.out hqk hk2).length_le (by omega)
                    clear hS hown1 hgr1 hg1 hown2 hgr2 hg2 hown3 hgr3 hg3 HE1 HE2 HE3 HBe HBf HBg hpa HPa
                    have HLl : Hid (q + (k - (q + 1)) + (l.length - (k + 1)) = (restT l q k).length) := Lib.hid (by unfold restT; rw [List.length_append, List.length_append, List.length_take, List.length_take, List.length_drop, List.length_drop]; omega)
                    have HB6 := Lib.hid (aA HB5.out (aA HW2.out HBh.out))
                    have HX6 := Lib.hid (aC (aA HW2.out HBh.out) HX5.out)
                    have hbx := HX6.out
                    clear x0 x1 x2 x3 x4 x5
                    obtain ⟨⟨x0, x1, x2, x3, x4, x5⟩, -⟩ := bx6 hbx
                    clear hbx
                    go_wp2_with fail
                    refine (text_any (restT l q k) _ _ _ hrl HRr.out).mono ?_
                    rintro e w7 ⟨rfl, hb7⟩
                    have HB7 := Lib.hid (aA HB6.out hb7)
                    have HX7 := Lib.hid (aC hb7 HX6.out)
                    have hbx := HX7.out
                    clear x0 x1 x2 x3 x4 x5 hb7
                    obtain ⟨⟨x0, x1, x2, x3, x4, x5⟩, -⟩ := bx6 hbx
                    clear hbx
                    have HZr : Hid ((bs (iI (wordsT (restT l q k)))).size ≤ 140737488355328) := Lib.hid (Nat.le_trans HLs.out.2 (by decide))
                    have HNe := Lib.hid HLs.out.1
                    clear HLs hrl HRr HLl
                    generalize bs (iI (wordsT (restT l q k))) = rs at *
                    go_wp2_with fail
                    refine (HPX.out rs HZr.out _ HB7.out).mono ?_
                    rintro e w8 ⟨hv, hb8'⟩
                    cases hx1 : fN rs with
                    | error y =>
                      rw [hx1] at hv
                      obtain rfl : e = .returned (.tuple #[.agg bC, .int .i64 y.1, .int .i64 y.2]) := hv
                      have f0 : (y.2 == 0) = false := by rw [beq_eq_false_iff_ne]; exact parseX_err hx1
                      have f1 : (y.2 != 0) = true := by rw [bne_iff_ne]; exact parseX_err hx1
                      clear hx1
                      dsimp only [bC]
                      have hb8 := aA hb8' (aB w8 (.cells #[.int .i64 0, .int .i64 0, .string ⟨#[]⟩, .string ⟨#[]⟩, .slice none 0 0, .slice none 0 0] 35))
                      have HB8 := Lib.hid (aA HB7.out hb8)
                      have HX8 := Lib.hid (aC hb8 HX7.out)
                      have hbx := HX8.out
                      clear x0 x1 x2 x3 x4 x5 hb8
                      obtain ⟨⟨x0, x1, x2, x3, x4, x5⟩, -⟩ := bx6 hbx
                      clear hbx
                      go_wp2_with fail
                      go_ret
                      exact ⟨rfl, HB8.out⟩
                    | ok y =>
                      rw [hx1] at hv
                      have HSf : Hid (kS y x = false) := Lib.hid (by
                        cases hq : kS y x with
                        | false => rfl
                        | true => exact absurd (by rw [hx1, (iZ y x).1 hq]) HNe.out)
                      clear hx1 HNe
                      obtain ⟨yo, yn, ys, ym, ya, yb, yc, yd, ye, yf, rfl, hx⟩ := hv
                      have hb8 := aA hb8' (aB w8 (.cells #[.int .i64 yo, .int .i64 yn, .string ys, .string ym, .slice ya yb yc, .slice yd ye yf] 35))
                      have yA0 := Lib.hid (XAt.made (w := w8) hx)
                      have HB8 := Lib.hid (aA HB7.out hb8)
                      have HX8 := Lib.hid (aC hb8 HX7.out)
                      have hbx := HX8.out
                      clear x0 x1 x2 x3 x4 x5 hb8
                      obtain ⟨⟨x0, x1, x2, x3, x4, x5⟩, -⟩ := bx6 hbx
                      clear hbx
                      obtain ⟨⟨y0, y1, y2, y3, y4, y5⟩, -⟩ := bx6 yA0.out.box
                      clear hb8' hx
                      go_wp2_with fail
                      obtain ⟨N1, hN1⟩ := yA0.out.enc
                      refine (oQ y x hN1 (HN.out _ HB8.out)).mono ?_
                      rw [HSf.out]
                      rintro e w9 ⟨rfl, hb9⟩
                      clear hN1 y0 y1 y2 y3 y4 y5
                      have HB9 := Lib.hid (aA HB8.out hb9)
                      have HX9 := Lib.hid (aC hb9 HX8.out)
                      have hbx := HX9.out
                      clear x0 x1 x2 x3 x4 x5 hb9
                      obtain ⟨⟨x0, x1, x2, x3, x4, x5⟩, -⟩ := bx6 hbx
                      clear hbx
                      go_wp2_with fail
                      go_ret
                      exact ⟨rfl, HB9.out⟩
            · have h00 : (0 : Int) < (q : Int) := by omega
              obtain ⟨t9, ht9, -⟩ := getElem?_of_lt (show q - 1 < l.length by omega)
              obtain ⟨kd9, tx9, nn9, po9⟩ := t9
              obtain ⟨hz9, b9, o9, eb9, hj9⟩ := toks_at (HTk.out wr HW.out) (q - 1) _ ht9
              cases eb9
              have p90 : wr.cell? ⟨b1, o1 + (q - 1) * 4, none⟩ = some (.int .i64 kd9) := hj9 0 _ rfl
              have p91 := hj9 1 _ rfl
              have p92 := hj9 2 _ rfl
              have p93 := hj9 3 _ rfl
              clear hj9 ht9
              have hz9' : tx9.size ≤ 8000 := hz9
              have hw9 : IntKind.i64.wrap ((q : Int) - 1) = (q : Int) - 1 := bounds_wrap (by omega) (by omega)
              have hn9 : ((q : Int) - 1).toNat = q - 1 := by omega
              have hr9 : (0 : Int) ≤ (q : Int) - 1 ∧ (q : Int) - 1 < (l.length : Int) := by omega
              go_wp2_with fail
              refine (called_any kd9 tx9 nn9 po9 _ (HG.out _ (aA HB5.out HW.out)) hz9').mono ?_
              rintro e w6 ⟨⟨b, rfl, -⟩, hb6⟩
              have HW6 := Lib.hid (aA HW.out hb6)
              clear p90 p91 p92 p93 p10 p11 p12 p13 hw9 hn9 hr9 hz9 hz9' hb6 h0
              have hbx := aC HW6.out HX5.out
              clear x0 x1 x2 x3 x4 x5
              obtain ⟨⟨x0, x1, x2, x3, x4, x5⟩, -⟩ := bx6 hbx
              clear hbx
              cases b with
              | true =>
                go_wp2_with fail
                go_roundw
                case rel => exact ⟨q + 1, n, by omega, by omega, by go_num, rfl, HW6⟩
                case measure => simp [intOf]; omega
              | false =>
                have hnv : IntKind.i64.wrap ((n : Int) + 1) = (n : Int) + 1 := bounds_wrap (by omega) (by omega)
                have hnv2 : IntKind.i64.wrap ((n : Int) + 1 - 1) = (n : Int) := by rw [show (n : Int) + 1 - 1 = (n : Int) by omega]; exact bounds_wrap (by omega) (by omega)
                cases hwh : ((n : Int) != Go.bits .and .i64 z 7) with
                | true =>
                  go_wp2_with fail
                  go_roundw
                  case rel => exact ⟨q + 1, n + 1, by omega, by omega, by go_num, by go_num, HW6⟩
                  case measure => simp [intOf]; omega
                | false =>
                  go_wp2_with fail
                  clear hwh hnv hnv2
                  go_loopw [13, 14] (fun ov kv wr2 => ∃ (op2 : Int) (k : Nat), q ≤ k ∧ k < l.length ∧ ov = .int .i64 op2 ∧ kv = .int .i64 (k : Int) ∧ -(k : Int) - 1 ≤ op2 ∧ op2 ≤ (k : Int) + 1 ∧ Hid (k = q → op2 = 1) ∧ Hid (Below w5.heap.size w5 wr2)) (fun _ kv _ => l.length - (intOf kv).toNat)
                  case atStart => exact ⟨1, q, Nat.le_refl _, by omega, rfl, rfl, by omega, by omega, Lib.hid (fun _ => rfl), HW6⟩
                  case round =>
                    obtain ⟨op2, k, hk1, hk2, rfl, rfl, hp1, hp2, HO, HW2⟩ := hrel
                    rename World => wr2
                    have hbx := aC HW2.out HX5.out
                    clear x0 x1 x2 x3 x4 x5
                    obtain ⟨⟨x0, x1, x2, x3, x4, x5⟩, -⟩ := bx6 hbx
                    clear hbx
                    have hkw : IntKind.i64.wrap ((k : Int) + 1) = (k : Int) + 1 := bounds_wrap (by omega) (by omega)
                    have hkt : ((k : Int) + 1).toNat = k + 1 := by omega
                    by_cases hop : 0 < op2
                    focus
                      by_cases hkk : (k : Int) + 1 < (l.length : Int)
                      focus
                        obtain ⟨t2, ht2, -⟩ := getElem?_of_lt (show k + 1 < l.length by omega)
                        obtain ⟨kd2, tx2, nn2, po2⟩ := t2
                        obtain ⟨-, b2, o2, eb, hj⟩ := toks_at (HTk.out wr2 HW2.out) (k + 1) _ ht2
                        cases eb
                        have p21 : wr2.cell? ⟨b1, o1 + (k + 1) * 4 + 1, none⟩ = some (.string tx2) := hj 1 _ rfl
                        clear hj ht2
                        have hkb : (0 : Int) ≤ (k : Int) + 1 := by omega
                        by_cases k1 : tx2.toList = [40]
                        · have hvw : IntKind.i64.wrap (op2 + 1) = op2 + 1 := bounds_wrap (by omega) (by omega)
                          have k2 : (tx2.toList == [41]) = false := by rw [k1]; decide
                          go_wp2_with fail
                          go_roundw
                          case rel => exact ⟨op2 + 1, k + 1, by omega, by omega, by go_num, by go_num, by omega, by omega, Lib.hid (fun h => by omega), HW2⟩
                          case measure => simp [intOf]; omega
                        · have k1b : (tx2.toList == [40]) = false := beq_eq_false_iff_ne.2 k1
                          by_cases k2 : tx2.toList = [41]
                          · have hvw : IntKind.i64.wrap (op2 - 1) = op2 - 1 := bounds_wrap (by omega) (by omega)
                            go_wp2_with fail
                            go_roundw
                            case rel => exact ⟨op2 - 1, k + 1, by omega, by omega, by go_num, by go_num, by omega, by omega, Lib.hid (fun h => by omega), HW2⟩
                            case measure => simp [intOf]; omega
                          · have hvw : IntKind.i64.wrap (op2) = op2 := bounds_wrap (by omega) (by omega)
                            have k2b : (tx2.toList == [41]) = false := beq_eq_false_iff_ne.2 k2
                            go_wp2_with fail
                            go_roundw
                            case rel => exact ⟨op2, k + 1, by omega, by omega, by go_num, by go_num, by omega, by omega, Lib.hid (fun h => by omega), HW2⟩
                            case measure => simp [intOf]; omega
                      have hqk : q < k := by omega
                      go_wp2_with fail
                      clear hop hkk
                    rotate_right
                    focus
                      have hqk : q < k := (Nat.lt_or_ge q k).elim (fun h => h) (fun h => by have := HO.out (by omega); omega)
                      go_wp2_with fail
                      clear hop
                    all_goals
                      have hC := HTk.out wr2 HW2.out
                      obtain ⟨css, hcss⟩ := hC.parts
                      rw [toks_css hcss] at hcss
                      have HCs := Lib.hid (fun W (hb : Below wr2.heap.size wr2 W) => hcss.later lM hb)
                      have HZt : Hid (∀ t ∈ l, t.text.size ≤ 8000) := Lib.hid (fun t ht => by
                        obtain ⟨i, hi⟩ := List.mem_iff_getElem?.1 ht
                        exact (toks_at hC i t hi).1)
                      clear hC hcss
                      have hc1 : ¬ c0 < q := by omega
                      have hc2 : ¬ c0 < k := by omega
                      have hc3 : ¬ k < q + 1 := by omega
                      have hc4 : ¬ c0 = q + 1 := by omega
                      have hc5 : ¬ (l.length : Int) < (k : Int) + 1 := by omega
                      have hc6 : (0 : Int) ≤ (k : Int) + 1 := by omega
                      have hc7 : (0 : Int) ≤ (q : Int) + 1 := by omega
                      have hc8 : IntKind.i64.wrap ((q : Int) + 1) = (q : Int) + 1 := bounds_wrap (by omega) (by omega)
                      have hc9 : ((q : Int) + 1).toNat = q + 1 := by omega
                      have hcA : ¬ (k : Int) < (q : Int) + 1 := by omega
                      have hcB : k ≤ c0 := by omega
                      have hcC : (q : Int) + 1 ≤ (k : Int) := by omega
                      have hcD : k + 1 ≤ c0 := by omega
                      have hcE : (k : Int) + 1 ≤ (l.length : Int) := by omega
                      have hcF : q ≤ c0 := by omega
                      obtain ⟨pa, hpa⟩ : ∃ pa : Option Addr, (if c0 = k + 1 then some ⟨b1, o1, none⟩ else some ⟨b1, o1 + (k + 1) * 4, none⟩) = pa := ⟨_, rfl⟩
                      have HPa := Lib.hid hpa
                      refine wp_region_held_drew (S := fun W => Below wr2.heap.size wr2 W) (by kernel_rfl) (aF wr2) fun hS => ?_
                      refine wpAnyH_take (i := 1) (v := .slice (some ⟨b1, o1, none⟩) l.length c0) rfl (by kernel_rfl) (by kernel_rfl) (by kernel_rfl) (fun _ _ _ h => h) (Or.inl ⟨by kernel_rfl, fun W hW => by go_simp⟩) hS ?_
                      try simp only [Act.put, List.getElem_toArray, List.getElem_cons_zero, List.getElem_cons_succ, List.setIfInBounds_toArray, List.set_cons_zero, List.set_cons_succ]
                      refine wpAnyH_take (i := 2) (v := .int .i64 (q : Int)) rfl (by kernel_rfl) (by kernel_rfl) (by kernel_rfl) (fun _ _ _ h => h) (Or.inl ⟨by kernel_rfl, fun W hW => by go_simp⟩) hS ?_
                      try simp only [Act.put, List.getElem_toArray, List.getElem_cons_zero, List.getElem_cons_succ, List.setIfInBounds_toArray, List.set_cons_zero, List.set_cons_succ]
                      refine wpAnyH_take (i := 3) (v := .slice (some ⟨b1, o1, none⟩) q c0) rfl (by kernel_rfl) (by kernel_rfl) (by kernel_rfl) (fun _ _ _ h => h) (Or.inl ⟨by kernel_rfl, fun W hW => by go_simp⟩) hS ?_
                      try simp only [Act.put, List.getElem_toArray, List.getElem_cons_zero, List.getElem_cons_succ, List.setIfInBounds_toArray, List.set_cons_zero, List.set_cons_succ]
                      refine wpAnyH_take (i := 5) (v := .slice (some ⟨b1, o1, none⟩) l.length c0) rfl (by kernel_rfl) (by kernel_rfl) (by kernel_rfl) (fun _ _ _ h => h) (Or.inl ⟨by kernel_rfl, fun W hW => by go_simp⟩) hS ?_
                      try simp only [Act.put, List.getElem_toArray, List.getElem_cons_zero, List.getElem_cons_succ, List.setIfInBounds_toArray, List.set_cons_zero, List.set_cons_succ]
                      refine wpAnyH_take (i := 6) (v := .int .i64 (q : Int)) rfl (by kernel_rfl) (by kernel_rfl) (by kernel_rfl) (fun _ _ _ h => h) (Or.inl ⟨by kernel_rfl, fun W hW => by go_simp⟩) hS ?_
                      try simp only [Act.put, List.getElem_toArray, List.getElem_cons_zero, List.getElem_cons_succ, List.setIfInBounds_toArray, List.set_cons_zero, List.set_cons_succ]
                      refine wpAnyH_take (i := 7) (v := .int .i64 ((q : Int) + 1)) rfl (by kernel_rfl) (by kernel_rfl) (by kernel_rfl) (fun _ _ _ h => h) (Or.inl ⟨by kernel_rfl, fun W hW => by go_simp⟩) hS ?_
                      try simp only [Act.put, List.getElem_toArray, List.getElem_cons_zero, List.getElem_cons_succ, List.setIfInBounds_toArray, List.set_cons_zero, List.set_cons_succ]
                      refine wpAnyH_take (i := 8) (v := .int .i64 (k : Int)) rfl (by kernel_rfl) (by kernel_rfl) (by kernel_rfl) (fun _ _ _ h => h) (Or.inl ⟨by kernel_rfl, fun W hW => by go_simp⟩) hS ?_
                      try simp only [Act.put, List.getElem_toArray, List.getElem_cons_zero, List.getElem_cons_succ, List.setIfInBounds_toArray, List.set_cons_zero, List.set_cons_succ]
                      refine wpAnyH_take (i := 9) (v := .slice (some ⟨b1, o1 + (q + 1) * 4, none⟩) (k - (q + 1)) (c0 - (q + 1))) rfl (by kernel_rfl) (by kernel_rfl) (by kernel_rfl) (fun _ _ _ h => h) (Or.inl ⟨by kernel_rfl, fun W hW => by go_simp⟩) hS ?_
                      try simp only [Act.put, List.getElem_toArray, List.getElem_cons_zero, List.getElem_cons_succ, List.setIfInBounds_toArray, List.set_cons_zero, List.set_cons_succ]
                      refine wpAnyH_take (i := 11) (v := .slice (some ⟨b1, o1, none⟩) l.length c0) rfl (by kernel_rfl) (by kernel_rfl) (by kernel_rfl) (fun _ _ _ h => h) (Or.inl ⟨by kernel_rfl, fun W hW => by go_simp⟩) hS ?_
                      try simp only [Act.put, List.getElem_toArray, List.getElem_cons_zero, List.getElem_cons_succ, List.setIfInBounds_toArray, List.set_cons_zero, List.set_cons_succ]
                      refine wpAnyH_take (i := 12) (v := .int .i64 (k : Int)) rfl (by kernel_rfl) (by kernel_rfl) (by kernel_rfl) (fun _ _ _ h => h) (Or.inl ⟨by kernel_rfl, fun W hW => by go_simp⟩) hS ?_
                      try simp only [Act.put, List.getElem_toArray, List.getElem_cons_zero, List.getElem_cons_succ, List.setIfInBounds_toArray, List.set_cons_zero, List.set_cons_succ]
                      refine wpAnyH_take (i := 13) (v := .int .i64 ((k : Int) + 1)) rfl (by kernel_rfl) (by kernel_rfl) (by kernel_rfl) (fun _ _ _ h => h) (Or.inl ⟨by kernel_rfl, fun W hW => by go_simp⟩) hS ?_
                      try simp only [Act.put, List.getElem_toArray, List.getElem_cons_zero, List.getElem_cons_succ, List.setIfInBounds_toArray, List.set_cons_zero, List.set_cons_succ]
                      refine wpAnyH_take (i := 14) (v := .slice pa (l.length - (k + 1)) (c0 - (k + 1))) rfl (by kernel_rfl) (by kernel_rfl) (by kernel_rfl) (fun _ _ _ h => h) (Or.inl ⟨by kernel_rfl, fun W hW => by go_simp⟩) hS ?_
                      try simp only [Act.put, List.getElem_toArray, List.getElem_cons_zero, List.getElem_cons_succ, List.setIfInBounds_toArray, List.set_cons_zero, List.set_cons_succ]
                      refine wpAnyH_ready (rs := [0]) (by kernel_rfl) (by simp) ?_
                      refine AllReadyH.cons rfl (fun K hK => ?_) AllReadyH.nil
                      rw [if_pos (by kernel_rfl)]
                      try simp only [List.getElem_toArray, List.getElem_cons_zero, List.getElem_cons_succ]
                      go_simp
                      have HBe := Lib.hid (aA (Below.refl _ wr2).drew (aB wr2.drew (.cells #[] 59)))
                      refine hK.out _ _ HBe.out (fun hS => ?_)
                      clear hK K
                      try simp only [Act.put, List.getElem_toArray, List.getElem_cons_zero, List.getElem_cons_succ, List.setIfInBounds_toArray, List.set_cons_zero, List.set_cons_succ]
                      have HE1 := Lib.hid (CssOf.src (HCs.out _ HBe.out) (by decide) oneCell_tok (Nat.zero_le q) (show q ≤ l.length by omega) (some ⟨b1, o1, none⟩) (fun _ => by rw [Nat.zero_mul, Nat.add_zero]) c0)
                      simp only [Nat.sub_zero, List.drop_zero] at HE1
                      refine wpAnyH_ready (rs := [4]) (by kernel_rfl) (by simp) ?_
                      refine AllReadyH.cons rfl (fun K hK => ?_) AllReadyH.nil
                      rw [if_pos (by kernel_rfl)]
                      try simp only [List.getElem_toArray, List.getElem_cons_zero, List.getElem_cons_succ]
                      refine wp_append_all _ _ 54 rfl wr2.heap.size 59 i0 (.agg #[.int .i64 0, .string ByteArray.empty, .int .i64 0, .int .i64 0]) 4 40 Tryz.underlying54 hi0 hy0 hy1 hy2 rfl (by omega) (wr2.heap.size) (0) (0) ([]) (by rfl) (⟨rfl, .inr ⟨wr2.heap.size, 0, #[], rfl, Nat.le_refl _, heap_alloc_new wr2.drew _, Nat.le_refl _, by unfold maxLen; omega, rfl, rfl⟩⟩) (.slice (some ⟨b1, o1, none⟩) q c0) (q) _ (by rfl) (HE1.out) (by unfold maxLen; omega) (by omega) (by simp) ?_
                      intro g1 cap1 wf hown1 hgr1 hg1
                      have HBf : Hid (Below wr2.heap.size wr2 wf) := Lib.hid (grown_newB HBe.out hgr1 (Nat.le_refl _))
                      simp only [Nat.zero_add, List.nil_append, Nat.sub_zero, List.drop_zero] at hown1 ⊢
                      refine hK.out _ _ HBf.out (fun hS => ?_)
                      clear hK K
                      try simp only [Act.put, List.getElem_toArray, List.getElem_cons_zero, List.getElem_cons_succ, List.setIfInBounds_toArray, List.set_cons_zero, List.set_cons_succ]
                      have HE2 := Lib.hid (CssOf.src (HCs.out _ HBf.out) (by decide) oneCell_tok (show q + 1 ≤ k by omega) (show k ≤ l.length by omega) (some ⟨b1, o1 + (q + 1) * 4, none⟩) (fun _ => rfl) (c0 - (q + 1)))
                      refine wpAnyH_ready (rs := [10]) (by kernel_rfl) (by simp) ?_
                      refine AllReadyH.cons rfl (fun K hK => ?_) AllReadyH.nil
                      rw [if_pos (by kernel_rfl)]
                      try simp only [List.getElem_toArray, List.getElem_cons_zero, List.getElem_cons_succ]
                      refine wp_append_all _ _ 54 rfl wr2.heap.size 59 i0 (.agg #[.int .i64 0, .string ByteArray.empty, .int .i64 0, .int .i64 0]) 4 40 Tryz.underlying54 hi0 hy0 hy1 hy2 rfl (by omega) (g1) (q) (cap1) (((l.map tokCells).take q).flatten) (by rfl) (hown1) (.slice (some ⟨b1, o1 + (q + 1) * 4, none⟩) (k - (q + 1)) (c0 - (q + 1))) (k - (q + 1)) _ (by rfl) (HE2.out) (by unfold maxLen; omega) (by omega) (HBf.out.size) ?_
                      intro g2 cap2 wg hown2 hgr2 hg2
                      have HBg : Hid (Below wr2.heap.size wr2 wg) := Lib.hid (grown_newB HBf.out hgr2 (hown1.lt g1 rfl).1)
                      refine hK.out _ _ HBg.out (fun hS => ?_)
                      clear hK K
                      try simp only [Act.put, List.getElem_toArray, List.getElem_cons_zero, List.getElem_cons_succ, List.setIfInBounds_toArray, List.set_cons_zero, List.set_cons_succ]
                      have HE3 := Lib.hid (CssOf.src (HCs.out _ HBg.out) (by decide) oneCell_tok (show k + 1 ≤ l.length by omega) (Nat.le_refl _) pa (fun h => by rw [← HPa.out, if_neg (by omega)]) (c0 - (k + 1)))
                      refine wpAnyH_ready (rs := [15]) (by kernel_rfl) (by simp) ?_
                      refine AllReadyH.cons rfl (fun K hK => ?_) AllReadyH.nil
                      rw [if_pos (by kernel_rfl)]
                      try simp only [List.getElem_toArray, List.getElem_cons_zero, List.getElem_cons_succ]
                      refine wp_append_all _ _ 54 rfl wr2.heap.size 59 i0 (.agg #[.int .i64 0, .string ByteArray.empty, .int .i64 0, .int .i64 0]) 4 40 Tryz.underlying54 hi0 hy0 hy1 hy2 rfl (by omega) (g2) (q + (k - (q + 1))) (cap2) (((l.map tokCells).take q).flatten ++ (((l.map tokCells).drop (q + 1)).take (k - (q + 1))).flatten) (by rfl) (hown2) (.slice pa (l.length - (k + 1)) (c0 - (k + 1))) (l.length - (k + 1)) _ (by rfl) (HE3.out) (by unfold maxLen; omega) (by omega) (HBg.out.size) ?_
                      intro g3 cap3 wh hown3 hgr3 hg3
                      have HBh : Hid (Below wr2.heap.size wr2 wh) := Lib.hid (grown_newB HBg.out hgr3 (hown2.lt g2 rfl).1)
                      refine hK.out _ _ HBh.out (fun hS => ?_)
                      clear hK K
                      try simp only [Act.put, List.getElem_toArray, List.getElem_cons_zero, List.getElem_cons_succ, List.setIfInBounds_toArray, List.set_cons_zero, List.set_cons_succ]
                      refine wpAnyH_take (i := 16) (v := .slice (some ⟨g3, 0, none⟩) (q + (k - (q + 1)) + (l.length - (k + 1))) cap3) rfl (by kernel_rfl) (by kernel_rfl) (by kernel_rfl) (fun _ _ _ h => h) (Or.inl ⟨by kernel_rfl, fun W hW => by go_simp⟩) hS ?_
                      try simp only [Act.put, List.getElem_toArray, List.getElem_cons_zero, List.getElem_cons_succ, List.setIfInBounds_toArray, List.set_cons_zero, List.set_cons_succ]
                      refine wpAnyH_done (by kernel_rfl) ?_ _
                      have HRr : Hid (aO 4 encTok (fun _ => True) wh (.slice (some ⟨g3, 0, none⟩) (q + (k - (q + 1)) + (l.length - (k + 1))) cap3) (restT l q k)) := Lib.hid (by
                        refine toks_of_owns (fun t ht => HZt.out t ((rest_sub HQ.out hqk hk2).subset ht)) (B := wr2.heap.size) (T := 59) (n := q + (k - (q + 1)) + (l.length - (k + 1))) ?_ (by unfold restT; rw [List.length_append, List.length_append, List.length_take, List.length_take, List.length_drop, List.length_drop]; omega)
                        rw [List.take_of_length_le (l := (l.map tokCells).drop (k + 1)) (by rw [List.length_drop, List.length_map]; exact Nat.le_refl _)] at hown3
                        unfold restT
                        rw [List.map_append, List.map_append, List.flatten_append, List.flatten_append, List.map_take, List.map_take, List.map_drop, List.map_drop]
                        exact hown3)
                      have HLs := Lib.hid (paren_less HP.out HWl.out HQ.out HTx.out HKd.out hqk hk2)
                      have hrl : (restT l q k).length ≤ 20000 := Nat.le_trans (rest_sub HQ.out hqk hk2).length_le (by omega)
                      clear hS hown1 hgr1 hg1 hown2 hgr2 hg2 hown3 hgr3 hg3 HE1 HE2 HE3 HBe HBf HBg hpa HPa
                      have HLl : Hid (q + (k - (q + 1)) + (l.length - (k + 1)) = (restT l q k).length) := Lib.hid (by unfold restT; rw [List.length_append, List.length_append, List.length_take, List.length_take, List.length_drop, List.length_drop]; omega)
                      have HB6 := Lib.hid (aA HB5.out (aA HW2.out HBh.out))
                      have HX6 := Lib.hid (aC (aA HW2.out HBh.out) HX5.out)
                      have hbx := HX6.out
                      clear x0 x1 x2 x3 x4 x5
                      obtain ⟨⟨x0, x1, x2, x3, x4, x5⟩, -⟩ := bx6 hbx
                      clear hbx
                      go_wp2_with fail
                      refine (text_any (restT l q k) _ _ _ hrl HRr.out).mono ?_
                      rintro e w7 ⟨rfl, hb7⟩
                      have HB7 := Lib.hid (aA HB6.out hb7)
                      have HX7 := Lib.hid (aC hb7 HX6.out)
                      have hbx := HX7.out
                      clear x0 x1 x2 x3 x4 x5 hb7
                      obtain ⟨⟨x0, x1, x2, x3, x4, x5⟩, -⟩ := bx6 hbx
                      clear hbx
                      have HZr : Hid ((bs (iI (wordsT (restT l q k)))).size ≤ 140737488355328) := Lib.hid (Nat.le_trans HLs.out.2 (by decide))
                      have HNe := Lib.hid HLs.out.1
                      clear HLs hrl HRr HLl
                      generalize bs (iI (wordsT (restT l q k))) = rs at *
                      go_wp2_with fail
                      refine (HPX.out rs HZr.out _ HB7.out).mono ?_
                      rintro e w8 ⟨hv, hb8'⟩
                      cases hx1 : fN rs with
                      | error y =>
                        rw [hx1] at hv
                        obtain rfl : e = .returned (.tuple #[.agg bC, .int .i64 y.1, .int .i64 y.2]) := hv
                        have f0 : (y.2 == 0) = false := by rw [beq_eq_false_iff_ne]; exact parseX_err hx1
                        have f1 : (y.2 != 0) = true := by rw [bne_iff_ne]; exact parseX_err hx1
                        clear hx1
                        dsimp only [bC]
                        have hb8 := aA hb8' (aB w8 (.cells #[.int .i64 0, .int .i64 0, .string ⟨#[]⟩, .string ⟨#[]⟩, .slice none 0 0, .slice none 0 0] 35))
                        have HB8 := Lib.hid (aA HB7.out hb8)
                        have HX8 := Lib.hid (aC hb8 HX7.out)
                        have hbx := HX8.out
                        clear x0 x1 x2 x3 x4 x5 hb8
                        obtain ⟨⟨x0, x1, x2, x3, x4, x5⟩, -⟩ := bx6 hbx
                        clear hbx
                        go_wp2_with fail
                        go_ret
                        exact ⟨rfl, HB8.out⟩
                      | ok y =>
                        rw [hx1] at hv
                        have HSf : Hid (kS y x = false) := Lib.hid (by
                          cases hq : kS y x with
                          | false => rfl
                          | true => exact absurd (by rw [hx1, (iZ y x).1 hq]) HNe.out)
                        clear hx1 HNe
                        obtain ⟨yo, yn, ys, ym, ya, yb, yc, yd, ye, yf, rfl, hx⟩ := hv
                        have hb8 := aA hb8' (aB w8 (.cells #[.int .i64 yo, .int .i64 yn, .string ys, .string ym, .slice ya yb yc, .slice yd ye yf] 35))
                        have yA0 := Lib.hid (XAt.made (w := w8) hx)
                        have HB8 := Lib.hid (aA HB7.out hb8)
                        have HX8 := Lib.hid (aC hb8 HX7.out)
                        have hbx := HX8.out
                        clear x0 x1 x2 x3 x4 x5 hb8
                        obtain ⟨⟨x0, x1, x2, x3, x4, x5⟩, -⟩ := bx6 hbx
                        clear hbx
                        obtain ⟨⟨y0, y1, y2, y3, y4, y5⟩, -⟩ := bx6 yA0.out.box
                        clear hb8' hx
                        go_wp2_with fail
                        obtain ⟨N1, hN1⟩ := yA0.out.enc
                        refine (oQ y x hN1 (HN.out _ HB8.out)).mono ?_
                        rw [HSf.out]
                        rintro e w9 ⟨rfl, hb9⟩
                        clear hN1 y0 y1 y2 y3 y4 y5
                        have HB9 := Lib.hid (aA HB8.out hb9)
                        have HX9 := Lib.hid (aC hb9 HX8.out)
                        have hbx := HX9.out
                        clear x0 x1 x2 x3 x4 x5 hb9
                        obtain ⟨⟨x0, x1, x2, x3, x4, x5⟩, -⟩ := bx6 hbx
                        clear hbx
                        go_wp2_with fail
                        go_ret
                        exact ⟨rfl, HB9.out⟩
          · go_wp2_with fail
            go_roundw
            case rel => exact ⟨q + 1, n, by omega, by omega, by go_num, rfl, HW⟩
            case measure => simp [intOf]; omega
        · go_wp2_with fail
          go_ret
          exact ⟨rfl, aA HB5.out HW.out⟩
end Go.Proofs.YtiionicikdnnpaaGreatDoor
