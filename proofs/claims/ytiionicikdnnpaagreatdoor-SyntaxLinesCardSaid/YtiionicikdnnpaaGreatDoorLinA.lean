/- Walk of ladinglaw15.SyntaxLines (printed by gen_lin.py). -/
import Derived.Test.YtiionicikdnnpaaGreatDoorFewB
import Derived.Test.YtiionicikdnnpaaGreatDoorSm15
import Derived.Test.YtiionicikdnnpaaGreatDoorTopY
import Derived.Test.YtiionicikdnnpaaGreatDoorLinLaw
import Derived.Test.YtiionicikdnnpaaGreatDoorRowCut
namespace Go.Proofs.YtiionicikdnnpaaGreatDoor
open Go.RowKit
set_option linter.unusedSimpArgs false
set_option linter.unusedVariables false
set_option linter.constructorNameAsVariable false

set_option maxHeartbeats 64000000 in
set_option maxRecDepth 100000 in
theorem lines_any (m : Mdl) (z : Int) (cs : List Value) (w : World) (hg : iF w) (hm : wM (fun _ => True) w m cs) :
    Calls Tryz.prog 7 #[.agg cs.toArray, .int .i64 z] w fun e w' => e = .returned (.bool true) ∧ Below w.heap.size w w' := by
  obtain ⟨au, du, av, dv, ai, di, af, df, ao, do_, aw, dw, ab, db, rfl⟩ := wM_form hm
  have HG := Lib.hid (fun W (hb : Below w.heap.size w W) => hg.later hb)
  obtain ⟨i1, hi1, hy0, hy1, hy2⟩ := info_parts fnInfo
  have HB0 := Lib.hid (aB w (.cells #[.string m.name, .slice au m.uses.length du, .slice av m.vars.length dv, .slice ai m.init.length di, .slice af m.funcs.length df, .bool m.moves, .slice ao m.old.length do_, .slice aw m.forward.length dw, .slice ab m.back.length db] 30))
  have HX0 := Lib.hid (heap_alloc_new w (.cells #[.string m.name, .slice au m.uses.length du, .slice av m.vars.length dv, .slice ai m.init.length di, .slice af m.funcs.length df, .bool m.moves, .slice ao m.old.length do_, .slice aw m.forward.length dw, .slice ab m.back.length db] 30))
  have hX := HX0.out
  obtain ⟨⟨x0, x1, x2, x3, x4, x5, x6, x7, x8⟩, -⟩ := bx9 hX
  have HE := Lib.hid (fun W (hb : Below w.heap.size w W) => wM_ok _ _ _ _ _ _ (aQ.later hb) hm)
  have HEff := Lib.hid (wM_eff hm)
  have HSm := Lib.hid (small15_any _ (hg.later HB0.out))
  clear hX hg hm
  go_enter Tryz.func7, Tryz.ntmps7
  go_wp2_with fail
  go_at_call 10
  refine HSm.out.mono ?_
  rintro e w1 ⟨rfl, hb1⟩
  have HB1 := Lib.hid (aA HB0.out hb1)
  have HX1 := Lib.hid (aC hb1 HX0.out)
  have hbx := HX1.out
  clear x0 x1 x2 x3 x4 x5 x6 x7 x8 hb1
  obtain ⟨⟨x0, x1, x2, x3, x4, x5, x6, x7, x8⟩, -⟩ := bx9 hbx
  clear hbx
  clear HSm
  go_wp2_with fail
  refine (few_any m (HE.out _ HB1.out)).mono ?_
  rintro e w2 ⟨⟨b, rfl, hb⟩, hb2⟩
  have HK := Lib.hid hb
  clear hb
  have HB2 := Lib.hid (aA HB1.out hb2)
  have HX2 := Lib.hid (aC hb2 HX1.out)
  have hbx := HX2.out
  clear x0 x1 x2 x3 x4 x5 x6 x7 x8 hb2
  obtain ⟨⟨x0, x1, x2, x3, x4, x5, x6, x7, x8⟩, -⟩ := bx9 hbx
  clear hbx
  cases b with
  | false =>
    go_wp2_with fail
    go_ret
    exact ⟨rfl, HB2.out⟩
  | true =>
    have HN := Lib.hid (fun W (hb : Below w.heap.size w W) => wM_enc (HE.out W hb) (HK.out rfl))
    by_cases hz0 : z < 0
    · go_wp2_with fail
      go_ret
      exact ⟨rfl, HB2.out⟩
    by_cases hz1 : (m.funcs.length : Int) ≤ z
    · go_wp2_with fail
      go_ret
      exact ⟨rfl, HB2.out⟩
    obtain ⟨k, rfl⟩ : ∃ k : Nat, z = (k : Int) := ⟨z.toNat, by omega⟩
    have hkl : k < m.funcs.length := by omega
    go_wp2_with fail
    refine (oS m _ _ _ (HG.out _ HB2.out) (HN.out _ HB2.out)).mono ?_
    rintro e w3 ⟨he, hb3⟩
    have HB3 := Lib.hid (aA HB2.out hb3)
    have HX3 := Lib.hid (aC hb3 HX2.out)
    have hbx := HX3.out
    clear x0 x1 x2 x3 x4 x5 x6 x7 x8 hb3
    obtain ⟨⟨x0, x1, x2, x3, x4, x5, x6, x7, x8⟩, -⟩ := bx9 hbx
    clear hbx
    cases hpm : kD m with
    | error c =>
      rw [hpm] at he
      obtain rfl : e = .returned (.tuple #[.string ⟨#[]⟩, .int .i64 c]) := he
      rcases print_no hpm with ⟨hr, rfl⟩ | ⟨hr, rfl⟩
      · clear hr hpm
        go_wp2_with fail
        go_ret
        exact ⟨rfl, HB3.out⟩
      · clear hr hpm
        go_wp2_with fail
        go_ret
        exact ⟨rfl, HB3.out⟩
    | ok s =>
      rw [hpm] at he
      obtain rfl : e = .returned (.tuple #[.string s, .int .i64 0]) := he
      have hr := (print_yes hpm).1
      have hsz := (print_yes hpm).2.2
      obtain ⟨f, hf, -⟩ := getElem?_of_lt hkl
      have HF := Lib.hid hf
      obtain ⟨t, u, p, ht, hu, htz, huz, hu11, hbeg, hsum, hpt, heq⟩ := lines_law hf hpm
      have HT := Lib.hid ht
      have HU := Lib.hid hu
      have HEq := Lib.hid heq
      have HBeg := Lib.hid hbeg
      have hL30 : m.funcs.length ≤ 30 := by
        unfold eX at hr
        simp only [Bool.and_eq_true, decide_eq_true_eq] at hr
        exact hr.1.1.1.1.1.1.2
      clear ht hu heq hbeg hf hpm hr
      have hrow := (dT (HN.out _ HB3.out)).2.2.2.1
      obtain ⟨bs, os, rfl⟩ : ∃ bs os, af = some ⟨bs, os, none⟩ := by
        obtain ⟨a, c, e, -, -, hat⟩ := hrow.at
        obtain ⟨b, o, e2, -⟩ := hat k f HF.out
        injection e with e1
        exact ⟨b, o, by rw [e1, e2]⟩
      have hlc : m.funcs.length ≤ df ∧ df ≤ 9223372036854775807 := by
        obtain ⟨a, c, e, h1, h2, -⟩ := hrow.at
        injection e with e1 e2 e3
        exact ⟨by omega, by omega⟩
      obtain ⟨css, hcss⟩ := hrow.parts
      have HCs0 := Lib.hid hcss
      have HTk : Hid ((css.drop (k + 1)).take (m.funcs.length - (k + 1)) = css.drop (k + 1)) := Lib.hid (List.take_of_length_le (by rw [List.length_drop, hcss.1]; exact Nat.le_refl _))
      have HCs := Lib.hid (fun W (hb : Below w3.heap.size w3 W) => hcss.later bD hb)
      clear hrow hcss
      go_wp2_with fail
      have HBy := Lib.hid (aB w3 (.cells #[.string m.name, .slice au m.uses.length du, .slice av m.vars.length dv, .slice ai m.init.length di, .slice (some ⟨bs, os, none⟩) m.funcs.length df, .bool m.moves, .slice ao m.old.length do_, .slice aw m.forward.length dw, .slice ab m.back.length db] 30))
      have HPb := Lib.hid (heap_alloc_new w3 (.cells #[.string m.name, .slice au m.uses.length du, .slice av m.vars.length dv, .slice ai m.init.length di, .slice (some ⟨bs, os, none⟩) m.funcs.length df, .bool m.moves, .slice ao m.old.length do_, .slice aw m.forward.length dw, .slice ab m.back.length db] 30))
      have hyz : w3.heap.size < (w3.alloc (.cells #[.string m.name, .slice au m.uses.length du, .slice av m.vars.length dv, .slice ai m.init.length di, .slice (some ⟨bs, os, none⟩) m.funcs.length df, .bool m.moves, .slice ao m.old.length do_, .slice aw m.forward.length dw, .slice ab m.back.length db] 30)).heap.size := by simp
      generalize w3.alloc (.cells #[.string m.name, .slice au m.uses.length du, .slice av m.vars.length dv, .slice ai m.init.length di, .slice (some ⟨bs, os, none⟩) m.funcs.length df, .bool m.moves, .slice ao m.old.length do_, .slice aw m.forward.length dw, .slice ab m.back.length db] 30) = wy at HBy HPb hyz ⊢
      have hw15 : IntKind.i64.wrap ((k : Int) + 1) = (k : Int) + 1 := by rw [IntKind.wrap_i64]; omega
      have ht15 : ((k : Int) + 1).toNat = k + 1 := by omega
      have hkc : ¬ df < k := by omega
      have hkc2 : ¬ (m.funcs.length : Int) < (k : Int) + 1 := by omega
      have hkc3 : (0 : Int) ≤ (k : Int) + 1 := by omega
      obtain ⟨pa, hpa⟩ : ∃ pa : Option Addr, (if df = k + 1 then some ⟨bs, os, none⟩ else some ⟨bs, os + (k + 1) * 12, none⟩) = pa := ⟨_, rfl⟩
      have HPa := Lib.hid hpa
      refine wp_region_held_drew (S := fun W => Below w3.heap.size w3 W) (by kernel_rfl) (HBy.out.trans (Below.refl _ _).drew) fun hS => ?_
      refine wpAnyH_take (i := 1) (v := .pointer (some ⟨w.heap.size, 4, none⟩)) rfl (by kernel_rfl) (by kernel_rfl) (by kernel_rfl) (fun _ _ _ h => h) (Or.inl ⟨by kernel_rfl, fun W hW => by go_simp⟩) hS ?_
      try simp only [Act.put, List.getElem_toArray, List.getElem_cons_zero, List.getElem_cons_succ, List.setIfInBounds_toArray, List.set_cons_zero, List.set_cons_succ]
      refine wpAnyH_take (i := 2) (v := .slice (some ⟨bs, os, none⟩) m.funcs.length df) rfl (by kernel_rfl) (by kernel_rfl) (by kernel_rfl) (fun _ _ _ h => h) (Or.inl ⟨by kernel_rfl, fun W hW => by have x4 := aD hW x4; go_simp⟩) hS ?_
      try simp only [Act.put, List.getElem_toArray, List.getElem_cons_zero, List.getElem_cons_succ, List.setIfInBounds_toArray, List.set_cons_zero, List.set_cons_succ]
      refine wpAnyH_take (i := 3) (v := .int .i64 (k : Int)) rfl (by kernel_rfl) (by kernel_rfl) (by kernel_rfl) (fun _ _ _ h => h) (Or.inl ⟨by kernel_rfl, fun W hW => by go_simp⟩) hS ?_
      try simp only [Act.put, List.getElem_toArray, List.getElem_cons_zero, List.getElem_cons_succ, List.setIfInBounds_toArray, List.set_cons_zero, List.set_cons_succ]
      refine wpAnyH_take (i := 4) (v := .slice (some ⟨bs, os, none⟩) k df) rfl (by kernel_rfl) (by kernel_rfl) (by kernel_rfl) (fun _ _ _ h => h) (Or.inl ⟨by kernel_rfl, fun W hW => by go_simp⟩) hS ?_
      try simp only [Act.put, List.getElem_toArray, List.getElem_cons_zero, List.getElem_cons_succ, List.setIfInBounds_toArray, List.set_cons_zero, List.set_cons_succ]
      refine wpAnyH_take (i := 6) (v := .pointer (some ⟨w.heap.size, 4, none⟩)) rfl (by kernel_rfl) (by kernel_rfl) (by kernel_rfl) (fun _ _ _ h => h) (Or.inl ⟨by kernel_rfl, fun W hW => by go_simp⟩) hS ?_
      try simp only [Act.put, List.getElem_toArray, List.getElem_cons_zero, List.getElem_cons_succ, List.setIfInBounds_toArray, List.set_cons_zero, List.set_cons_succ]
      refine wpAnyH_take (i := 7) (v := .slice (some ⟨bs, os, none⟩) m.funcs.length df) rfl (by kernel_rfl) (by kernel_rfl) (by kernel_rfl) (fun _ _ _ h => h) (Or.inl ⟨by kernel_rfl, fun W hW => by have x4 := aD hW x4; go_simp⟩) hS ?_
      try simp only [Act.put, List.getElem_toArray, List.getElem_cons_zero, List.getElem_cons_succ, List.setIfInBounds_toArray, List.set_cons_zero, List.set_cons_succ]
      refine wpAnyH_take (i := 8) (v := .int .i64 (k : Int)) rfl (by kernel_rfl) (by kernel_rfl) (by kernel_rfl) (fun _ _ _ h => h) (Or.inl ⟨by kernel_rfl, fun W hW => by go_simp⟩) hS ?_
      try simp only [Act.put, List.getElem_toArray, List.getElem_cons_zero, List.getElem_cons_succ, List.setIfInBounds_toArray, List.set_cons_zero, List.set_cons_succ]
      refine wpAnyH_take (i := 9) (v := .int .i64 ((k : Int) + 1)) rfl (by kernel_rfl) (by kernel_rfl) (by kernel_rfl) (fun _ _ _ h => h) (Or.inl ⟨by kernel_rfl, fun W hW => by go_simp⟩) hS ?_
      try simp only [Act.put, List.getElem_toArray, List.getElem_cons_zero, List.getElem_cons_succ, List.setIfInBounds_toArray, List.set_cons_zero, List.set_cons_succ]
      refine wpAnyH_take (i := 10) (v := .slice pa (m.funcs.length - (k + 1)) (df - (k + 1))) rfl (by kernel_rfl) (by kernel_rfl) (by kernel_rfl) (fun _ _ _ h => h) (Or.inl ⟨by kernel_rfl, fun W hW => by go_simp⟩) hS ?_
      try simp only [Act.put, List.getElem_toArray, List.getElem_cons_zero, List.getElem_cons_succ, List.setIfInBounds_toArray, List.set_cons_zero, List.set_cons_succ]
      refine wpAnyH_ready (rs := [0]) (by kernel_rfl) (by simp) ?_
      refine AllReadyH.cons rfl (fun K hK => ?_) AllReadyH.nil
      rw [if_pos (by kernel_rfl)]
      try simp only [List.getElem_toArray, List.getElem_cons_zero, List.getElem_cons_succ]
      go_simp
      have HBe := Lib.hid (aA (Below.refl _ wy).drew (aB wy.drew (.cells #[] 47)))
      refine hK.out _ _ (aA HBy.out HBe.out) (fun hS => ?_)
      clear hK K
      try simp only [Act.put, List.getElem_toArray, List.getElem_cons_zero, List.getElem_cons_succ, List.setIfInBounds_toArray, List.set_cons_zero, List.set_cons_succ]
      have HE1 := Lib.hid (CssOf.src (HCs.out _ (aA HBy.out HBe.out)) (by decide) oneCell_fn (Nat.zero_le k) (Nat.le_of_lt hkl) (some ⟨bs, os, none⟩) (fun _ => by rw [Nat.zero_mul, Nat.add_zero]) df)
      simp only [Nat.sub_zero, List.drop_zero] at HE1
      refine wpAnyH_ready (rs := [5]) (by kernel_rfl) (by simp) ?_
      refine AllReadyH.cons rfl (fun K hK => ?_) AllReadyH.nil
      rw [if_pos (by kernel_rfl)]
      try simp only [List.getElem_toArray, List.getElem_cons_zero, List.getElem_cons_succ]
      refine wp_append_all _ _ 26 rfl wy.heap.size 47 i1 (.agg #[.string ByteArray.empty, .bool false, .slice none 0 0, .int .i64 0, .slice none 0 0, .int .i64 0, .int .i64 0, .int .i64 0, .string ByteArray.empty, .string ByteArray.empty, .slice none 0 0, .slice none 0 0]) 12 184 Tryz.underlying26 hi1 hy0 hy1 hy2 rfl (by omega) (wy.heap.size) (0) (0) ([]) (by rfl) (⟨rfl, .inr ⟨wy.heap.size, 0, #[], rfl, Nat.le_refl _, heap_alloc_new wy.drew _, Nat.le_refl _, by unfold maxLen; omega, rfl, rfl⟩⟩) (.slice (some ⟨bs, os, none⟩) k df) (k) _ (by rfl) (HE1.out) (by unfold maxLen; omega) (by omega) (by simp) ?_
      intro g1 cap1 wf hown1 hgr1 hg1
      have HBf : Hid (Below wy.heap.size wy wf) := Lib.hid (grown_newB HBe.out hgr1 (Nat.le_refl _))
      simp only [Nat.zero_add, List.nil_append, Nat.sub_zero, List.drop_zero] at hown1 ⊢
      refine hK.out _ _ (aA HBy.out HBf.out) (fun hS => ?_)
      clear hK K
      try simp only [Act.put, List.getElem_toArray, List.getElem_cons_zero, List.getElem_cons_succ, List.setIfInBounds_toArray, List.set_cons_zero, List.set_cons_succ]
      have HE2 := Lib.hid (CssOf.src (HCs.out _ (aA HBy.out HBf.out)) (by decide) oneCell_fn (show k + 1 ≤ m.funcs.length from hkl) (Nat.le_refl _) pa (fun h => by rw [← HPa.out, if_neg (by omega)]) (df - (k + 1)))
      refine wpAnyH_ready (rs := [11]) (by kernel_rfl) (by simp) ?_
      refine AllReadyH.cons rfl (fun K hK => ?_) AllReadyH.nil
      rw [if_pos (by kernel_rfl)]
      try simp only [List.getElem_toArray, List.getElem_cons_zero, List.getElem_cons_succ]
      refine wp_append_all _ _ 26 rfl wy.heap.size 47 i1 (.agg #[.string ByteArray.empty, .bool false, .slice none 0 0, .int .i64 0, .slice none 0 0, .int .i64 0, .int .i64 0, .int .i64 0, .string ByteArray.empty, .string ByteArray.empty, .slice none 0 0, .slice none 0 0]) 12 184 Tryz.underlying26 hi1 hy0 hy1 hy2 rfl (by omega) (g1) (k) (cap1) ((css.take k).flatten) (by rfl) (hown1) (.slice pa (m.funcs.length - (k + 1)) (df - (k + 1))) (m.funcs.length - (k + 1)) _ (by rfl) (HE2.out) (by unfold maxLen; omega) (by omega) (HBf.out.size) ?_
      intro g2 cap2 wg hown2 hgr2 hg2
      rw [HTk.out] at hown2
      have HBg : Hid (Below wy.heap.size wy wg) := Lib.hid (grown_newB HBf.out hgr2 (hown1.lt g1 rfl).1)
      refine hK.out _ _ (aA HBy.out HBg.out) (fun hS => ?_)
      clear hK K
      try simp only [Act.put, List.getElem_toArray, List.getElem_cons_zero, List.getElem_cons_succ, List.setIfInBounds_toArray, List.set_cons_zero, List.set_cons_succ]
      refine wpAnyH_take (i := 12) (v := .pointer (some ⟨w3.heap.size, 4, none⟩)) rfl (by kernel_rfl) (by kernel_rfl) (by kernel_rfl) (fun _ _ _ h => h) (Or.inl ⟨by kernel_rfl, fun W hW => by go_simp⟩) hS ?_
      try simp only [Act.put, List.getElem_toArray, List.getElem_cons_zero, List.getElem_cons_succ, List.setIfInBounds_toArray, List.set_cons_zero, List.set_cons_succ]
      obtain ⟨⟨p0, p1, p2, p3, p4, p5, p6, p7, p8⟩, q0, q1, q2, q3, q4, q5, q6, q7, q8⟩ := bx9 (aC HBg.out HPb.out)
      refine wpAnyH_ready (rs := [13]) (by kernel_rfl) (by simp) ?_
      refine AllReadyH.cons rfl (fun K hK => ?_) AllReadyH.nil
      rw [if_pos (by kernel_rfl)]
      try simp only [List.getElem_toArray, List.getElem_cons_zero, List.getElem_cons_succ]
      go_simp
      have HBh : Hid (Below w3.heap.size w3 (wg.setCell ⟨w3.heap.size, 4, none⟩ (.slice (some ⟨g2, 0, none⟩) (k + (m.funcs.length - (k + 1))) cap2))) := Lib.hid ((aA HBy.out HBg.out).setCell (Nat.le_refl _) _)
      have HRl : Hid (aO 12 iU (fun _ => True) (wg.setCell ⟨w3.heap.size, 4, none⟩ (.slice (some ⟨g2, 0, none⟩) (k + (m.funcs.length - (k + 1))) cap2)) (.slice (some ⟨g2, 0, none⟩) (k + (m.funcs.length - (k + 1))) cap2) (lessM m k).funcs) := Lib.hid (CssOf.less bD HCs0.out hkl HBh.out (ownsRow_setCell_below hown2 (a := ⟨w3.heap.size, 4, none⟩) hyz _))
      have HPl : Hid ((wg.setCell ⟨w3.heap.size, 4, none⟩ (.slice (some ⟨g2, 0, none⟩) (k + (m.funcs.length - (k + 1))) cap2)).heap[w3.heap.size]? = some (.cells #[.string m.name, .slice au m.uses.length du, .slice av m.vars.length dv, .slice ai m.init.length di, .slice (some ⟨g2, 0, none⟩) (k + (m.funcs.length - (k + 1))) cap2, .bool m.moves, .slice ao m.old.length do_, .slice aw m.forward.length dw, .slice ab m.back.length db] 30)) := Lib.hid (by have := aC HBg.out HPb.out; simp [World.setCell, Array.getElem?_modify, this])
      refine hK.out _ _ HBh.out (fun hS => ?_)
      clear hK K
      try simp only [Act.put, List.getElem_toArray, List.getElem_cons_zero, List.getElem_cons_succ, List.setIfInBounds_toArray, List.set_cons_zero, List.set_cons_succ]
      refine wpAnyH_done (by kernel_rfl) ?_ _
      clear hS p0 p1 p2 p3 p4 p5 p6 p7 p8 q0 q1 q2 q3 q4 q5 q6 q7 q8 hown1 hgr1 hg1 hown2 hgr2 hg2 HE1 HE2 HBe HBf HBg
      generalize (wg.setCell ⟨w3.heap.size, 4, none⟩ (.slice (some ⟨g2, 0, none⟩) (k + (m.funcs.length - (k + 1))) cap2)) = wh at HBh HRl HPl ⊢
      have HB4 := Lib.hid (aA HB3.out HBh.out)
      have HX4 := Lib.hid (aC HBh.out HX3.out)
      clear x0 x1 x2 x3 x4 x5 x6 x7 x8 hpa
      have hx4 := HX4.out
      obtain ⟨⟨x0, x1, x2, x3, x4, x5, x6, x7, x8⟩, -⟩ := bx9 hx4
      clear hx4
      obtain ⟨⟨l0, l1, l2, l3, l4, l5, l6, l7, l8⟩, -⟩ := bx9 HPl.out
      have HEl : Hid (encM (fun _ => True) wh (lessM m k) [.string m.name, .slice au m.uses.length du, .slice av m.vars.length dv, .slice ai m.init.length di, .slice (some ⟨g2, 0, none⟩) (k + (m.funcs.length - (k + 1))) cap2, .bool m.moves, .slice ao m.old.length do_, .slice aw m.forward.length dw, .slice ab m.back.length db]) := Lib.hid (by
        have hn := HN.out _ HB4.out
        obtain ⟨g3, g4, g5, g6, g7, g8, g9⟩ := dT hn
        exact ⟨_, _, _, _, _, _, _, rfl, (by have h := mW hn; exact h), g3, g4, g5, HRl.out, g7, g8, g9⟩)
      go_wp2_with fail
      refine (oS (lessM m k) _ _ _ (HG.out _ HB4.out) HEl.out).mono ?_
      rw [HT.out]
      rintro e w5 ⟨he, hb5⟩
      obtain rfl : e = .returned (.tuple #[.string t, .int .i64 0]) := he
      clear l0 l1 l2 l3 l4 l5 l6 l7 l8 HEl HRl HPl
      have HB35 := Lib.hid hb5
      have HB5 := Lib.hid (aA HB4.out hb5)
      have HX5 := Lib.hid (aC hb5 HX4.out)
      have hbx := HX5.out
      clear x0 x1 x2 x3 x4 x5 x6 x7 x8 hb5
      obtain ⟨⟨x0, x1, x2, x3, x4, x5, x6, x7, x8⟩, -⟩ := bx9 hbx
      clear hbx
      have HEo : Hid (encM (fun _ => True) w5 (oneM f) [.string ⟨#[109]⟩, .slice none 0 0, .slice none 0 0, .slice none 0 0, .slice (some ⟨bs, os + k * 12, none⟩) 1 (df - k), .bool false, .slice none 0 0, .slice none 0 0, .slice none 0 0]) := Lib.hid (by
        have hb5 : Below w3.heap.size w3 w5 := aA HBh.out (by exact HB35.out)
        exact ⟨_, _, _, _, _, _, _, rfl, (show (oneM f).name.size ≤ 8000 from (by decide : (⟨#[109]⟩ : ByteArray).size ≤ 8000)), aO.nil _ _ _ _, aO.nil _ _ _ _, aO.nil _ _ _ _, CssOf.one bD (HCs.out _ hb5) HF.out (by omega) (by omega), aO.nil _ _ _ _, aO.nil _ _ _ _, aO.nil _ _ _ _⟩)
      have hsl : ((k : Int) + 1).toNat - ((k : Int)).toNat = 1 := by omega
      have hkc4 : ¬ df < k + 1 := by omega
      have hkc5 : ¬ df = k := by omega
      go_wp2_with fail
      refine (oS (oneM f) _ _ _ (HG.out _ HB5.out) HEo.out).mono ?_
      rw [HU.out]
      rintro e w6 ⟨he, hb6⟩
      obtain rfl : e = .returned (.tuple #[.string u, .int .i64 0]) := he
      have HB6 := Lib.hid (aA HB5.out hb6)
      have HX6 := Lib.hid (aC hb6 HX5.out)
      have hbx := HX6.out
      clear x0 x1 x2 x3 x4 x5 x6 x7 x8 hb6
      obtain ⟨⟨x0, x1, x2, x3, x4, x5, x6, x7, x8⟩, -⟩ := bx9 hbx
      clear hbx
      clear x0 x1 x2 x3 x4 x5 x6 x7 x8 hsl hkc hkc2 hkc3 hkc4 hkc5 hw15 ht15 HEo
      have hb1 : ¬ (u.size : Int) < 11 := by omega
      have hb2 : min (11 : Int) (u.size : Int) = 11 := by omega
      have hb3 : ((u.extract 0 11).toList == (⟨#[109, 111, 100, 117, 108, 101, 32, 109, 32, 59, 10]⟩ : ByteArray).toList) = true := by rw [HBeg.out, beq_self_eq_true]
      have hb3' : ((u.extract 0 11).toList != (⟨#[109, 111, 100, 117, 108, 101, 32, 109, 32, 59, 10]⟩ : ByteArray).toList) = false := by rw [bne, hb3]; rfl
      have hb3b : (u.extract 0 11).toList = [109, 111, 100, 117, 108, 101, 32, 109, 32, 59, 10] := by rw [HBeg.out]; first | kernel_rfl | decide | simp
      have hb4 : IntKind.i64.wrap ((t.size : Int) + (u.size : Int)) = (t.size : Int) + (u.size : Int) := by rw [IntKind.wrap_i64]; omega
      have hb5 : IntKind.i64.wrap ((t.size : Int) + (u.size : Int) - 11) = (t.size : Int) + (u.size : Int) - 11 := by rw [IntKind.wrap_i64]; omega
      have hb6 : ((s.size : Int) == (t.size : Int) + (u.size : Int) - 11) = true := by rw [beq_iff_eq]; omega
      have hb6' : ((s.size : Int) != (t.size : Int) + (u.size : Int) - 11) = false := by rw [bne, hb6]; rfl
      go_wp2_with fail
      obtain ⟨row, hrw⟩ : ∃ row, u.extract 11 u.size = row := ⟨_, rfl⟩
      rw [hrw] at HEq
      have hrz : row.size ≤ 8000 := by rw [← hrw, ByteArray.size_extract]; omega
      try rw [hrw]
      clear hrw hb1 hb2 hb3 hb3b hb3' hb4 hb5 hb6 hb6' HBeg HU HT
      go_loopw [15] (fun iv wr => ∃ q : Nat, q ≤ p ∧ iv = .int .i64 (q : Int) ∧ Hid (Below w.heap.size w wr)) (fun iv _ => p - (intOf iv).toNat)
      case atStart => exact ⟨0, Nat.zero_le _, rfl, HB6⟩
      case round =>
        obtain ⟨q, hq, rfl, HW⟩ := hrel
        rename World => wr
        have hq0 : (q : Int) ≤ (t.size : Int) := by omega
        have hq1 : ¬ t.size < q := by omega
        have hz1 : (t.extract 0 q).size ≤ 8000 := by rw [ByteArray.size_extract]; omega
        have hz2 : (t.extract q t.size).size ≤ 8000 := by rw [ByteArray.size_extract]; omega
        have hz3 : (t.extract 0 q ++ row).size ≤ 16000 := by rw [ByteArray.size_append]; omega
        by_cases he : t.extract 0 q ++ row ++ t.extract q t.size = s
        · have hee : ((t.extract 0 q ++ row ++ t.extract q t.size).toList == s.toList) = true := by rw [he]; simp
          clear he
          go_wp2_with fail
          refine wp_region_held_drew (S := fun W => Below wr.heap.size wr W) (by kernel_rfl) (aF wr) fun hS => ?_
          refine wpAnyH_take (i := 0) (v := .string t) rfl (by kernel_rfl) (by kernel_rfl) (by kernel_rfl) (fun _ _ _ h => h) (Or.inl ⟨by kernel_rfl, fun W hW => by go_simp⟩) hS ?_
          try simp only [Act.put, List.getElem_toArray, List.getElem_cons_zero, List.getElem_cons_succ, List.setIfInBounds_toArray, List.set_cons_zero, List.set_cons_succ]
          refine wpAnyH_take (i := 1) (v := .int .i64 (q : Int)) rfl (by kernel_rfl) (by kernel_rfl) (by kernel_rfl) (fun _ _ _ h => h) (Or.inl ⟨by kernel_rfl, fun W hW => by go_simp⟩) hS ?_
          try simp only [Act.put, List.getElem_toArray, List.getElem_cons_zero, List.getElem_cons_succ, List.setIfInBounds_toArray, List.set_cons_zero, List.set_cons_succ]
          refine wpAnyH_take (i := 2) (v := .string (t.extract 0 q)) rfl (by kernel_rfl) (by kernel_rfl) (by kernel_rfl) (fun _ _ _ h => h) (Or.inl ⟨by kernel_rfl, fun W hW => by go_simp⟩) hS ?_
          try simp only [Act.put, List.getElem_toArray, List.getElem_cons_zero, List.getElem_cons_succ, List.setIfInBounds_toArray, List.set_cons_zero, List.set_cons_succ]
          refine wpAnyH_take (i := 3) (v := .string row) rfl (by kernel_rfl) (by kernel_rfl) (by kernel_rfl) (fun _ _ _ h => h) (Or.inl ⟨by kernel_rfl, fun W hW => by go_simp⟩) hS ?_
          try simp only [Act.put, List.getElem_toArray, List.getElem_cons_zero, List.getElem_cons_succ, List.setIfInBounds_toArray, List.set_cons_zero, List.set_cons_succ]
          refine wpAnyH_take (i := 4) (v := .string (t.extract 0 q ++ row)) rfl (by kernel_rfl) (by kernel_rfl) (by kernel_rfl) (fun _ _ _ h => h) (Or.inl ⟨by kernel_rfl, fun W hW => by go_simp <;> omega⟩) hS ?_
          try simp only [Act.put, List.getElem_toArray, List.getElem_cons_zero, List.getElem_cons_succ, List.setIfInBounds_toArray, List.set_cons_zero, List.set_cons_succ]
          refine wpAnyH_take (i := 5) (v := .string t) rfl (by kernel_rfl) (by kernel_rfl) (by kernel_rfl) (fun _ _ _ h => h) (Or.inl ⟨by kernel_rfl, fun W hW => by go_simp⟩) hS ?_
          try simp only [Act.put, List.getElem_toArray, List.getElem_cons_zero, List.getElem_cons_succ, List.setIfInBounds_toArray, List.set_cons_zero, List.set_cons_succ]
          refine wpAnyH_take (i := 6) (v := .int .i64 (q : Int)) rfl (by kernel_rfl) (by kernel_rfl) (by kernel_rfl) (fun _ _ _ h => h) (Or.inl ⟨by kernel_rfl, fun W hW => by go_simp⟩) hS ?_
          try simp only [Act.put, List.getElem_toArray, List.getElem_cons_zero, List.getElem_cons_succ, List.setIfInBounds_toArray, List.set_cons_zero, List.set_cons_succ]
          refine wpAnyH_take (i := 7) (v := .string (t.extract q t.size)) rfl (by kernel_rfl) (by kernel_rfl) (by kernel_rfl) (fun _ _ _ h => h) (Or.inl ⟨by kernel_rfl, fun W hW => by go_simp⟩) hS ?_
          try simp only [Act.put, List.getElem_toArray, List.getElem_cons_zero, List.getElem_cons_succ, List.setIfInBounds_toArray, List.set_cons_zero, List.set_cons_succ]
          refine wpAnyH_take (i := 8) (v := .string (t.extract 0 q ++ row ++ t.extract q t.size)) rfl (by kernel_rfl) (by kernel_rfl) (by kernel_rfl) (fun _ _ _ h => h) (Or.inl ⟨by kernel_rfl, fun W hW => by go_simp <;> omega⟩) hS ?_
          try simp only [Act.put, List.getElem_toArray, List.getElem_cons_zero, List.getElem_cons_succ, List.setIfInBounds_toArray, List.set_cons_zero, List.set_cons_succ]
          refine wpAnyH_take (i := 9) (v := .string s) rfl (by kernel_rfl) (by kernel_rfl) (by kernel_rfl) (fun _ _ _ h => h) (Or.inl ⟨by kernel_rfl, fun W hW => by go_simp⟩) hS ?_
          try simp only [Act.put, List.getElem_toArray, List.getElem_cons_zero, List.getElem_cons_succ, List.setIfInBounds_toArray, List.set_cons_zero, List.set_cons_succ]
          refine wpAnyH_take (i := 10) (v := .bool true) rfl (by kernel_rfl) (by kernel_rfl) (by kernel_rfl) (fun _ _ _ h => h) (Or.inl ⟨by kernel_rfl, fun W hW => by go_simp⟩) hS ?_
          try simp only [Act.put, List.getElem_toArray, List.getElem_cons_zero, List.getElem_cons_succ, List.setIfInBounds_toArray, List.set_cons_zero, List.set_cons_succ]
          refine wpAnyH_done (by kernel_rfl) ?_ _
          go_wp2_with fail
          go_ret
          exact ⟨rfl, HW.out.drew⟩
        · have hne : q ≠ p := fun e => he (by rw [e]; exact HEq.out)
          have hee : ((t.extract 0 q ++ row ++ t.extract q t.size).toList == s.toList) = false := jZ he
          clear he
          go_wp2_with fail
          refine wp_region_held_drew (S := fun W => Below wr.heap.size wr W) (by kernel_rfl) (aF wr) fun hS => ?_
          refine wpAnyH_take (i := 0) (v := .string t) rfl (by kernel_rfl) (by kernel_rfl) (by kernel_rfl) (fun _ _ _ h => h) (Or.inl ⟨by kernel_rfl, fun W hW => by go_simp⟩) hS ?_
          try simp only [Act.put, List.getElem_toArray, List.getElem_cons_zero, List.getElem_cons_succ, List.setIfInBounds_toArray, List.set_cons_zero, List.set_cons_succ]
          refine wpAnyH_take (i := 1) (v := .int .i64 (q : Int)) rfl (by kernel_rfl) (by kernel_rfl) (by kernel_rfl) (fun _ _ _ h => h) (Or.inl ⟨by kernel_rfl, fun W hW => by go_simp⟩) hS ?_
          try simp only [Act.put, List.getElem_toArray, List.getElem_cons_zero, List.getElem_cons_succ, List.setIfInBounds_toArray, List.set_cons_zero, List.set_cons_succ]
          refine wpAnyH_take (i := 2) (v := .string (t.extract 0 q)) rfl (by kernel_rfl) (by kernel_rfl) (by kernel_rfl) (fun _ _ _ h => h) (Or.inl ⟨by kernel_rfl, fun W hW => by go_simp⟩) hS ?_
          try simp only [Act.put, List.getElem_toArray, List.getElem_cons_zero, List.getElem_cons_succ, List.setIfInBounds_toArray, List.set_cons_zero, List.set_cons_succ]
          refine wpAnyH_take (i := 3) (v := .string row) rfl (by kernel_rfl) (by kernel_rfl) (by kernel_rfl) (fun _ _ _ h => h) (Or.inl ⟨by kernel_rfl, fun W hW => by go_simp⟩) hS ?_
          try simp only [Act.put, List.getElem_toArray, List.getElem_cons_zero, List.getElem_cons_succ, List.setIfInBounds_toArray, List.set_cons_zero, List.set_cons_succ]
          refine wpAnyH_take (i := 4) (v := .string (t.extract 0 q ++ row)) rfl (by kernel_rfl) (by kernel_rfl) (by kernel_rfl) (fun _ _ _ h => h) (Or.inl ⟨by kernel_rfl, fun W hW => by go_simp <;> omega⟩) hS ?_
          try simp only [Act.put, List.getElem_toArray, List.getElem_cons_zero, List.getElem_cons_succ, List.setIfInBounds_toArray, List.set_cons_zero, List.set_cons_succ]
          refine wpAnyH_take (i := 5) (v := .string t) rfl (by kernel_rfl) (by kernel_rfl) (by kernel_rfl) (fun _ _ _ h => h) (Or.inl ⟨by kernel_rfl, fun W hW => by go_simp⟩) hS ?_
          try simp only [Act.put, List.getElem_toArray, List.getElem_cons_zero, List.getElem_cons_succ, List.setIfInBounds_toArray, List.set_cons_zero, List.set_cons_succ]
          refine wpAnyH_take (i := 6) (v := .int .i64 (q : Int)) rfl (by kernel_rfl) (by kernel_rfl) (by kernel_rfl) (fun _ _ _ h => h) (Or.inl ⟨by kernel_rfl, fun W hW => by go_simp⟩) hS ?_
          try simp only [Act.put, List.getElem_toArray, List.getElem_cons_zero, List.getElem_cons_succ, List.setIfInBounds_toArray, List.set_cons_zero, List.set_cons_succ]
          refine wpAnyH_take (i := 7) (v := .string (t.extract q t.size)) rfl (by kernel_rfl) (by kernel_rfl) (by kernel_rfl) (fun _ _ _ h => h) (Or.inl ⟨by kernel_rfl, fun W hW => by go_simp⟩) hS ?_
          try simp only [Act.put, List.getElem_toArray, List.getElem_cons_zero, List.getElem_cons_succ, List.setIfInBounds_toArray, List.set_cons_zero, List.set_cons_succ]
          refine wpAnyH_take (i := 8) (v := .string (t.extract 0 q ++ row ++ t.extract q t.size)) rfl (by kernel_rfl) (by kernel_rfl) (by kernel_rfl) (fun _ _ _ h => h) (Or.inl ⟨by kernel_rfl, fun W hW => by go_simp <;> omega⟩) hS ?_
          try simp only [Act.put, List.getElem_toArray, List.getElem_cons_zero, List.getElem_cons_succ, List.setIfInBounds_toArray, List.set_cons_zero, List.set_cons_succ]
          refine wpAnyH_take (i := 9) (v := .string s) rfl (by kernel_rfl) (by kernel_rfl) (by kernel_rfl) (fun _ _ _ h => h) (Or.inl ⟨by kernel_rfl, fun W hW => by go_simp⟩) hS ?_
          try simp only [Act.put, List.getElem_toArray, List.getElem_cons_zero, List.getElem_cons_succ, List.setIfInBounds_toArray, List.set_cons_zero, List.set_cons_succ]
          refine wpAnyH_take (i := 10) (v := .bool false) rfl (by kernel_rfl) (by kernel_rfl) (by kernel_rfl) (fun _ _ _ h => h) (Or.inl ⟨by kernel_rfl, fun W hW => by go_simp⟩) hS ?_
          try simp only [Act.put, List.getElem_toArray, List.getElem_cons_zero, List.getElem_cons_succ, List.setIfInBounds_toArray, List.set_cons_zero, List.set_cons_succ]
          refine wpAnyH_done (by kernel_rfl) ?_ _
          go_wp2_with fail
          go_roundw
          case rel => exact ⟨q + 1, by omega, by go_num, Lib.hid HW.out.drew⟩
          case measure => simp [intOf]; omega
end Go.Proofs.YtiionicikdnnpaaGreatDoor
