/- Walks: advisories about a release; lists and releases that are the same (printed by gen_gdd.py). -/
import Derived.Test.YtmpopphjaggeoaaGreatDoorKAN
import Derived.Test.YtmpopphjaggeoaaGreatDoorLA
import Derived.Test.YtmpopphjaggeoaaGreatDoorLB
namespace Go.Proofs.YtmpopphjaggeoaaGreatDoor
open Go.RowKit Go.Shelf
set_option linter.unusedSimpArgs false
set_option linter.unusedVariables false

theorem range_laterC {w w' : World} {b o : Nat} {cs : List Value} (hb : Below w.heap.size w w') (h : w.rangeAt b o cs) : w'.rangeAt b o cs := fun j u hu => aD hb (h j u hu)
theorem below_dQC {B : Nat} {a b : World} (h : Below B a b) (n : Nat) : Below B a (b.drewN n) := ⟨h.os, h.tape, h.output, h.size, h.block⟩
theorem advFrom_take {l : List Fc} {s : ByteArray} {v : Ver} {q : Nat} {f : Fc} (hf : l[q]? = some f) : advFrom s v 0 (l.take (q + 1)) = advFrom s v 0 (l.take q) ++ (if isAdv s v f then [(q : Int)] else []) := by
  rw [List.take_add_one, hf]
  show advFrom s v 0 (l.take q ++ [f]) = _
  rw [advFrom_app]
  have hq := (List.getElem?_eq_some_iff.1 hf).1
  have e : 0 + (l.take q).length = q := by rw [List.length_take]; omega
  rw [e]
  simp only [advFrom]
theorem advFrom_len (s : ByteArray) (v : Ver) : ∀ (l : List Fc) (i : Nat), (advFrom s v i l).length ≤ l.length
  | [], _ => Nat.le_refl _
  | f :: r, i => by
    have ih := advFrom_len s v r (i + 1)
    unfold advFrom
    split
    · simp only [List.length_cons]; omega
    · simp only [List.length_cons]; omega
structure AdvQ (l : List Fc) (s : ByteArray) (v : Ver) (w : World) (e : Ending) (w' : World) : Prop where
  below : Below w.heap.size w w'
  val : ∃ (N : Nat → Prop) (u : Value), e = .returned u ∧ aK 1 cQ N w' u (advicesF l s v)
set_option maxRecDepth 100000 in
set_option maxHeartbeats 64000000 in
theorem advices_any (l : List Fc) (s : ByteArray) (v : Ver) {N : Nat → Prop} {vl : Value} (w : World) (hl : aK 29 encFc N w vl l) (hlen : l.length ≤ 1000000) :
    Calls Tryz.prog 25 #[vl, .string s, .agg #[.int .i64 v.a, .int .i64 v.b, .int .i64 v.c]] w fun e w' => AdvQ l s v w e w' := by
  obtain ⟨i0, hi0, hz0, hz1, hz2⟩ := info_parts intInfo
  obtain ⟨al, cl, rfl, la1, la2, HA0⟩ := hl.at
  have HA := Lib.hid HA0
  have HRl : Hid (∀ q, (advFrom s v 0 (l.take q)).length ≤ 1000000) := Lib.hid (fun q => Nat.le_trans (advFrom_len s v (l.take q) 0) (by rw [List.length_take]; omega))
  clear HA0 hl
  have HB1 := Lib.hid (aB w (.cells #[.int .i64 v.a, .int .i64 v.b, .int .i64 v.c] 23))
  have HV0 := Lib.hid (heap_alloc_new w (.cells #[.int .i64 v.a, .int .i64 v.b, .int .i64 v.c] 23))
  go_enter Tryz.func25, Tryz.ntmps25
  go_upto_region 1 with (fail)
  generalize w.alloc (.cells #[.int .i64 v.a, .int .i64 v.b, .int .i64 v.c] 23) = W0 at *
  go_wp2_with fail
  go_loopw [7, 12] (fun ov iv wr => ∃ (q : Nat) (out : List Int) (css : List (List Value)), q ≤ l.length ∧ iv = .int .i64 (q : Int) ∧ Hid (Below W0.heap.size W0 wr) ∧ Hid (out = advFrom s v 0 (l.take q)) ∧ Hid (Gro 1 3 cQ W0.heap.size out css ov wr)) (fun _ iv _ => l.length - (intOf iv).toNat)
  case atStart => exact ⟨0, [], [], Nat.zero_le _, rfl, Lib.hid (Below.refl _ _), Lib.hid rfl, Lib.hid (Gro.first _ _ _ _)⟩
  case round =>
    obtain ⟨q, out, css, hq, rfl, HW, HO, HG⟩ := hrel
    rename World => wr
    by_cases hlt : q < l.length
    · obtain ⟨f, hf, -⟩ := getElem?_of_lt hlt
      obtain ⟨b, o, rfl, -, cs, ⟨p, rfl, hv⟩, -, hj⟩ := HA.out q f hf
      have hq0 : (0 : Int) ≤ (q : Int) ∧ (q : Int) < (l.length : Int) := by omega
      have HWw := Lib.hid (aA HB1.out HW.out)
      obtain ⟨A, HAc⟩ : ∃ c : Array Value, Hid (c = (fcC f p).toArray) := ⟨_, Lib.hid rfl⟩
      have HZA : Hid (A.size = 29) := Lib.hid (by rw [HAc.out]; rfl)
      have HOA : Hid (A.all (fun x => x.oneCell') = true) := Lib.hid (by rw [HAc.out]; exact gZ hv)
      have HRg : Hid (wr.rangeAt b (o + q * 29) (fcC f p)) := Lib.hid (fun j u hu => aD HWw.out (hj j u hu))
      have HNew := Lib.hid (heap_alloc_new wr (.cells aI 37))
      have HB3 : Hid (Below wr.heap.size wr ((wr.alloc (.cells aI 37)).setRow wr.heap.size A)) := Lib.hid (below_setRow (aB wr _) (Nat.le_refl _) _)
      have HXF : Hid (((wr.alloc (.cells aI 37)).setRow wr.heap.size A).heap[wr.heap.size]? = some (.cells A 37)) := Lib.hid (setRow_heap _ _ _ _ _ _ HNew.out)
      have HQ0 : Hid (A[0]? = some (.int .i64 f.kind)) := Lib.hid (by rw [HAc.out]; rfl)
      have HQ15 : Hid (A[15]? = some (.string f.adv.name)) := Lib.hid (by rw [HAc.out]; rfl)
      have HQ16 : Hid (A[16]? = some p.vr) := Lib.hid (by rw [HAc.out]; rfl)
      have HTk := Lib.hid (advFrom_take (s := s) (v := v) hf)
      have HIs : Hid (isAdv s v f = (decide (f.kind = 3) && decide (f.adv.name = s) && hasV f.adv.ranges v)) := Lib.hid rfl
      have HG3 := Lib.hid (HG.out.later bH HB3.out)
      have HBw := Lib.hid (aA HW.out HB3.out)
      have HHas : Hid (∀ W, Below w.heap.size w W → Calls Tryz.prog 64 #[p.vr, .agg #[.int .i64 v.a, .int .i64 v.b, .int .i64 v.c]] W fun e w' => e = .returned (.bool (hasV f.adv.ranges v)) ∧ Below W.heap.size W w') := Lib.hid (fun W hW => hasV_any f.adv.ranges v (hv.adv.ranges.moves aS (aM.later hW) (by decide)))
      have HBww := Lib.hid (aA HB1.out HBw.out)
      have HV3 := Lib.hid (aC HBw.out HV0.out)
      have hol := HRl.out q
      rw [← HO.out] at hol
      clear hj hv hf
      go_upto_region 5 with (first | (refine loadFM (x := .tmp 15) rfl (by kernel_rfl) b (o + q * 29) rfl (fcC f p) A HAc.out HRg.out rfl ?_) | (refine Go.Great.wpList_allocTo rfl (some 9) rfl (.pointer (some ⟨wr.heap.size, 0, none⟩)) (.cells aI 37) ?ha ?_; (case ha => exact eM rfl _ _ rfl)) | (refine wpList_store_rowTo rfl 37 (.tmp 9) (.tmp 16) rfl rfl wr.heap.size A rfl rfl 37 aI ?hg (by rw [HZA.out]; kernel_rfl) (by rw [HZA.out]; rfl) HOA.out ?_; (case hg => exact HNew.out)))
      try simp only [Act.put, List.getElem_toArray, List.getElem_cons_zero, List.getElem_cons_succ, List.setIfInBounds_toArray, List.set_cons_zero, List.set_cons_succ]
      clear HNew HRg HG HB3 HW
      generalize ((wr.alloc (.cells aI 37)).setRow wr.heap.size A) = W3 at *
      have x0 := cfA HXF.out HQ0.out
      have x15 := cfA HXF.out HQ15.out
      have x16 := cfA HXF.out HQ16.out
      obtain ⟨⟨z0, z1, z2⟩, -⟩ := bx3 HV3.out
      generalize hasV f.adv.ranges v = hs at *
      generalize isAdv s v f = ia at *
      generalize p.vr = vr at *
      generalize hk9 : f.kind = k at *
      generalize hn9 : f.adv.name = nm at *
      clear hk9 hn9
      by_cases h1 : k = 3
      · subst h1
        by_cases h3 : nm = s
        · have g3 : (nm.toList == s.toList) = true := by rw [h3]; simp
          have HN3 := Lib.hid h3
          clear h3
          go_wp2_with fail
          go_at_call 64
          refine (HHas.out _ HBww.out).mono ?_
          rintro e w9 ⟨rfl, hb⟩
          clear x0 x15 x16 z0 z1 z2
          cases hs with
          | true =>
            have HB9 := Lib.hid (aA HBw.out hb)
            have HG9 := Lib.hid (HG3.out.later bH hb)
            have HO2 : Hid (out ++ [(q : Int)] = advFrom s v 0 (l.take (q + 1))) := Lib.hid (by rw [HTk.out, HIs.out, HO.out, decide_eq_true HN3.out]; simp)
            have HG4 := Lib.hid (HG9.out.later bH (aB w9 (.cells #[.int .i64 (q : Int)] 3)))
            have hbig := HG4.out.big
            go_wp2_with (at_builtin; refine wpList_append_lies _ rfl _ _ 35 rfl W0.heap.size 3 i0 (.int .i64 0) 1 8 Tryz.underlying35 hi0 hz0 hz1 hz2 rfl (by omega) _ out.length css.flatten (by rfl) HG4.out.own ⟨w9.heap.size, 0, none⟩ 1 1 [.int .i64 (q : Int)] (by rfl) rfl (World.news_of_block (cs := #[.int .i64 (q : Int)]) (t := 3) (fr := (0, 0)) (heap_alloc_new w9 _)) (by simp [Value.oneCell']) (by omega) (by unfold maxLen; omega) (by omega) hbig (w9.heap.size + 1) (by simp) ?_)
            intro g cap w6 hown hgrow hat _
            have HNw := Lib.hid (HG4.out.added bH (x := (q : Int)) rfl rfl hown hgrow (by simpa using hat))
            have HW6 := Lib.hid (gD (aA HB9.out (aB w9 (.cells #[.int .i64 (q : Int)] 3))) hgrow (fun b hb => (HG4.out.lt b hb).1))
            clear hown hgrow hat HG3 HG4 HG9
            go_wp2_with fail
            go_roundw
            case rel => exact ⟨q + 1, out ++ [(q : Int)], css ++ [[.int .i64 (q : Int)]], by omega, by go_num, HW6, HO2, HNw⟩
            case measure => simp [intOf] <;> omega
          | false =>
            have HB9 := Lib.hid (aA HBw.out hb)
            have HG9 := Lib.hid (HG3.out.later bH hb)
            have HO2 : Hid (out = advFrom s v 0 (l.take (q + 1))) := Lib.hid (by rw [HTk.out, HIs.out, decide_eq_true HN3.out]; simp; exact HO.out)
            go_wp2_with fail
            go_roundw
            case rel => exact ⟨q + 1, out, css, by omega, by go_num, HB9, HO2, HG9⟩
            case measure => simp [intOf] <;> omega
        · have g3 : (nm.toList == s.toList) = false := cO h3
          have HO2 : Hid (out = advFrom s v 0 (l.take (q + 1))) := Lib.hid (by rw [HTk.out, HIs.out, decide_eq_false h3]; simp; exact HO.out)
          go_wp2_with fail
          go_roundw
          case rel => exact ⟨q + 1, out, css, by omega, by go_num, HBw, HO2, HG3⟩
          case measure => simp [intOf] <;> omega
      · have g1 : (k == 3) = false := beq_eq_false_iff_ne.2 h1
        have HO2 : Hid (out = advFrom s v 0 (l.take (q + 1))) := Lib.hid (by rw [HTk.out, HIs.out, decide_eq_false h1]; simp; exact HO.out)
        go_wp2_with fail
        go_roundw
        case rel => exact ⟨q + 1, out, css, by omega, by go_num, HBw, HO2, HG3⟩
        case measure => simp [intOf] <;> omega
    · have hO : out = advicesF l s v := by rw [HO.out, List.take_of_length_le (by omega)]; rfl
      have HWw := Lib.hid (aA HB1.out HW.out)
      have HRow := HG.out.row bH
      rw [hO] at HRow
      have HRow2 := Lib.hid HRow
      clear hO HRow
      go_wp2_with fail
      go_ret
      exact ⟨HWw.out, _, _, rfl, HRow2.out⟩
set_option maxRecDepth 100000 in
set_option maxHeartbeats 16000000 in
theorem sameNums_true (l : List Int) {N N' : Nat → Prop} {va vb : Value} (w : World) (ha : aK 1 cQ N w va l) (hb : aK 1 cQ N' w vb l) :
    Calls Tryz.prog 26 #[va, vb] w fun e w' => e = .returned (.bool true) ∧ Below w.heap.size w w' := by
  obtain ⟨a1, c1, rfl, la1, la2, HA0⟩ := ha.at
  obtain ⟨a2, c2, rfl, -, -, HB0⟩ := hb.at
  have HA := Lib.hid HA0
  have HB := Lib.hid HB0
  clear HA0 HB0 ha hb
  go_enter Tryz.func26, Tryz.ntmps26
  go_wp2_with fail
  go_loopw [5] (fun iv wr => ∃ q : Nat, q ≤ l.length ∧ iv = .int .i64 (q : Int) ∧ Hid (Below w.heap.size w wr)) (fun iv _ => l.length - (intOf iv).toNat)
  case atStart => exact ⟨0, Nat.zero_le _, rfl, Lib.hid (Below.refl _ _)⟩
  case round =>
    obtain ⟨q, hq, rfl, HW⟩ := hrel
    rename World => wr
    by_cases hlt : q < l.length
    · obtain ⟨x, hx, -⟩ := getElem?_of_lt hlt
      have hq0 : (0 : Int) ≤ (q : Int) ∧ (q : Int) < (l.length : Int) := by omega
      obtain ⟨b1, o1, rfl, -, cs, e1, -, j1⟩ := HA.out q x hx
      obtain rfl : cs = [.int .i64 x] := e1
      have y1 : wr.cell? ⟨b1, o1 + q, none⟩ = some (.int .i64 x) := by have h9 := aD HW.out (j1 0 _ rfl); simpa using h9
      obtain ⟨b2, o2, rfl, -, cs, e2, -, j2⟩ := HB.out q x hx
      obtain rfl : cs = [.int .i64 x] := e2
      have y2 : wr.cell? ⟨b2, o2 + q, none⟩ = some (.int .i64 x) := by have h9 := aD HW.out (j2 0 _ rfl); simpa using h9
      have hxx : (x != x) = false := by simp
      clear hx j1 j2
      go_wp2_with fail
      go_quiet (fail)
      have HB1 := Lib.hid (aA HW.out (below_dQC (Below.refl wr.heap.size wr) nq))
      go_wp2_with fail
      go_roundw
      case rel => exact ⟨q + 1, by omega, by go_num, HB1⟩
      case measure => simp [intOf] <;> omega
    · go_wp2_with fail
      go_ret
      exact ⟨rfl, HW.out⟩
set_option maxRecDepth 100000 in
set_option maxHeartbeats 16000000 in
theorem sameTexts_true (l : List ByteArray) {N N' : Nat → Prop} {va vb : Value} (w : World) (ha : aK 1 cD N w va l) (hb : aK 1 cD N' w vb l) :
    Calls Tryz.prog 62 #[va, vb] w fun e w' => e = .returned (.bool true) ∧ Below w.heap.size w w' := by
  obtain ⟨a1, c1, rfl, la1, la2, HA0⟩ := ha.at
  obtain ⟨a2, c2, rfl, -, -, HB0⟩ := hb.at
  have HA := Lib.hid HA0
  have HB := Lib.hid HB0
  clear HA0 HB0 ha hb
  go_enter Tryz.func62, Tryz.ntmps62
  go_wp2_with fail
  go_loopw [5] (fun iv wr => ∃ q : Nat, q ≤ l.length ∧ iv = .int .i64 (q : Int) ∧ Hid (Below w.heap.size w wr)) (fun iv _ => l.length - (intOf iv).toNat)
  case atStart => exact ⟨0, Nat.zero_le _, rfl, Lib.hid (Below.refl _ _)⟩
  case round =>
    obtain ⟨q, hq, rfl, HW⟩ := hrel
    rename World => wr
    by_cases hlt : q < l.length
    · obtain ⟨x, hx, -⟩ := getElem?_of_lt hlt
      have hq0 : (0 : Int) ≤ (q : Int) ∧ (q : Int) < (l.length : Int) := by omega
      obtain ⟨b1, o1, rfl, -, cs, e1, -, j1⟩ := HA.out q x hx
      obtain ⟨rfl, -⟩ := e1
      have y1 : wr.cell? ⟨b1, o1 + q, none⟩ = some (.string x) := by have h9 := aD HW.out (j1 0 _ rfl); simpa using h9
      obtain ⟨b2, o2, rfl, -, cs, e2, -, j2⟩ := HB.out q x hx
      obtain ⟨rfl, -⟩ := e2
      have y2 : wr.cell? ⟨b2, o2 + q, none⟩ = some (.string x) := by have h9 := aD HW.out (j2 0 _ rfl); simpa using h9
      have hxx : (x.toList == x.toList) = true := by simp
      clear hx j1 j2
      go_wp2_with fail
      go_quiet (fail)
      have HB1 := Lib.hid (aA HW.out (below_dQC (Below.refl wr.heap.size wr) nq))
      go_wp2_with fail
      go_roundw
      case rel => exact ⟨q + 1, by omega, by go_num, HB1⟩
      case measure => simp [intOf] <;> omega
    · go_wp2_with fail
      go_ret
      exact ⟨rfl, HW.out⟩
theorem neqRng_run (x : Rng) (w : World) : (binOp .neq 115 (.agg #[.int .i64 x.lo.a, .int .i64 x.lo.b, .int .i64 x.lo.c, .int .i64 x.hi.a, .int .i64 x.hi.b, .int .i64 x.hi.c]) (.agg #[.int .i64 x.lo.a, .int .i64 x.lo.b, .int .i64 x.lo.c, .int .i64 x.hi.a, .int .i64 x.hi.b, .int .i64 x.hi.c])).run Tryz.prog w = .ok (.bool false) w := by
  have h := neqRng.1 x x w
  dsimp only at h
  rw [decide_eq_true (rfl : x = x)] at h
  exact h
set_option maxRecDepth 100000 in
set_option maxHeartbeats 16000000 in
theorem sameRanges_true (l : List Rng) {N N' : Nat → Prop} {va vb : Value} (w : World) (ha : aK 6 aW N w va l) (hb : aK 6 aW N' w vb l) :
    Calls Tryz.prog 54 #[va, vb] w fun e w' => e = .returned (.bool true) ∧ Below w.heap.size w w' := by
  obtain ⟨a1, c1, rfl, la1, la2, HA0⟩ := ha.at
  obtain ⟨a2, c2, rfl, -, -, HB0⟩ := hb.at
  have HA := Lib.hid HA0
  have HB := Lib.hid HB0
  clear HA0 HB0 ha hb
  go_enter Tryz.func54, Tryz.ntmps54
  go_wp2_with fail
  go_loopw [5] (fun iv wr => ∃ q : Nat, q ≤ l.length ∧ iv = .int .i64 (q : Int) ∧ Hid (Below w.heap.size w wr)) (fun iv _ => l.length - (intOf iv).toNat)
  case atStart => exact ⟨0, Nat.zero_le _, rfl, Lib.hid (Below.refl _ _)⟩
  case round =>
    obtain ⟨q, hq, rfl, HW⟩ := hrel
    rename World => wr
    by_cases hlt : q < l.length
    · obtain ⟨x, hx, -⟩ := getElem?_of_lt hlt
      have hq0 : (0 : Int) ≤ (q : Int) ∧ (q : Int) < (l.length : Int) := by omega
      obtain ⟨b1, o1, rfl, -, cs, e1, -, j1⟩ := HA.out q x hx
      obtain rfl : cs = eD x := e1
      have R1 : Hid (wr.rangeAt b1 (o1 + q * 6) (eD x)) := Lib.hid (fun j u hu => aD HW.out (j1 j u hu))
      obtain ⟨b2, o2, rfl, -, cs, e2, -, j2⟩ := HB.out q x hx
      obtain rfl : cs = eD x := e2
      have R2 : Hid (wr.rangeAt b2 (o2 + q * 6) (eD x)) := Lib.hid (fun j u hu => aD HW.out (j2 j u hu))
      have hneq := fun W => neqRng_run x W
      clear hx j1 j2
      go_wp2_with fail
      refine wp_region_held_drew (S := fun W => Below wr.heap.size wr W) (by kernel_rfl) (aL wr) fun hS => ?_
      refine wpAnyH_take (i := 0) (v := .slice (some ⟨b1, o1, none⟩) l.length c1) rfl (by kernel_rfl) (by kernel_rfl) (by kernel_rfl) (fun _ _ _ h => h) (Or.inl ⟨by kernel_rfl, fun W hW => by go_simp⟩) hS ?_
      try simp only [Act.put, List.getElem_toArray, List.getElem_cons_zero, List.getElem_cons_succ, List.setIfInBounds_toArray, List.set_cons_zero, List.set_cons_succ]
      refine wpAnyH_take (i := 1) (v := .int .i64 (q : Int)) rfl (by kernel_rfl) (by kernel_rfl) (by kernel_rfl) (fun _ _ _ h => h) (Or.inl ⟨by kernel_rfl, fun W hW => by go_simp⟩) hS ?_
      try simp only [Act.put, List.getElem_toArray, List.getElem_cons_zero, List.getElem_cons_succ, List.setIfInBounds_toArray, List.set_cons_zero, List.set_cons_succ]
      refine wpAnyH_take (i := 2) (v := .pointer (some ⟨b1, o1 + q * 6, none⟩)) rfl (by kernel_rfl) (by kernel_rfl) (by kernel_rfl) (fun _ _ _ h => h) (Or.inl ⟨by kernel_rfl, fun W hW => by go_simp⟩) hS ?_
      try simp only [Act.put, List.getElem_toArray, List.getElem_cons_zero, List.getElem_cons_succ, List.setIfInBounds_toArray, List.set_cons_zero, List.set_cons_succ]
      refine wpAnyH_take (i := 3) (v := .agg #[.int .i64 x.lo.a, .int .i64 x.lo.b, .int .i64 x.lo.c, .int .i64 x.hi.a, .int .i64 x.hi.b, .int .i64 x.hi.c]) rfl (by kernel_rfl) (by kernel_rfl) (by kernel_rfl) (fun _ _ _ h => h) (yieldsIf_load_mid (by kernel_rfl) 115 (.tmp 19) rfl b1 (o1 + q * 6) rfl (eD x) _ (fun W hW => range_laterC hW R1.out) Tryz.underlying115 rfl (by kernel_rfl)) hS ?_
      try simp only [Act.put, List.getElem_toArray, List.getElem_cons_zero, List.getElem_cons_succ, List.setIfInBounds_toArray, List.set_cons_zero, List.set_cons_succ]
      refine wpAnyH_take (i := 4) (v := .slice (some ⟨b2, o2, none⟩) l.length c2) rfl (by kernel_rfl) (by kernel_rfl) (by kernel_rfl) (fun _ _ _ h => h) (Or.inl ⟨by kernel_rfl, fun W hW => by go_simp⟩) hS ?_
      try simp only [Act.put, List.getElem_toArray, List.getElem_cons_zero, List.getElem_cons_succ, List.setIfInBounds_toArray, List.set_cons_zero, List.set_cons_succ]
      refine wpAnyH_take (i := 5) (v := .int .i64 (q : Int)) rfl (by kernel_rfl) (by kernel_rfl) (by kernel_rfl) (fun _ _ _ h => h) (Or.inl ⟨by kernel_rfl, fun W hW => by go_simp⟩) hS ?_
      try simp only [Act.put, List.getElem_toArray, List.getElem_cons_zero, List.getElem_cons_succ, List.setIfInBounds_toArray, List.set_cons_zero, List.set_cons_succ]
      refine wpAnyH_take (i := 6) (v := .pointer (some ⟨b2, o2 + q * 6, none⟩)) rfl (by kernel_rfl) (by kernel_rfl) (by kernel_rfl) (fun _ _ _ h => h) (Or.inl ⟨by kernel_rfl, fun W hW => by go_simp⟩) hS ?_
      try simp only [Act.put, List.getElem_toArray, List.getElem_cons_zero, List.getElem_cons_succ, List.setIfInBounds_toArray, List.set_cons_zero, List.set_cons_succ]
      refine wpAnyH_take (i := 7) (v := .agg #[.int .i64 x.lo.a, .int .i64 x.lo.b, .int .i64 x.lo.c, .int .i64 x.hi.a, .int .i64 x.hi.b, .int .i64 x.hi.c]) rfl (by kernel_rfl) (by kernel_rfl) (by kernel_rfl) (fun _ _ _ h => h) (yieldsIf_load_mid (by kernel_rfl) 115 (.tmp 23) rfl b2 (o2 + q * 6) rfl (eD x) _ (fun W hW => range_laterC hW R2.out) Tryz.underlying115 rfl (by kernel_rfl)) hS ?_
      try simp only [Act.put, List.getElem_toArray, List.getElem_cons_zero, List.getElem_cons_succ, List.setIfInBounds_toArray, List.set_cons_zero, List.set_cons_succ]
      refine wpAnyH_take (i := 8) (v := .bool false) rfl (by kernel_rfl) (by kernel_rfl) (by kernel_rfl) (fun _ _ _ h => h) (Or.inl ⟨by kernel_rfl, fun W hW => by go_simp⟩) hS ?_
      try simp only [Act.put, List.getElem_toArray, List.getElem_cons_zero, List.getElem_cons_succ, List.setIfInBounds_toArray, List.set_cons_zero, List.set_cons_succ]
      refine wpAnyH_done (by kernel_rfl) ?_ _
      have HB1 := Lib.hid (aA HW.out (aL wr))
      clear hS hneq R1 R2
      generalize wr.drew = w8 at *
      go_wp2_with fail
      go_roundw
      case rel => exact ⟨q + 1, by omega, by go_num, HB1⟩
      case measure => simp [intOf] <;> omega
    · go_wp2_with fail
      go_ret
      exact ⟨rfl, HW.out⟩
end Go.Proofs.YtmpopphjaggeoaaGreatDoor

/- Walk: fact.Releases, whole (printed by gen_gde.py). -/
namespace Go.Proofs.YtmpopphjaggeoaaGreatDoor
open Go.RowKit Go.Shelf Go.Lib Go.Sort
set_option linter.unusedSimpArgs false
set_option linter.unusedVariables false

theorem dedup_short {l : List Ver} (h : l.length < 2) : dedupV l = l := by
  match l, h with
  | [], _ => rfl
  | [_], _ => rfl
  | _ :: _ :: _, h => simp at h; omega
theorem rowH_row {w : World} {g cap : Nat} {l : List Ver} (h : RowH verC 3 w g 0 l) (hc : l.length ≤ cap) (hc2 : cap ≤ 9223372036854775807) : aK 3 encVer (fun _ => True) w (.slice (some ⟨g, 0, none⟩) l.length cap) l :=
  ⟨_, _, rfl, hc, hc2, fun _ => ⟨g, 0, rfl, trivial, fun i x hx => ⟨verC x, rfl, rfl, fun j u hu => by
    have h9 := (h i x hx j u hu).1
    rw [Nat.add_assoc]; exact h9⟩⟩⟩
structure RelAQ (l : List Fc) (s : ByteArray) (w : World) (e : Ending) (w' : World) : Prop where
  below : Below w.heap.size w w'
  val : ∃ (N : Nat → Prop) (a : Option Addr) (c : Nat), e = .returned (.slice a (releasesF l s).length c) ∧ aK 3 encVer N w' (.slice a (releasesF l s).length c) (releasesF l s)
set_option maxRecDepth 100000 in
set_option maxHeartbeats 64000000 in
theorem releasesAll_any (l : List Fc) (s : ByteArray) {N : Nat → Prop} {vl : Value} (w : World) (hl : aK 29 encFc N w vl l) (hlen : l.length ≤ 1000000) :
    Calls Tryz.prog 19 #[vl, .string s] w fun e w' => RelAQ l s w e w' := by
  obtain ⟨i0, hi0, hz0, hz1, hz2⟩ := info_parts verInfo
  obtain ⟨al, cl, rfl, la1, la2, HA0⟩ := hl.at
  have HA := Lib.hid HA0
  have HRl : Hid (∀ q, (dG (l.take q) s).length ≤ 1000000) := Lib.hid (fun q => Nat.le_trans (relVers_len (l.take q) s) (by rw [List.length_take]; omega))
  clear HA0 hl
  go_enter Tryz.func19, Tryz.ntmps19
  go_wp2_with fail
  go_loopw [5, 10] (fun ov iv wr => ∃ (q : Nat) (out : List Ver) (css : List (List Value)), q ≤ l.length ∧ iv = .int .i64 (q : Int) ∧ Hid (Below w.heap.size w wr) ∧ Hid (out = dG (l.take q) s) ∧ Hid (Gro 3 23 encVer w.heap.size out css ov wr)) (fun _ iv _ => l.length - (intOf iv).toNat)
  case atStart => exact ⟨0, [], [], Nat.zero_le _, rfl, Lib.hid (Below.refl _ _), Lib.hid rfl, Lib.hid (Gro.first _ _ _ _)⟩
  case round =>
    obtain ⟨q, out, css, hq, rfl, HW, HO, HG⟩ := hrel
    rename World => wr
    by_cases hlt : q < l.length
    · obtain ⟨f, hf, -⟩ := getElem?_of_lt hlt
      obtain ⟨b, o, rfl, -, cs, ⟨p, rfl, hv⟩, -, hj⟩ := HA.out q f hf
      have hq0 : (0 : Int) ≤ (q : Int) ∧ (q : Int) < (l.length : Int) := by omega
      obtain ⟨A, HAc⟩ : ∃ c : Array Value, Hid (c = (fcC f p).toArray) := ⟨_, Lib.hid rfl⟩
      have HZA : Hid (A.size = 29) := Lib.hid (by rw [HAc.out]; rfl)
      have HOA : Hid (A.all (fun x => x.oneCell') = true) := Lib.hid (by rw [HAc.out]; exact gZ hv)
      have HRg : Hid (wr.rangeAt b (o + q * 29) (fcC f p)) := Lib.hid (fun j u hu => aD HW.out (hj j u hu))
      have HNew := Lib.hid (heap_alloc_new wr (.cells aI 37))
      have HB3 : Hid (Below wr.heap.size wr ((wr.alloc (.cells aI 37)).setRow wr.heap.size A)) := Lib.hid (below_setRow (aB wr _) (Nat.le_refl _) _)
      have HXF : Hid (((wr.alloc (.cells aI 37)).setRow wr.heap.size A).heap[wr.heap.size]? = some (.cells A 37)) := Lib.hid (setRow_heap _ _ _ _ _ _ HNew.out)
      have HQ0 : Hid (A[0]? = some (.int .i64 f.kind)) := Lib.hid (by rw [HAc.out]; rfl)
      have HQ5 : Hid (A[5]? = some (.string f.rel.name)) := Lib.hid (by rw [HAc.out]; rfl)
      have HQ6 : Hid (A[6]? = some (.int .i64 f.rel.ver.a)) := Lib.hid (by rw [HAc.out]; rfl)
      have HQ7 : Hid (A[7]? = some (.int .i64 f.rel.ver.b)) := Lib.hid (by rw [HAc.out]; rfl)
      have HQ8 : Hid (A[8]? = some (.int .i64 f.rel.ver.c)) := Lib.hid (by rw [HAc.out]; rfl)
      have HTk := Lib.hid (relVers_take (s := s) hf)
      have HG3 := Lib.hid (HG.out.later encVer_ok HB3.out)
      have HBw := Lib.hid (aA HW.out HB3.out)
      have hol := HRl.out q
      rw [← HO.out] at hol
      clear hj hv hf
      go_upto_region 5 with (first | (refine loadFM (x := .tmp 12) rfl (by kernel_rfl) b (o + q * 29) rfl (fcC f p) A HAc.out HRg.out rfl ?_) | (refine Go.Great.wpList_allocTo rfl (some 7) rfl (.pointer (some ⟨wr.heap.size, 0, none⟩)) (.cells aI 37) ?ha ?_; (case ha => exact eM rfl _ _ rfl)) | (refine wpList_store_rowTo rfl 37 (.tmp 7) (.tmp 13) rfl rfl wr.heap.size A rfl rfl 37 aI ?hg (by rw [HZA.out]; kernel_rfl) (by rw [HZA.out]; rfl) HOA.out ?_; (case hg => exact HNew.out)))
      try simp only [Act.put, List.getElem_toArray, List.getElem_cons_zero, List.getElem_cons_succ, List.setIfInBounds_toArray, List.set_cons_zero, List.set_cons_succ]
      clear HNew HRg HG HB3 HW
      generalize ((wr.alloc (.cells aI 37)).setRow wr.heap.size A) = W3 at *
      have x0 := cfA HXF.out HQ0.out
      have x5 := cfA HXF.out HQ5.out
      have x6 := cfA HXF.out HQ6.out
      have x7 := cfA HXF.out HQ7.out
      have x8 := cfA HXF.out HQ8.out
      generalize hk9 : f.kind = k at *
      generalize hn9 : f.rel.name = nm at *
      generalize hv9 : f.rel.ver = vf at *
      clear hk9 hn9 hv9
      by_cases h1 : k = 0
      · subst h1
        by_cases h3 : nm = s
        · subst h3
          have HO2 : Hid (out ++ [vf] = dG (l.take (q + 1)) nm) := Lib.hid (by rw [HTk.out, if_pos ⟨rfl, rfl⟩, HO.out])
          have HG4 := Lib.hid (HG3.out.later encVer_ok (aB W3 (.cells #[.int .i64 vf.a, .int .i64 vf.b, .int .i64 vf.c] 23)))
          have hbig := HG4.out.big
          go_wp2_with (at_builtin; refine wpList_append_lies _ rfl _ _ 55 rfl w.heap.size 23 i0 (.agg #[.int .i64 0, .int .i64 0, .int .i64 0]) 3 24 Tryz.underlying55 hi0 hz0 hz1 hz2 rfl (by omega) _ out.length css.flatten (by rfl) HG4.out.own ⟨W3.heap.size, 0, none⟩ 1 1 [.int .i64 vf.a, .int .i64 vf.b, .int .i64 vf.c] (by rfl) rfl (World.news_of_block (cs := #[.int .i64 vf.a, .int .i64 vf.b, .int .i64 vf.c]) (t := 23) (fr := (0, 0)) (heap_alloc_new W3 _)) (by simp [Value.oneCell']) (by omega) (by unfold maxLen; omega) (by omega) hbig (W3.heap.size + 1) (by simp) ?_)
          intro g cap w6 hown hgrow hat _
          have HNw := Lib.hid (HG4.out.added encVer_ok (x := vf) rfl rfl hown hgrow (by simpa using hat))
          have HW6 := Lib.hid (gD (aA HBw.out (aB W3 (.cells #[.int .i64 vf.a, .int .i64 vf.b, .int .i64 vf.c] 23))) hgrow (fun b hb => (HG4.out.lt b hb).1))
          clear hown hgrow hat HG3 HG4
          go_wp2_with fail
          go_roundw
          case rel => exact ⟨q + 1, out ++ [vf], css ++ [verC vf], by omega, by go_num, HW6, HO2, HNw⟩
          case measure => simp [intOf] <;> omega
        · have g3 : (nm.toList == s.toList) = false := cO h3
          have HO2 : Hid (out = dG (l.take (q + 1)) s) := Lib.hid (by rw [HTk.out, if_neg (fun h9 => h3 h9.2), List.append_nil]; exact HO.out)
          go_wp2_with fail
          go_roundw
          case rel => exact ⟨q + 1, out, css, by omega, by go_num, HBw, HO2, HG3⟩
          case measure => simp [intOf] <;> omega
      · have g1 : (k == 0) = false := beq_eq_false_iff_ne.2 h1
        have HO2 : Hid (out = dG (l.take (q + 1)) s) := Lib.hid (by rw [HTk.out, if_neg (fun h9 => h1 h9.1), List.append_nil]; exact HO.out)
        go_wp2_with fail
        go_roundw
        case rel => exact ⟨q + 1, out, css, by omega, by go_num, HBw, HO2, HG3⟩
        case measure => simp [intOf] <;> omega
    · have hO : out = dG l s := by rw [HO.out, List.take_of_length_le (by omega)]
      have HOl : Hid (releasesF l s = dedupV (out.mergeSort leV)) := Lib.hid (by rw [hO]; rfl)
      have hol := HRl.out l.length
      rw [List.take_of_length_le (Nat.le_refl _), ← hO] at hol
      have hol2 : out.length ≤ 140737488355328 := by omega
      clear hO
      rcases HG.out.val with ⟨rfl, e1⟩ | ⟨g, cap, rfl, hg1, hg2⟩
      · subst e1
        go_wp2_with fail
        refine (Tryz.slices_SortFunc_none_f56 (α := Ver) none 0 _ wr).mono ?_
        rintro e w3 ⟨rfl, rfl⟩
        go_wp2_with fail
        go_at_call 57
        refine (compact_short none 0 0 (by omega) w3).mono ?_
        rintro e w4 ⟨rfl, rfl⟩
        go_wp2_with fail
        go_ret
        have e0 : releasesF l s = [] := by rw [HOl.out, List.mergeSort_nil]; rfl
        exact ⟨HW.out, fun _ => True, none, 0, by rw [e0]; rfl, by rw [e0]; exact aK.nil _ _ _ _⟩
      · obtain ⟨ac, cc, hcc, hc1, hc2, -⟩ := HG.out.row encVer_ok
        injection hcc with hc3 hc4 hc5
        subst hc5
        clear hc3 hc4
        have hml : (out.mergeSort leV).length = out.length := List.length_mergeSort _
        have HSt := Lib.hid (sort_ver out w.heap.size g cap wr (gro_rowH HG.out) hg2 hg1 hol2)
        go_wp2_with fail
        refine HSt.out.mono ?_
        rintro e w3 ⟨rfl, hb3, hr3⟩
        have HB3 := Lib.hid (HW.out.trans hb3)
        have HR3 := Lib.hid hr3
        have hg3 : g < w3.heap.size := Nat.lt_of_lt_of_le hg2 hb3.size
        clear hb3 HSt hr3
        have HCp : Hid (Calls Tryz.prog 57 #[.slice (some ⟨g, 0, none⟩) out.length cap] w3 fun e w' => e = .returned (.slice (some ⟨g, 0, none⟩) (dedupV (out.mergeSort leV)).length cap) ∧ Below w.heap.size w3 w' ∧ RowH verC 3 w' g 0 (dedupV (out.mergeSort leV))) := Lib.hid (by
          by_cases h2 : 2 ≤ out.length
          · have h9 := compact_long (out.mergeSort leV) w.heap.size g 0 cap w3 HR3.out hg3 hg1 (by omega) (by omega) (by omega) hc2
            rw [hml] at h9
            exact h9
          · refine (compact_short (some ⟨g, 0, none⟩) out.length cap (by omega) w3).mono ?_
            rintro e w4 ⟨rfl, rfl⟩
            have e0 : dedupV (out.mergeSort leV) = out.mergeSort leV := dedup_short (by omega)
            rw [e0, hml]
            exact ⟨rfl, Below.refl _ _, HR3.out⟩)
        have hdl := dedup_len (out.mergeSort leV)
        go_wp2_with fail
        go_at_call 57
        refine HCp.out.mono ?_
        rintro e w4 ⟨rfl, hb4, hr4⟩
        have HB4 := Lib.hid (HB3.out.trans hb4)
        have HR4 := Lib.hid hr4
        clear hb4 hr4
        go_wp2_with fail
        go_ret
        exact ⟨HB4.out, fun _ => True, some ⟨g, 0, none⟩, cap, by rw [HOl.out]; rfl, by rw [HOl.out]; exact rowH_row HR4.out (by omega) hc2⟩
end Go.Proofs.YtmpopphjaggeoaaGreatDoor
