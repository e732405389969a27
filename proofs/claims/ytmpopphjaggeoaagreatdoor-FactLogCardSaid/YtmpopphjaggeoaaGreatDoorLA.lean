/- Lists of versions, each once; what a log says with one more fact. No program in sight. -/
import Derived.Test.YtmpopphjaggeoaaGreatDoorKAN
namespace Go.Proofs.YtmpopphjaggeoaaGreatDoor

theorem dedup_two (v u : Ver) (r : List Ver) : dedupV (v :: u :: r) = if v = u then dedupV (u :: r) else v :: dedupV (u :: r) := by rw [dedupV]
theorem dedup_snoc : ∀ (l : List Ver) (y x : Ver), dedupV (l ++ [y, x]) = if y = x then dedupV (l ++ [y]) else dedupV (l ++ [y]) ++ [x]
  | [], y, x => by
    by_cases h : y = x
    · subst h; simp [dedupV]
    · simp [dedupV, h]
  | [a], y, x => by
    have ih := dedup_snoc [] y x
    simp only [List.nil_append] at ih
    show dedupV (a :: y :: [x]) = if y = x then dedupV (a :: y :: []) else dedupV (a :: y :: []) ++ [x]
    rw [dedup_two a y [x], dedup_two a y []]
    by_cases h : a = y
    · rw [if_pos h, if_pos h]; exact ih
    · rw [if_neg h, if_neg h, ih]
      by_cases h2 : y = x
      · rw [if_pos h2, if_pos h2]
      · rw [if_neg h2, if_neg h2]; rfl
  | a :: b :: l, y, x => by
    have ih := dedup_snoc (b :: l) y x
    simp only [List.cons_append] at ih ⊢
    rw [dedup_two a b (l ++ [y, x]), dedup_two a b (l ++ [y])]
    by_cases h : a = b
    · rw [if_pos h, if_pos h]; exact ih
    · rw [if_neg h, if_neg h, ih]
      by_cases h2 : y = x
      · rw [if_pos h2, if_pos h2]
      · rw [if_neg h2, if_neg h2]; rfl
theorem dedup_take {l : List Ver} {m : Nat} {y x : Ver} (hm : 0 < m) (hy : l[m - 1]? = some y) (hx : l[m]? = some x) : dedupV (l.take (m + 1)) = if y = x then dedupV (l.take m) else dedupV (l.take m) ++ [x] := by
  obtain ⟨k, rfl⟩ : ∃ k, m = k + 1 := ⟨m - 1, by omega⟩
  simp only [Nat.add_sub_cancel] at hy
  have e1 : l.take (k + 1) = l.take k ++ [y] := by rw [List.take_add_one, hy]; rfl
  have e2 : l.take (k + 1 + 1) = l.take k ++ [y, x] := by rw [List.take_add_one, hx, e1]; simp
  rw [e2, dedup_snoc, e1]
theorem dedup_len : ∀ l : List Ver, (dedupV l).length ≤ l.length
  | [] => Nat.le_refl _
  | [_] => Nat.le_refl _
  | v :: u :: r => by
    have ih := dedup_len (u :: r)
    rw [dedupV]
    split
    · simp only [List.length_cons] at ih ⊢; omega
    · simp only [List.length_cons] at ih ⊢; omega
theorem dedup_mem : ∀ (l : List Ver) (x : Ver), x ∈ dedupV l ↔ x ∈ l
  | [], x => Iff.rfl
  | [_], x => Iff.rfl
  | v :: u :: r, x => by
    have ih := dedup_mem (u :: r) x
    rw [dedupV]
    split
    · rename_i h
      subst h
      rw [ih]; simp
    · rw [List.mem_cons, List.mem_cons, ih]
/-- Ascending, one greater than the other. -/
def ascV : List Ver → Prop
  | [] => True
  | [_] => True
  | v :: u :: r => bB v u < 0 ∧ ascV (u :: r)
theorem ascV_at : ∀ (l : List Ver), ascV l → ∀ (i : Nat) (x y : Ver), l[i]? = some x → l[i + 1]? = some y → bB x y < 0
  | [], _, i, x, y, hx, _ => by simp at hx
  | [_], _, i, x, y, hx, hy => by simp at hy
  | v :: u :: r, h, 0, x, y, hx, hy => by
    simp at hx hy
    subst hx hy
    exact h.1
  | v :: u :: r, h, i + 1, x, y, hx, hy => ascV_at (u :: r) h.2 i x y (by simpa using hx) (by simpa using hy)
theorem dedup_head (v : Ver) : ∀ r : List Ver, ∃ t, dedupV (v :: r) = v :: t
  | [] => ⟨[], rfl⟩
  | u :: r => by
    rw [dedupV]
    split
    · rename_i h
      subst h
      exact dedup_head v r
    · exact ⟨_, rfl⟩
theorem dedup_asc : ∀ l : List Ver, List.Pairwise (fun a b => leV a b = true) l → ascV (dedupV l)
  | [], _ => trivial
  | [_], _ => trivial
  | v :: u :: r, h => by
    have ih := dedup_asc (u :: r) (List.Pairwise.tail h)
    rw [dedupV]
    split
    · exact ih
    · rename_i hn
      obtain ⟨t, ht⟩ := dedup_head u r
      rw [ht] at ih ⊢
      refine ⟨?_, ih⟩
      have hle := (List.pairwise_cons.1 h).1 u (by simp)
      unfold leV at hle
      simp only [decide_eq_true_eq] at hle
      have hz := cmpV_zero v u
      rcases Int.lt_or_eq_of_le hle with h1 | h1
      · exact h1
      · exact absurd (hz.1 h1) hn
theorem leV_trans (a b c : Ver) (h : leV a b = true) (k : leV b c = true) : leV a c = true := by
  unfold leV at *
  simp only [decide_eq_true_eq] at *
  rcases Int.lt_or_eq_of_le h with h1 | h1
  · rcases Int.lt_or_eq_of_le k with k1 | k1
    · have := cmpV_trans h1 k1; omega
    · rw [(cmpV_zero b c).1 k1] at h1; omega
  · rw [(cmpV_zero a b).1 h1]; exact k
theorem leV_total (a b : Ver) : (leV a b || leV b a) = true := by
  unfold leV
  have h := cmpV_swap a b
  by_cases h1 : bB a b ≤ 0
  · simp [h1]
  · have := h.1 (by omega); simp; omega
/-- The versions of the releases of a name ascend, each once. -/
theorem releases_asc (l : List Fc) (s : ByteArray) : ascV (releasesF l s) :=
  dedup_asc _ (List.pairwise_mergeSort (fun a b c => leV_trans a b c) (fun a b => leV_total a b) _)
theorem releases_mem (l : List Fc) (s : ByteArray) (v : Ver) : v ∈ releasesF l s ↔ ∃ f ∈ l, isRel s v f = true := by
  unfold releasesF
  rw [dedup_mem, List.mem_mergeSort]
  unfold dG
  rw [List.mem_filterMap]
  constructor
  · rintro ⟨f, hf, h⟩
    split at h
    · rename_i hc
      cases h
      exact ⟨f, hf, by simp [isRel, hc.1, hc.2]⟩
    · cases h
  · rintro ⟨f, hf, h⟩
    simp only [isRel, Bool.and_eq_true, decide_eq_true_eq] at h
    exact ⟨f, hf, by rw [if_pos h.1, h.2]⟩
/-- A release is found exactly if its version is listed. -/
theorem release_is (l : List Fc) (s : ByteArray) (v : Ver) : (releaseF l s v).isSome = decide (v ∈ releasesF l s) := by
  rw [Bool.eq_iff_iff, decide_eq_true_eq, releases_mem]
  unfold releaseF
  rw [List.findIdx?_isSome, List.any_eq_true]
theorem release_at {l : List Fc} {s : ByteArray} {v : Ver} {i : Nat} (h : releaseF l s v = some i) : ∃ f, l[i]? = some f ∧ f.kind = 0 ∧ f.rel.name = s ∧ f.rel.ver = v := by
  unfold releaseF at h
  obtain ⟨hi, hp, -⟩ := List.findIdx?_eq_some_iff_getElem.1 h
  simp only [isRel, Bool.and_eq_true, decide_eq_true_eq] at hp
  exact ⟨l[i], List.getElem?_eq_getElem hi, hp.1.1, hp.1.2, hp.2⟩
/-- One more fact leaves the releases that are there. -/
theorem release_more {l : List Fc} {s : ByteArray} {v : Ver} {i : Nat} (f : Fc) (h : releaseF l s v = some i) : releaseF (l ++ [f]) s v = some i := by
  unfold releaseF at *
  rw [List.findIdx?_append, h]; rfl
theorem release_none {l : List Fc} {s : ByteArray} {v : Ver} {f : Fc} (hn : dZ f ≠ s) : releaseF (l ++ [f]) s v = releaseF l s v := by
  unfold releaseF
  rw [List.findIdx?_append]
  have hp : isRel s v f = false := by
    unfold isRel
    by_cases hk : f.kind = 0
    · unfold dZ at hn
      rw [if_pos hk] at hn
      simp [hn]
    · simp [hk]
  cases hq : List.findIdx? (isRel s v) l with
  | some i => rfl
  | none => simp [hp]
theorem relVers_none {l : List Fc} {s : ByteArray} {f : Fc} (hn : dZ f ≠ s) : dG (l ++ [f]) s = dG l s := by
  unfold dG
  rw [List.filterMap_append]
  have hp : ¬ (f.kind = 0 ∧ f.rel.name = s) := fun h => by
    unfold dZ at hn
    rw [if_pos h.1] at hn
    exact hn h.2
  simp [hp]
theorem releases_none {l : List Fc} {s : ByteArray} {f : Fc} (hn : dZ f ≠ s) : releasesF (l ++ [f]) s = releasesF l s := by unfold releasesF; rw [relVers_none hn]
theorem advFrom_app (s : ByteArray) (v : Ver) : ∀ (l m : List Fc) (i : Nat), advFrom s v i (l ++ m) = advFrom s v i l ++ advFrom s v (i + l.length) m
  | [], m, i => by simp [advFrom]
  | g :: l, m, i => by
    have ih := advFrom_app s v l m (i + 1)
    simp only [List.cons_append, advFrom, ih, List.length_cons]
    rw [show i + 1 + l.length = i + (l.length + 1) by omega]
    split <;> rfl
theorem advices_none {l : List Fc} {s : ByteArray} {v : Ver} {f : Fc} (hn : dZ f ≠ s) : advicesF (l ++ [f]) s v = advicesF l s v := by
  unfold advicesF
  rw [advFrom_app]
  have hp : isAdv s v f = false := by
    unfold isAdv
    by_cases hk : f.kind = 3
    · unfold dZ at hn
      rw [if_neg (by omega), if_pos hk] at hn
      simp [hn]
    · simp [hk]
  simp [advFrom, hp]
theorem lastF_more (l : List Fc) (f : Fc) (one other : Int) (s : ByteArray) (v : Ver) : lastF (l ++ [f]) one other s v = if isAt one other s v f then some f else lastF l one other s v := by
  unfold lastF
  rw [List.reverse_append]
  simp only [List.reverse_cons, List.reverse_nil, List.nil_append, List.singleton_append, List.find?_cons]
  split <;> rename_i h <;> simp [h]
/-- Is a fact about just this release? -/
def hereF (f : Fc) (s : ByteArray) (v : Ver) : Bool := decide (f.name = s) && decide (f.ver = v)
theorem yanked_more (l : List Fc) (f : Fc) (s : ByteArray) (v : Ver) : fY (l ++ [f]) s v = if hereF f s v = true ∧ (f.kind = 1 ∨ f.kind = 2) then decide (f.kind = 1) else fY l s v := by
  unfold fY
  rw [lastF_more]
  by_cases h : hereF f s v = true ∧ (f.kind = 1 ∨ f.kind = 2)
  · rw [if_pos h]
    have e : isAt 1 2 s v f = true := by
      unfold hereF at h; simp only [Bool.and_eq_true, decide_eq_true_eq] at h
      simp only [isAt, Bool.and_eq_true, Bool.or_eq_true, decide_eq_true_eq]
      exact ⟨⟨h.2, h.1.1⟩, h.1.2⟩
    rw [if_pos e]
  · rw [if_neg h]
    have e : isAt 1 2 s v f = false := by
      cases hq : isAt 1 2 s v f with
      | false => rfl
      | true =>
        exfalso; apply h
        simp only [isAt, Bool.and_eq_true, Bool.or_eq_true, decide_eq_true_eq] at hq
        exact ⟨by simp [hereF, hq.1.2, hq.2], hq.1.1⟩
    rw [e]; rfl
theorem verdict_more (l : List Fc) (f : Fc) (s : ByteArray) (v : Ver) : verdictF (l ++ [f]) s v = if hereF f s v = true ∧ f.kind = 7 then (f.print, true) else verdictF l s v := by
  unfold verdictF
  rw [lastF_more]
  by_cases h : hereF f s v = true ∧ f.kind = 7
  · rw [if_pos h]
    have e : isAt 7 7 s v f = true := by
      unfold hereF at h; simp only [Bool.and_eq_true, decide_eq_true_eq] at h
      simp only [isAt, Bool.and_eq_true, Bool.or_eq_true, decide_eq_true_eq]
      exact ⟨⟨.inl h.2, h.1.1⟩, h.1.2⟩
    rw [if_pos e]
  · rw [if_neg h]
    have e : isAt 7 7 s v f = false := by
      cases hq : isAt 7 7 s v f with
      | false => rfl
      | true =>
        exfalso; apply h
        simp only [isAt, Bool.and_eq_true, Bool.or_eq_true, decide_eq_true_eq] at hq
        exact ⟨by simp [hereF, hq.1.2, hq.2], hq.1.1.elim id id⟩
    rw [e]; rfl
end Go.Proofs.YtmpopphjaggeoaaGreatDoor

/- Walks: a list of facts within bounds; what a verdict says. -/
namespace Go.Proofs.YtmpopphjaggeoaaGreatDoor
open Go.RowKit Go.Shelf
set_option linter.unusedSimpArgs false
set_option linter.unusedVariables false

theorem take_all_step {α : Type} {P : α → Prop} {l : List α} {q : Nat} {f : α} (hf : l[q]? = some f) (h : ∀ x ∈ l.take q, P x) (hp : P f) : ∀ x ∈ l.take (q + 1), P x := by
  intro x hx
  rw [List.take_add_one, hf] at hx
  rcases List.mem_append.1 hx with hx | hx
  · exact h x hx
  · simp at hx; subst hx; exact hp
set_option maxRecDepth 100000 in
set_option maxHeartbeats 64000000 in
theorem fewFacts_any (l : List Fc) {N : Nat → Prop} {vl : Value} (w : World) (hl : aK 29 encFc N w vl l) :
    Calls Tryz.prog 18 #[vl, .int .i64 12] w fun e w' => SayB (l.length ≤ 12 ∧ ∀ f ∈ l, f.rel.feats.length ≤ 14) e ∧ Below w.heap.size w w' := by
  obtain ⟨al, cl, rfl, la1, la2, HA0⟩ := hl.at
  have HA := Lib.hid HA0
  clear HA0 hl
  go_enter Tryz.func18, Tryz.ntmps18
  go_wp2_with fail
  go_loopw [5] (fun iv wr => ∃ q : Nat, q ≤ l.length ∧ iv = .int .i64 (q : Int) ∧ Hid (Below w.heap.size w wr) ∧ Hid (∀ f ∈ l.take q, f.rel.feats.length ≤ 14)) (fun iv _ => l.length - (intOf iv).toNat)
  case atStart => exact ⟨0, Nat.zero_le _, rfl, Lib.hid (Below.refl _ _), Lib.hid (by intro g hg; simp at hg)⟩
  case round =>
    obtain ⟨q, hq, rfl, HW, HO⟩ := hrel
    rename World => wr
    by_cases hlt : q < l.length
    · by_cases h12 : (q : Int) ≤ 12
      · obtain ⟨f, hf, -⟩ := getElem?_of_lt hlt
        obtain ⟨b, o, rfl, -, cs, ⟨p, rfl, hv⟩, -, hj⟩ := HA.out q f hf
        have hq0 : (0 : Int) ≤ (q : Int) ∧ (q : Int) < (l.length : Int) := by omega
        obtain ⟨A, HAc⟩ : ∃ c : Array Value, Hid (c = (fcC f p).toArray) := ⟨_, Lib.hid rfl⟩
        have HRg : Hid (wr.rangeAt b (o + q * 29) (fcC f p)) := Lib.hid (fun j u hu => aD HW.out (hj j u hu))
        have HF : Hid (Calls Tryz.prog 8 #[.agg A] wr fun e w' => SayB (f.rel.feats.length ≤ 14) e ∧ Below wr.heap.size wr w') := Lib.hid (by rw [HAc.out]; exact few24_any f wr (hv.later HW.out))
        have HS := Lib.hid (fun (h9 : f.rel.feats.length ≤ 14) => take_all_step hf HO.out h9)
        clear hj hv hf
        go_wp2_with (refine loadFM (x := .tmp 19) rfl (by kernel_rfl) b (o + q * 29) rfl (fcC f p) A HAc.out HRg.out rfl ?_)
        go_at_call 8
        refine HF.out.mono ?_
        rintro e w1 ⟨⟨bf, rfl, hbf⟩, hb⟩
        have HB := Lib.hid (HW.out.trans (hb.mono HW.out.size))
        have HF2 := Lib.hid hbf
        clear hbf hb
        cases bf with
        | false =>
          go_wp2_with fail
          go_ret
          exact ⟨⟨false, rfl, fun h9 => by cases h9⟩, HB.out⟩
        | true =>
          have HS2 := Lib.hid (HS.out (HF2.out (by first | rfl | trivial)))
          clear HS HF2
          go_wp2_with fail
          go_roundw
          case rel => exact ⟨q + 1, by omega, by go_num, HB, HS2⟩
          case measure => simp [intOf] <;> omega
      · have g3 : ¬ (l.length : Int) ≤ 12 := by omega
        go_wp2_with fail
        go_ret
        exact ⟨⟨false, rfl, fun h9 => by cases h9⟩, HW.out⟩
    · have HO2 : Hid (∀ f ∈ l, f.rel.feats.length ≤ 14) := Lib.hid (by have := HO.out; rwa [List.take_of_length_le (by omega)] at this)
      by_cases h12 : (l.length : Int) ≤ 12
      · go_wp2_with fail
        go_ret
        exact ⟨⟨true, rfl, fun _ => ⟨by omega, HO2.out⟩⟩, HW.out⟩
      · go_wp2_with fail
        go_ret
        exact ⟨⟨false, rfl, fun h9 => by cases h9⟩, HW.out⟩
set_option maxRecDepth 100000 in
set_option maxHeartbeats 16000000 in
theorem verdict_any (l : List Fc) (s : ByteArray) (v : Ver) {N : Nat → Prop} {vl : Value} (w : World) (hl : aK 29 encFc N w vl l) (hlen : l.length ≤ 1000000) :
    Calls Tryz.prog 23 #[vl, .string s, .agg #[.int .i64 v.a, .int .i64 v.b, .int .i64 v.c]] w fun e w' => e = .returned (.tuple #[.int .i64 (verdictF l s v).1, .bool (verdictF l s v).2]) ∧ Below w.heap.size w w' := by
  have HB1 := Lib.hid (aB w (.cells #[.int .i64 v.a, .int .i64 v.b, .int .i64 v.c] 23))
  have hX := heap_alloc_new w (.cells #[.int .i64 v.a, .int .i64 v.b, .int .i64 v.c] 23)
  have HL := Lib.hid (last_any l 7 7 s v (w.alloc (.cells #[.int .i64 v.a, .int .i64 v.b, .int .i64 v.c] 23)) (hl.moves encFc_ok (aM.later HB1.out) (by decide)) hlen)
  obtain ⟨a, c, rfl, -⟩ := id hl
  obtain ⟨⟨x0, x1, x2⟩, -⟩ := bx3 hX
  clear hX hl
  go_enter Tryz.func23, Tryz.ntmps23
  go_wp2_with fail
  generalize w.alloc (.cells #[.int .i64 v.a, .int .i64 v.b, .int .i64 v.c] 23) = W0 at *
  go_at_call 63
  refine HL.out.mono ?_
  rintro e w1 ⟨hb, g, p, b, rfl, hv, hla, hb0⟩
  have HB2 := Lib.hid (aA HB1.out hb)
  have HLa := Lib.hid hla
  have HB0 := Lib.hid hb0
  obtain ⟨A, HA⟩ : ∃ c : Array Value, Hid (c = (fcC g p).toArray) := ⟨_, Lib.hid rfl⟩
  rw [← HA.out]
  have HZA : Hid (A.size = 29) := Lib.hid (by rw [HA.out]; rfl)
  have HOA : Hid (A.all (fun x => x.oneCell') = true) := Lib.hid (by rw [HA.out]; exact gZ hv)
  have HQ27 : Hid (A[27]? = some (.int .i64 g.print)) := Lib.hid (by rw [HA.out]; rfl)
  have HNew := Lib.hid (heap_alloc_new w1 (.cells aI 37))
  have HB3 : Hid (Below w1.heap.size w1 ((w1.alloc (.cells aI 37)).setRow w1.heap.size A)) := Lib.hid (below_setRow (aB w1 _) (Nat.le_refl _) _)
  have HXF : Hid (((w1.alloc (.cells aI 37)).setRow w1.heap.size A).heap[w1.heap.size]? = some (.cells A 37)) := Lib.hid (setRow_heap _ _ _ _ _ _ HNew.out)
  have HE : Hid (verdictF l s v = (g.print, b)) := Lib.hid (by
    unfold verdictF; rw [HLa.out]
    cases b with
    | true => rfl
    | false => rw [HB0.out rfl]; rfl)
  clear hb hv hla hb0 x0 x1 x2
  go_upto_region 2 with (first | (refine Go.Great.wpList_allocTo rfl (some 8) rfl (.pointer (some ⟨w1.heap.size, 0, none⟩)) (.cells aI 37) ?ha ?_; (case ha => exact eM rfl _ _ rfl)) | (refine wpList_store_rowTo rfl 37 (.tmp 8) (.tmp 15) rfl rfl w1.heap.size A rfl rfl 37 aI ?hg (by rw [HZA.out]; kernel_rfl) (by rw [HZA.out]; rfl) HOA.out ?_; (case hg => exact HNew.out)))
  try simp only [Act.put, List.getElem_toArray, List.getElem_cons_zero, List.getElem_cons_succ, List.setIfInBounds_toArray, List.set_cons_zero, List.set_cons_succ]
  clear HNew
  generalize ((w1.alloc (.cells aI 37)).setRow w1.heap.size A) = W3 at *
  have HBw := Lib.hid (aA HB2.out HB3.out)
  have x27 := cfA HXF.out HQ27.out
  go_wp2_with fail
  go_ret2
  exact ⟨by rw [HE.out]; rfl, HBw.out⟩
end Go.Proofs.YtmpopphjaggeoaaGreatDoor
