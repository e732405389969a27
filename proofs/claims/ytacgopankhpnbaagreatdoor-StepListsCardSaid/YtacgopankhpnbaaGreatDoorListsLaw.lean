/- The plain law of StepLists: what the listings of names are. No program in sight. -/
import Derived.Test.YtacgopankhpnbaaGreatDoorSortsLaw
namespace Go.Proofs.YtacgopankhpnbaaGreatDoor

theorem pickIdx_lt (x : Int) {n : Nat} (h : 0 < n) : pickIdx x n < n := by
  unfold pickIdx
  have h1 := Int.emod_nonneg x (b := (n : Int)) (by omega)
  have h2 := Int.emod_lt_of_pos x (b := (n : Int)) (by omega)
  omega
theorem getElem_eraseIdx_perm (l : List ByteArray) (k : Nat) (h : k < l.length) : (l[k] :: l.eraseIdx k).Perm l := by
  rw [List.eraseIdx_eq_take_drop_succ]
  conv => rhs; rw [← List.take_append_drop k l, List.drop_eq_getElem_cons h]
  exact List.perm_middle.symm
theorem pick_perm (order : List Int) : ∀ (f u : Nat) (left : List ByteArray), left.length = f → (pickAll order f u left).Perm left
  | 0, u, left, h => by rw [List.eq_nil_of_length_eq_zero h]; exact List.Perm.refl _
  | f + 1, u, left, h => by
    have hk := pickIdx_lt (order.getD u 0) (n := left.length) (by omega)
    rw [pickAll, List.getElem?_eq_getElem hk]
    simp only
    refine ((pick_perm order f (u + 1) _ (by rw [List.length_eraseIdx, if_pos hk]; omega)).cons _).trans ?_
    exact getElem_eraseIdx_perm left _ hk
theorem pick_zero (order : List Int) : ∀ (f u : Nat) (left : List ByteArray), left.length = f → (∀ v, u ≤ v → order.getD v 0 = 0) → pickAll order f u left = left
  | 0, u, left, h, _ => by rw [List.eq_nil_of_length_eq_zero h]; rfl
  | f + 1, u, [], h, _ => by simp at h
  | f + 1, u, x :: l, h, hz => by
    have h0 : pickIdx (order.getD u 0) (x :: l).length = 0 := by rw [hz u (Nat.le_refl _)]; simp [pickIdx]
    rw [pickAll, h0]
    simp only [List.getElem?_cons_zero, List.eraseIdx_cons_zero]
    rw [pick_zero order f (u + 1) l (by simpa using h) fun v hv => hz v (by omega)]
theorem pick_last (x : ByteArray) (l : List ByteArray) : pickAll [-1] (l.length + 1) 0 (x :: l) = (x :: l).getLast (by simp) :: (x :: l).dropLast := by
  have h0 : pickIdx (([-1] : List Int).getD 0 0) (x :: l).length = l.length := by
    show ((-1 : Int) % ((l.length + 1 : Nat) : Int)).toNat = _
    have h1 : (-1 : Int) % ((l.length + 1 : Nat) : Int) = l.length := by
      rw [← Int.add_emod_right, Int.emod_eq_of_lt] <;> omega
    rw [h1]; simp
  rw [pickAll, h0]
  have h1 : (x :: l)[l.length]? = some ((x :: l).getLast (by simp)) := by
    rw [List.getLast_eq_getElem, List.getElem?_eq_getElem (by simp)]
    simp
  have h2 : (x :: l).eraseIdx l.length = (x :: l).dropLast := by
    rw [List.dropLast_eq_take, List.eraseIdx_eq_take_drop_succ]
    simp
  rw [h1, h2]
  simp only
  rw [pick_zero [-1] l.length 1 _ (by simp) fun v hv => ?_]
  obtain ⟨v', rfl⟩ : ∃ v', v = v' + 1 := ⟨v - 1, by omega⟩
  simp [List.getD]

theorem rowsS_inj : ∀ {a b : List Bs}, (∀ y, y ∈ a → (10 : UInt8) ∉ y) → (∀ y, y ∈ b → (10 : UInt8) ∉ y) → rowsS a = rowsS b → a = b
  | [], [], _, _, _ => rfl
  | [], y :: b, _, _, h => by rw [rowsS_cons] at h; simp [rowsS] at h
  | x :: a, [], _, _, h => by rw [rowsS_cons] at h; simp [rowsS] at h
  | x :: a, y :: b, ha, hb, h => by
    rw [rowsS_cons, rowsS_cons, List.append_assoc, List.append_assoc] at h
    have hx := index_at x (rowsS a) (ha x (by simp))
    have hy := index_at y (rowsS b) (hb y (by simp))
    have h' : x ++ 10 :: rowsS a = y ++ 10 :: rowsS b := by simpa using h
    rw [h', hy] at hx
    have hl : y.length = x.length := by omega
    obtain ⟨e1, e2⟩ := List.append_inj h' hl.symm
    injection e2 with _ e3
    rw [e1, rowsS_inj (fun z hz => ha z (List.mem_cons_of_mem _ hz)) (fun z hz => hb z (List.mem_cons_of_mem _ hz)) e3]

theorem isName_clean {x : ByteArray} (h : isName x = true) : (10 : UInt8) ∉ x.data.toList := by
  intro hm
  simp only [isName, Bool.and_eq_true, List.all_eq_true] at h
  have := h.1.1 10 hm
  simp [nameByte] at this
theorem map_data_inj {a b : List ByteArray} (h : a.map (·.data.toList) = b.map (·.data.toList)) : a = b := by
  induction a generalizing b with
  | nil => cases b with
    | nil => rfl
    | cons y b => simp at h
  | cons x a ih => cases b with
    | nil => simp at h
    | cons y b =>
      simp only [List.map_cons, List.cons.injEq] at h
      rw [bytes_ext h.1, ih h.2]
theorem rowsB_inj {a b : List ByteArray} (ha : ∀ y, y ∈ a → isName y = true) (hb : ∀ y, y ∈ b → isName y = true) (h : rowsB a = rowsB b) : a = b := by
  have h1 := congrArg (·.data.toList) h
  simp only [rowsB_list] at h1
  refine map_data_inj (rowsS_inj ?_ ?_ h1)
  · intro y hy; obtain ⟨z, hz, rfl⟩ := List.mem_map.1 hy; exact isName_clean (ha z hz)
  · intro y hy; obtain ⟨z, hz, rfl⟩ := List.mem_map.1 hy; exact isName_clean (hb z hz)

theorem sortB_perm (l : List ByteArray) : (sortB l).Perm l := by
  have h : ((sortB l).map (·.data.toList)).Perm (l.map (·.data.toList)) := by rw [sortB_list]; exact msort_perm _
  have h2 := h.map fun x => (⟨x.toArray⟩ : ByteArray)
  have e : ∀ l : List ByteArray, (l.map (·.data.toList)).map (fun x => (⟨x.toArray⟩ : ByteArray)) = l := fun l => by
    rw [List.map_map]
    conv => rhs; rw [← List.map_id l]
    apply List.map_congr_left
    intro x _
    exact bytes_ext rfl
  rw [e, e] at h2
  exact h2
theorem sortB_sorted (l : List ByteArray) : (sortB l).Pairwise fun a b => leB a.data.toList b.data.toList = true := by
  have h := msort_sorted (l.map (·.data.toList))
  rw [← sortB_list, List.pairwise_map] at h
  exact h

/-- The names, sorted again. -/
theorem resort (P names : List ByteArray) (hp : P.Perm names) (hn : ∀ y, y ∈ names → isName y = true) : rowsB (sortedLines (rowsB P)) = rowsB (sortB names) := by
  apply bytes_ext
  rw [rows_sorted (rowsB P) (P.map (·.data.toList)) (rowsB_list P) fun y hy => ?_, rowsB_list, sortB_list, msort_of_perm (hp.map _)]
  obtain ⟨z, hz, rfl⟩ := List.mem_map.1 hy
  exact isName_clean (hn z (hp.mem_iff.1 hz))

/-- The files of StepLists. -/
def addName (l : List Fil) (x : ByteArray) : List Fil := if (findFile l x).isSome then l else l ++ [⟨x, ⟨#[120]⟩⟩]
def namesFiles (names : List ByteArray) : List Fil := names.foldl addName []

theorem findFile_isSome {l : List Fil} {x : ByteArray} : (findFile l x).isSome = true ↔ ∃ f, f ∈ l ∧ f.name = x := by
  unfold findFile
  rw [Option.isSome_map, List.find?_isSome]
  simp

/-- What is known of the files: names that are different, texts that are 'x'. -/
structure FilesOf (names : List ByteArray) (l : List Fil) : Prop where
  mem : ∀ x, x ∈ names ↔ ∃ f, f ∈ l ∧ f.name = x
  nodup : (l.map (·.name)).Nodup
  text : ∀ f, f ∈ l → f.text = ⟨#[120]⟩
  len : l.length ≤ names.length
theorem FilesOf.nil : FilesOf [] [] := ⟨by simp, by simp, by simp, by simp⟩
theorem FilesOf.snoc {names : List ByteArray} {l : List Fil} (h : FilesOf names l) (x : ByteArray) : FilesOf (names ++ [x]) (addName l x) := by
  unfold addName
  by_cases hx : (findFile l x).isSome = true
  · rw [if_pos hx]
    refine ⟨fun y => ?_, h.nodup, h.text, by have := h.len; simp; omega⟩
    rw [List.mem_append, List.mem_singleton, h.mem y]
    refine ⟨fun hh => ?_, fun hh => .inl hh⟩
    rcases hh with hh | rfl
    · exact hh
    · exact findFile_isSome.1 hx
  · rw [if_neg hx]
    have hno : ¬ ∃ f, f ∈ l ∧ f.name = x := fun hh => hx (findFile_isSome.2 hh)
    refine ⟨fun y => ?_, ?_, fun f hf => ?_, by have := h.len; simp; omega⟩
    · rw [List.mem_append, List.mem_singleton, h.mem y]
      constructor
      · rintro (⟨f, hf, rfl⟩ | rfl)
        · exact ⟨f, by simp [hf], rfl⟩
        · exact ⟨⟨y, ⟨#[120]⟩⟩, by simp, rfl⟩
      · rintro ⟨f, hf, rfl⟩
        rcases List.mem_append.1 hf with hf | hf
        · exact .inl ⟨f, hf, rfl⟩
        · rw [List.mem_singleton.1 hf]; exact .inr rfl
    · rw [List.map_append, List.nodup_append]
      refine ⟨h.nodup, by simp, ?_⟩
      intro a ha b hb e
      obtain ⟨f, hf, rfl⟩ := List.mem_map.1 ha
      simp only [List.map_cons, List.map_nil, List.mem_singleton] at hb
      exact hno ⟨f, hf, e.trans hb⟩
    · rcases List.mem_append.1 hf with hf | hf
      · exact h.text f hf
      · rw [List.mem_singleton.1 hf]
theorem filesOf_names (names : List ByteArray) : FilesOf names (namesFiles names) := by
  have gen : ∀ (r : List ByteArray) (seen : List ByteArray) (l : List Fil), FilesOf seen l → FilesOf (seen ++ r) (r.foldl addName l) := by
    intro r
    induction r with
    | nil => intro seen l h; simpa using h
    | cons x r ih =>
      intro seen l h
      have := ih (seen ++ [x]) (addName l x) (h.snoc x)
      simpa using this
  simpa [namesFiles] using gen names [] [] FilesOf.nil

theorem rightFrom_of : ∀ (l : List Fil) (known : List ByteArray), (l.map (·.name)).Nodup → (∀ f, f ∈ l → isName f.name = true ∧ f.text.size ≤ 65536 ∧ f.name ∉ known) → rightFrom l known = true
  | [], _, _, _ => rfl
  | f :: r, known, hd, h => by
    obtain ⟨h1, h2, h3⟩ := h f (by simp)
    rw [List.map_cons, List.nodup_cons] at hd
    rw [rightFrom, if_neg]
    · refine rightFrom_of r _ hd.2 fun g hg => ?_
      obtain ⟨g1, g2, g3⟩ := h g (List.mem_cons_of_mem _ hg)
      refine ⟨g1, g2, fun hm => ?_⟩
      rcases List.mem_cons.1 hm with e | hm
      · exact hd.1 (e ▸ List.mem_map_of_mem hg)
      · exact g3 hm
    · have : (known.any fun x => decide (x = f.name)) = false := by
        rw [List.any_eq_false]
        intro x hx
        simp only [decide_eq_true_eq]
        rintro rfl
        exact h3 hx
      rw [this, h1]
      simp; omega
theorem sawOf_all {files : List Fil} : ∀ (src : List ByteArray), (∀ x, x ∈ src → ∃ f, f ∈ files ∧ f.name = x) → ∃ saw, sawOf files src = some saw
  | [], _ => ⟨[], rfl⟩
  | x :: r, h => by
    obtain ⟨saw, hs⟩ := sawOf_all r fun y hy => h y (List.mem_cons_of_mem _ hy)
    obtain ⟨t, ht⟩ := Option.isSome_iff_exists.1 (findFile_isSome.2 (h x (by simp)))
    exact ⟨t :: saw, by rw [sawOf, ht, hs]⟩

theorem rowsB_size (l : List ByteArray) (n : Nat) (hl : l.length ≤ n) (h : ∀ x, x ∈ l → isName x = true) : (rowsB l).size ≤ n * 21 := by
  have e : (rowsB l).size = (rowsL l).length := by show (rowsL l).toArray.size = _; simp
  rw [e]
  have gen : ∀ l : List ByteArray, (∀ x, x ∈ l → isName x = true) → (rowsL l).length ≤ l.length * 21 := by
    intro l
    induction l with
    | nil => intro _; simp [rowsL]
    | cons x l ih =>
      intro h
      have h1 := ih fun y hy => h y (List.mem_cons_of_mem _ hy)
      have h2 := h x (by simp)
      have h3 : x.size ≤ 20 := by simp [isName] at h2; omega
      have h4 : rowsL (x :: l) = (x.data.toList ++ [10]) ++ rowsL l := by simp [rowsL]
      rw [h4, List.length_append, List.length_append]
      have h5 : x.data.toList.length = x.size := by simp
      simp only [List.length_cons, List.length_nil]
      omega
  have := gen l h
  have h2 : l.length * 21 ≤ n * 21 := Nat.mul_le_mul_right _ hl
  omega

def toB : ByteArray := ⟨#[116, 111]⟩
def yB : ByteArray := ⟨#[121]⟩
/-- The step that StepLists runs. -/
abbrev listStp (names : List ByteArray) (sorted : Bool) : Stp := ⟨2, names, toB, sorted⟩

/-- StepLists's premises, once it has come to the steps. -/
structure ListsIn (names : List ByteArray) : Prop where
  few : names.length ≤ 8
  right : stepRight (listStp names false) = true
  no : ∀ x, x ∈ names → x ≠ toB ∧ x ≠ yB

theorem stepRight_list {names : List ByteArray} {b : Bool} (h : stepRight (listStp names b) = true) : (∀ x, x ∈ names → isName x = true) ∧ stepRight (listStp names true) = true := by
  unfold stepRight at h ⊢
  split at h
  · cases h
  · rename_i hh
    rw [if_neg hh]
    refine ⟨fun x hx => ?_, h⟩
    simp only [Bool.or_eq_true, not_or, List.any_eq_true, not_exists, not_and] at hh
    have := hh.2 x hx
    simpa using this

/-- What a listing comes to. -/
theorem do_list (names : List ByteArray) (sorted : Bool) (order : List Int) (h : ListsIn names) :
    doStep (fun _ => (0, ByteArray.empty)) (listStp names sorted) (namesFiles names) [] order 0 0 =
      .ok (rowsB (if sorted then sortB names else pickAll order names.length 0 (sortB names)), [], 0, if sorted then 0 else names.length) := by
  obtain ⟨hn, hr⟩ := stepRight_list h.right
  have hF := filesOf_names names
  have hr' : stepRight (listStp names sorted) = true := by cases sorted; exact h.right; exact hr
  have r2 : rightFiles (namesFiles names) = true := by
    unfold rightFiles
    rw [rightFrom_of _ _ hF.nodup fun f hf => ⟨hn _ ((hF.mem _).2 ⟨f, hf, rfl⟩), by rw [hF.text f hf]; decide, by simp⟩]
    have := hF.len
    have := h.few
    simp; omega
  have r3 : findFile (namesFiles names) toB = none := by
    rw [← Option.not_isSome_iff_eq_none, findFile_isSome]
    intro hh
    exact (h.no _ ((hF.mem _).2 hh)).1 rfl
  obtain ⟨saw, r4⟩ := sawOf_all (files := namesFiles names) names fun x hx => (hF.mem x).1 hx
  have hl := hF.len
  have hf := h.few
  have hsl : (sortB names).length = names.length := (sortB_perm names).length_eq
  unfold doStep
  rw [hr', r2]
  simp only [Bool.not_true, Bool.false_or]
  rw [r3, r4, if_neg (by decide), if_neg (by simp), if_neg (by omega)]
  simp only
  rw [if_neg (by decide)]
  have hw : writeStep (listStp names sorted) saw [] order 0 0 = (rowsB (if sorted then sortB names else pickAll order names.length 0 (sortB names)), [], 0, if sorted then 0 else (names.length : Int)) := by
    unfold writeStep
    rw [if_neg (by show ¬ ((2 : Int) = 0 ∨ (2 : Int) = 1); decide), if_neg (by show ¬ (2 : Int) = 3; decide), if_neg (by show ¬ (2 : Int) = 4; decide)]
    cases sorted with
    | true => rfl
    | false => simp
  rw [hw]
  rw [if_neg]
  have hz := rowsB_size (if sorted then sortB names else pickAll order names.length 0 (sortB names)) 8
    (by cases sorted with
      | true => simp; omega
      | false => simp only [Bool.false_eq_true, if_false]; rw [(pick_perm order _ 0 _ hsl).length_eq]; omega)
    (by
      intro x hx
      refine hn x ?_
      cases sorted with
      | true => simp only [if_true] at hx; exact (sortB_perm names).mem_iff.1 hx
      | false => simp only [Bool.false_eq_true, if_false] at hx; exact (sortB_perm names).mem_iff.1 ((pick_perm order _ 0 _ hsl).mem_iff.1 hx))
  show ¬ 65536 < (rowsB _).size
  omega

/-- The files behind a listing, sorted. -/
theorem do_resort (names : List ByteArray) (order : List Int) (h : ListsIn names) :
    doStep (fun _ => (0, ByteArray.empty)) ⟨3, [toB], yB, false⟩ (namesFiles names ++ [⟨toB, rowsB (pickAll order names.length 0 (sortB names))⟩]) [] [] 0 0 =
      .ok (rowsB (sortB names), [rowsB (pickAll order names.length 0 (sortB names))], 0, 0) := by
  obtain ⟨hn, hr⟩ := stepRight_list h.right
  have hF := filesOf_names names
  have hsl : (sortB names).length = names.length := (sortB_perm names).length_eq
  have hp : (pickAll order names.length 0 (sortB names)).Perm names := (pick_perm order _ 0 _ hsl).trans (sortB_perm names)
  have hre := resort _ names hp hn
  have hz := rowsB_size (pickAll order names.length 0 (sortB names)) 8 (by rw [hp.length_eq]; exact h.few) fun x hx => hn x (hp.mem_iff.1 hx)
  have hz2 := rowsB_size (sortB names) 8 (by rw [hsl]; exact h.few) fun x hx => hn x ((sortB_perm names).mem_iff.1 hx)
  generalize rowsB (pickAll order names.length 0 (sortB names)) = T at hre hz ⊢
  have hl := hF.len
  have hf := h.few
  have r1 : stepRight ⟨3, [toB], yB, false⟩ = true := by decide +kernel
  have hto : toB ∉ names := fun hm => (h.no _ hm).1 rfl
  have hy : yB ∉ names := fun hm => (h.no _ hm).2 rfl
  have r2 : rightFiles (namesFiles names ++ [⟨toB, T⟩]) = true := by
    unfold rightFiles
    rw [rightFrom_of]
    · simp; omega
    · rw [List.map_append, List.nodup_append]
      refine ⟨hF.nodup, by simp, ?_⟩
      intro a ha b hb e
      simp only [List.map_cons, List.map_nil, List.mem_singleton] at hb
      obtain ⟨f, hf', rfl⟩ := List.mem_map.1 ha
      exact hto (by rw [← hb, ← e]; exact (hF.mem _).2 ⟨f, hf', rfl⟩)
    · intro f hf'
      rcases List.mem_append.1 hf' with hf' | hf'
      · exact ⟨hn _ ((hF.mem _).2 ⟨f, hf', rfl⟩), by rw [hF.text f hf']; decide, by simp⟩
      · rw [List.mem_singleton.1 hf']
        exact ⟨(by decide +kernel : isName toB = true), by show T.size ≤ _; omega, by simp⟩
  have r3 : findFile (namesFiles names ++ [⟨toB, T⟩]) yB = none := by
    rw [← Option.not_isSome_iff_eq_none, findFile_isSome]
    rintro ⟨f, hf', e⟩
    rcases List.mem_append.1 hf' with hf' | hf'
    · exact hy (e ▸ (hF.mem _).2 ⟨f, hf', rfl⟩)
    · rw [List.mem_singleton.1 hf'] at e
      exact absurd e (by decide +kernel : ¬ toB = yB)
  have r4 : sawOf (namesFiles names ++ [⟨toB, T⟩]) [toB] = some [T] := by
    have : findFile (namesFiles names ++ [⟨toB, T⟩]) toB = some T := by
      unfold findFile
      rw [List.find?_append]
      have hno : (namesFiles names).find? (fun f => decide (f.name = toB)) = none := by
        rw [List.find?_eq_none]
        intro f hf' e
        simp only [decide_eq_true_eq] at e
        exact hto (e ▸ (hF.mem _).2 ⟨f, hf', rfl⟩)
      rw [hno]
      simp
    simp [sawOf, this]
  unfold doStep
  rw [r1, r2]
  simp only [Bool.not_true, Bool.false_or]
  rw [r3, r4, if_neg (by decide), if_neg (by simp), if_neg (by simp; omega)]
  simp only
  rw [if_neg (by decide)]
  have hw : writeStep ⟨3, [toB], yB, false⟩ [T] [] [] 0 0 = (rowsB (sortB names), [T], 0, 0) := by
    unfold writeStep
    rw [if_neg (by decide), if_pos rfl]
    simp only [List.headD_cons]
    rw [hre]
  rw [hw, if_neg]
  show ¬ 65536 < (rowsB _).size
  omega

/-- No numbers: the names in order. -/
theorem list_none (names : List ByteArray) : pickAll [] names.length 0 (sortB names) = sortB names :=
  pick_zero [] _ 0 _ (sortB_perm names).length_eq fun v _ => by simp [List.getD]

/-- The last one first: the same exactly if there are no two. -/
theorem list_last (names : List ByteArray) (h : ListsIn names) :
    decide (rowsB (pickAll [-1] names.length 0 (sortB names)) = rowsB (sortB names)) = decide ((namesFiles names).length < 2) := by
  obtain ⟨hn, -⟩ := stepRight_list h.right
  have hF := filesOf_names names
  have hp := sortB_perm names
  have hs := sortB_sorted names
  rw [decide_eq_decide]
  have hone : (namesFiles names).length < 2 ↔ ∀ x, x ∈ names → ∀ y, y ∈ names → x = y := by
    constructor
    · intro hl x hx y hy
      obtain ⟨f, hf, rfl⟩ := (hF.mem x).1 hx
      obtain ⟨g, hg, rfl⟩ := (hF.mem y).1 hy
      match hq : namesFiles names, hl with
      | [], _ => rw [hq] at hf; cases hf
      | [q], _ =>
        rw [hq] at hf hg
        rw [List.mem_singleton.1 hf, List.mem_singleton.1 hg]
      | _ :: _ :: _, hl => simp at hl; omega
    · intro hall
      have hd := hF.nodup
      match hq : namesFiles names with
      | [] => simp
      | [q] => simp
      | q :: q2 :: r =>
        exfalso
        rw [hq] at hd
        have e := hall q.name ((hF.mem _).2 ⟨q, by rw [hq]; simp, rfl⟩) q2.name ((hF.mem _).2 ⟨q2, by rw [hq]; simp, rfl⟩)
        simp [e] at hd
  rw [hone]
  cases hS : sortB names with
  | nil =>
    have hnil : names = [] := by rw [hS] at hp; exact hp.symm.eq_nil
    subst hnil
    simp [pickAll]
  | cons x l =>
    have hlen : names.length = l.length + 1 := by rw [← hp.length_eq, hS]; rfl
    rw [hlen, pick_last x l]
    rw [hS] at hs hp
    constructor
    · intro he
      have hmem : ∀ y, y ∈ x :: l → isName y = true := fun y hy => hn y (hp.mem_iff.1 hy)
      have e := rowsB_inj (a := (x :: l).getLast (by simp) :: (x :: l).dropLast) (fun y hy => by
        rcases List.mem_cons.1 hy with rfl | hy
        · exact hmem _ (List.getLast_mem _)
        · exact hmem _ (List.dropLast_subset _ hy)) hmem he
      have e1 : (x :: l).getLast (by simp) = x := by injection e
      have key : ∀ y, y ∈ x :: l → y = x := by
        intro y hy
        have hle1 : leB x.data.toList y.data.toList = true := by
          rcases List.mem_cons.1 hy with rfl | hy
          · simp [leB]
          · exact (List.pairwise_cons.1 hs).1 y hy
        have hle2 : leB y.data.toList x.data.toList = true := by
          have h3 : ∀ (q : List ByteArray) (hq : q ≠ []), q.Pairwise (fun a b => leB a.data.toList b.data.toList = true) → ∀ y, y ∈ q → leB y.data.toList (q.getLast hq).data.toList = true := by
            intro q hq hpw y hy
            rw [← List.dropLast_concat_getLast hq] at hpw hy
            rcases List.mem_append.1 hy with hy | hy
            · exact (List.pairwise_append.1 hpw).2.2 y hy _ (by simp)
            · rw [List.mem_singleton.1 hy]
              simp [leB]
          have := h3 (x :: l) (by simp) hs y hy
          rw [e1] at this
          exact this
        exact bytes_ext (leB_anti hle2 hle1)
      intro a ha b hb
      rw [key a (hp.mem_iff.2 ha), key b (hp.mem_iff.2 hb)]
    · intro hall
      have key : ∀ y, y ∈ x :: l → y = x := fun y hy => hall y (hp.mem_iff.1 hy) x (hp.mem_iff.1 (by simp))
      have e1 : (x :: l).getLast (by simp) = x := key _ (List.getLast_mem _)
      have e2 : x :: l = List.replicate (l.length + 1) x := List.eq_replicate_of_mem key
      congr 1
      rw [e1]
      have e3 : (x :: l).dropLast = List.replicate l.length x := by
        rw [e2, List.dropLast_eq_take, List.take_replicate]; simp
      rw [e3]
      have e4 : l = List.replicate l.length x := List.eq_replicate_of_mem fun y hy => key y (List.mem_cons_of_mem _ hy)
      rw [← e4]
end Go.Proofs.YtacgopankhpnbaaGreatDoor
