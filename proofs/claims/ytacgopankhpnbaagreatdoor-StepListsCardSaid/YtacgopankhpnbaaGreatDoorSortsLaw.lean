/- The plain law of StepSorts: what a sorted text is. No program in sight. -/
import Derived.Test.YtacgopankhpnbaaGreatDoorRowsLaw
import Derived.Test.YtacgopankhpnbaaGreatDoorLawB
namespace Go.Proofs.YtacgopankhpnbaaGreatDoor

theorem toList_data (t : ByteArray) : t.toList = t.data.toList := ByteArray.toList_eq t
theorem toList_empty : ByteArray.empty.toList = [] := by rw [toList_data]; rfl

theorem rowsB_list (l : List ByteArray) : (rowsB l).data.toList = rowsS (l.map (·.data.toList)) := by
  show (rowsL l).toArray.toList = _
  simp [rowsL, rowsS, List.flatMap_map]

theorem sortB_list (l : List ByteArray) : (sortB l).map (·.data.toList) = msort (l.map (·.data.toList)) := by
  show (((l.map (·.data.toList)).mergeSort fun x y => decide (x ≤ y)).map fun x => (⟨x.toArray⟩ : ByteArray)).map (·.data.toList) = _
  rw [List.map_map]
  show List.map (fun x => x) _ = _
  rw [List.map_id']

theorem sortedLines_rowsS (t : ByteArray) (ls : List Bs) (ht : t.data.toList = rowsS ls) (h : ∀ y, y ∈ ls → (10 : UInt8) ∉ y) :
    (sortedLines t).map (·.data.toList) = msort ls := by
  cases ls with
  | nil =>
    have e : t = ByteArray.empty := bytes_ext (by rw [ht]; rfl)
    subst e
    have : msort [] = [] := by rw [msort_eq]; rfl
    rw [this, sortedLines, if_pos (by rw [List.isEmpty_iff]; exact toList_empty)]
    rfl
  | cons x r =>
    have hne : t.toList.isEmpty = false := by
      rw [toList_data, ht, rowsS_cons]
      simp
    rw [sortedLines, hne, if_neg (by simp), sortB_list, linesOf_rowsS t x r ht h]

theorem rows_sorted (t : ByteArray) (ls : List Bs) (ht : t.data.toList = rowsS ls) (h : ∀ y, y ∈ ls → (10 : UInt8) ∉ y) :
    (rowsB (sortedLines t)).data.toList = rowsS (msort ls) := by rw [rowsB_list, sortedLines_rowsS t ls ht h]

theorem rowsS_length (ls : List Bs) : (rowsS ls).length = (ls.map fun x => x.length + 1).sum := by
  induction ls with
  | nil => rfl
  | cons x r ih => rw [rowsS_cons]; simp [ih]; omega
theorem rowsS_perm {ls ls' : List Bs} (p : ls.Perm ls') : (rowsS ls).length = (rowsS ls').length := by
  rw [rowsS_length, rowsS_length]; exact (p.map _).sum_nat
theorem rowsS_append (a b : List Bs) : rowsS (a ++ b) = rowsS a ++ rowsS b := by simp [rowsS]

theorem linesAt_skip (t : ByteArray) (k : Nat) : ∀ j, (∀ i, k ≤ i → i < k + j → t.data.toList.getD i 0 ≠ 10) → linesAt t (k + j) = linesAt t k
  | 0, _ => rfl
  | j + 1, h => by
    show linesStep t (linesAt t (k + j)) (k + j) = _
    rw [linesAt_skip t k j fun i h1 h2 => h i h1 (by omega), linesStep, if_neg (h (k + j) (by omega) (by omega))]

theorem linesAt_line (t : ByteArray) (a x b : Bs) (ht : t.data.toList = a ++ (x ++ 10 :: b)) (hx : (10 : UInt8) ∉ x) :
    linesAt t (a.length + x.length + 1) = ⟨(linesAt t a.length).n + 1, a.length + x.length + 1, t.extract (linesAt t a.length).fr (a.length + x.length), (if (linesAt t a.length).n = 0 then true else (linesAt t a.length).rising) && (decide ((linesAt t a.length).n = 0) || leStr (linesAt t a.length).before (t.extract (linesAt t a.length).fr (a.length + x.length)))⟩ := by
  show linesStep t (linesAt t (a.length + x.length)) (a.length + x.length) = _
  rw [linesAt_skip t a.length x.length, linesStep, if_pos]
  · rw [ht]; simp [List.getD]
  · intro i h1 h2
    rw [ht]
    have e : (a ++ (x ++ 10 :: b)).getD i 0 = x.getD (i - a.length) 0 := by
      simp only [List.getD]
      rw [List.getElem?_append_right h1, List.getElem?_append_left (by omega)]
    rw [e]
    simp only [List.getD]
    rw [List.getElem?_eq_getElem (by omega)]
    intro e2
    exact hx (e2 ▸ List.getElem_mem _)

theorem extract_mid (t : ByteArray) (a x b : Bs) (ht : t.data.toList = a ++ (x ++ b)) : (t.extract a.length (a.length + x.length)).data.toList = x := by
  have e : (t.extract a.length (a.length + x.length)).data = t.data.extract a.length (a.length + x.length) := by simp
  rw [e, Array.toList_extract, ht, List.extract_eq_take_drop]
  simp

theorem linesAt_rows (t : ByteArray) : ∀ (q : List Bs) (b : Bs), t.data.toList = rowsS q.reverse ++ b → (∀ y, y ∈ q → (10 : UInt8) ∉ y) →
    (linesAt t (rowsS q.reverse).length).n = q.length ∧ (linesAt t (rowsS q.reverse).length).fr = (rowsS q.reverse).length ∧
    (linesAt t (rowsS q.reverse).length).before.data.toList = q.headD [] ∧
    (q ≠ [] → q.Pairwise (fun x y => leB y x = true) → (linesAt t (rowsS q.reverse).length).rising = true)
  | [], _, _, _ => ⟨rfl, rfl, rfl, fun h => absurd rfl h⟩
  | x :: q, b, ht, h => by
    have hr : rowsS (x :: q).reverse = rowsS q.reverse ++ (x ++ [10]) := by rw [List.reverse_cons, rowsS_append]; simp [rowsS]
    have ht' : t.data.toList = rowsS q.reverse ++ (x ++ 10 :: b) := by rw [ht, hr]; simp
    obtain ⟨i1, i2, i3, i4⟩ := linesAt_rows t q (x ++ 10 :: b) ht' fun y hy => h y (List.mem_cons_of_mem _ hy)
    have hl : (rowsS (x :: q).reverse).length = (rowsS q.reverse).length + x.length + 1 := by rw [hr]; simp; omega
    have hx := extract_mid t (rowsS q.reverse) x (10 :: b) ht'
    rw [hl, linesAt_line t (rowsS q.reverse) x b ht' (h x (List.mem_cons_self ..)), i1, i2]
    refine ⟨rfl, rfl, hx, fun _ hp => ?_⟩
    obtain ⟨hp1, hp2⟩ := List.pairwise_cons.1 hp
    cases q with
    | nil => rfl
    | cons y q =>
      have hy := hp1 y (List.mem_cons_self ..)
      rw [i4 (by simp) hp2]
      have : leStr (linesAt t (rowsS (y :: q).reverse).length).before (t.extract (rowsS (y :: q).reverse).length ((rowsS (y :: q).reverse).length + x.length)) = true := by
        unfold leStr
        rw [i3, hx]
        exact hy
      rw [this]
      simp

/-- How many lines a text of lines has. -/
theorem linesN_rows (t : ByteArray) (ls : List Bs) (ht : t.data.toList = rowsS ls) (h : ∀ y, y ∈ ls → (10 : UInt8) ∉ y) : linesN t = ls.length := by
  have := (linesAt_rows t ls.reverse [] (by simp [ht]) fun y hy => h y (by simpa using hy)).1
  have hs : t.size = (rowsS ls).length := by rw [← ht]; simp
  rw [linesN, hs]
  simpa using this

/-- A text of lines that ascend. -/
theorem linesOk_rows (t : ByteArray) (ls : List Bs) (ht : t.data.toList = rowsS ls) (h : ∀ y, y ∈ ls → (10 : UInt8) ∉ y) (hp : ls.Pairwise fun a b => leB a b = true) : linesOk t = true := by
  have hs : t.size = (rowsS ls).length := by rw [← ht]; simp
  obtain ⟨-, h2, -, h4⟩ := linesAt_rows t ls.reverse [] (by simp [ht]) fun y hy => h y (by simpa using hy)
  rw [List.reverse_reverse] at h2 h4
  rw [linesOk, hs, h2]
  cases ls with
  | nil =>
    have e : t = ByteArray.empty := bytes_ext (by rw [ht]; rfl)
    subst e
    show ((ByteArray.empty.toList.isEmpty) && _) = true
    rw [toList_empty]
    simp
  | cons x r =>
    rw [h4 (by simp) (by rw [List.pairwise_reverse]; exact hp)]
    simp

/-- The texts that StepSorts reads, once they are right. -/
structure SortsLaw (text row : ByteArray) : Prop where
  ok : linesOk (rowsB (sortedLines text)) = true
  same : linesN (rowsB (sortedLines text)) = linesN text
  size : (rowsB (sortedLines text)).size = text.size
  again : rowsB (sortedLines (rowsB (sortedLines text))) = rowsB (sortedLines text)
  ahead : rowsB (sortedLines ((row ++ nl) ++ text)) = rowsB (sortedLines ((text ++ row) ++ nl))
  more : (rowsB (sortedLines ((row ++ nl) ++ text))).size = text.size + row.size + 1

theorem sorts_law (text row : ByteArray) (ht : text.data.toList = [] ∨ text.data.toList.getLast? = some 10) (hr : (10 : UInt8) ∉ row.data.toList) : SortsLaw text row := by
  obtain ⟨ls, hl, hn⟩ := lines_exist _ ht
  have hm : ∀ y, y ∈ msort ls → (10 : UInt8) ∉ y := fun y hy => hn y ((msort_perm ls).mem_iff.1 hy)
  have hs := rows_sorted text ls hl hn
  have hsz : ∀ (t : ByteArray) (l : Bs), t.data.toList = l → t.size = l.length := fun t l e => by rw [← e]; simp
  have e1 : ((row ++ nl) ++ text).data.toList = rowsS (row.data.toList :: ls) := by
    rw [rowsS_cons, ← hl]; simp [nl]
  have e2 : ((text ++ row) ++ nl).data.toList = rowsS (ls ++ [row.data.toList]) := by
    rw [rowsS_append, ← hl]; simp [nl, rowsS]
  have hn1 : ∀ y, y ∈ row.data.toList :: ls → (10 : UInt8) ∉ y := fun y hy => by
    rcases List.mem_cons.1 hy with rfl | hy
    · exact hr
    · exact hn y hy
  have hn2 : ∀ y, y ∈ ls ++ [row.data.toList] → (10 : UInt8) ∉ y := fun y hy => by
    rcases List.mem_append.1 hy with hy | hy
    · exact hn y hy
    · rw [List.mem_singleton.1 hy]; exact hr
  have r1 := rows_sorted _ _ e1 hn1
  have r2 := rows_sorted _ _ e2 hn2
  have hp : (row.data.toList :: ls).Perm (ls ++ [row.data.toList]) := (List.perm_append_singleton _ _).symm
  refine ⟨linesOk_rows _ _ hs hm (msort_sorted ls), ?_, ?_, bytes_ext ?_, bytes_ext ?_, ?_⟩
  · rw [linesN_rows _ _ hs hm, linesN_rows _ _ hl hn]; exact (msort_perm ls).length_eq
  · rw [hsz _ _ hs, hsz _ _ hl]; exact rowsS_perm (msort_perm ls)
  · rw [rows_sorted _ _ hs hm, hs, msort_of_sorted (msort_sorted ls)]
  · rw [r1, r2, msort_of_perm hp]
  · rw [hsz _ _ r1, rowsS_perm (msort_perm _), rowsS_cons, hsz _ _ hl, hsz row _ rfl]
    simp; omega
end Go.Proofs.YtacgopankhpnbaaGreatDoor
