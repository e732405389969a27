/- Plain facts on texts and their lines. No program in sight. -/
import Derived.Test.YtacgopankhpnbaaGreatDoorSortLaw
import Derived.Lib.SplitLaws
namespace Go.Proofs.YtacgopankhpnbaaGreatDoor

abbrev Bs := List UInt8
/-- Lines as a text. -/
def rowsS (ls : List Bs) : Bs := ls.flatMap fun x => x ++ [10]
/-- Lines with a byte 10 between each two. -/
def joinS (x : Bs) (ls : List Bs) : Bs := x ++ ls.flatMap fun y => 10 :: y

theorem rowsS_cons (x : Bs) (ls : List Bs) : rowsS (x :: ls) = x ++ [10] ++ rowsS ls := by simp [rowsS]
theorem rowsS_joinS (x : Bs) (ls : List Bs) : rowsS (x :: ls) = joinS x ls ++ [10] := by
  induction ls generalizing x with
  | nil => simp [rowsS, joinS]
  | cons y ls ih => rw [rowsS_cons, ih y]; simp [joinS]

theorem index_none (x : Bs) (h : (10 : UInt8) ∉ x) : Lib.index x [10] = -1 := by
  induction x with
  | nil => rfl
  | cons b x ih =>
    rw [List.mem_cons, not_or] at h
    rw [Lib.index, ih h.2]
    have : ([10] : Bs).isPrefixOf (b :: x) = false := by
      have hb : ((10 : UInt8) == b) = false := by simpa using h.1
      simp [List.isPrefixOf, hb]
    rw [this]; simp
theorem index_at (x t : Bs) (h : (10 : UInt8) ∉ x) : Lib.index (x ++ 10 :: t) [10] = x.length := by
  induction x with
  | nil => simp [Lib.index, List.isPrefixOf]
  | cons b x ih =>
    rw [List.mem_cons, not_or] at h
    rw [List.cons_append, Lib.index, ih h.2]
    have : ([10] : Bs).isPrefixOf (b :: (x ++ 10 :: t)) = false := by
      have hb : ((10 : UInt8) == b) = false := by simpa using h.1
      simp [List.isPrefixOf, hb]
    rw [this]
    have h1 : ((x.length : Int) == -1) = false := by rw [beq_eq_false_iff_ne]; omega
    simp [h1]
theorem count_zero (x : Bs) (h : (10 : UInt8) ∉ x) : x.count 10 = 0 := List.count_eq_zero.2 h
theorem count_joinS (x : Bs) (ls : List Bs) (hx : (10 : UInt8) ∉ x) (h : ∀ y, y ∈ ls → (10 : UInt8) ∉ y) : (joinS x ls).count 10 = ls.length := by
  induction ls generalizing x with
  | nil => simp [joinS, count_zero x hx]
  | cons y ls ih =>
    have e : joinS x (y :: ls) = x ++ 10 :: joinS y ls := by simp [joinS]
    rw [e, List.count_append, count_zero x hx, List.count_cons, ih y (h y (by simp)) (fun z hz => h z (List.mem_cons_of_mem _ hz))]
    simp
theorem splitK_joinS (x : Bs) (ls : List Bs) (hx : (10 : UInt8) ∉ x) (h : ∀ y, y ∈ ls → (10 : UInt8) ∉ y) : Lib.splitK [10] 0 ls.length (joinS x ls) = x :: ls := by
  induction ls generalizing x with
  | nil => simp [joinS, Lib.splitK]
  | cons y ls ih =>
    have e : joinS x (y :: ls) = x ++ 10 :: joinS y ls := by simp [joinS]
    rw [e, List.length_cons, Lib.splitK, index_at x _ hx]
    have h1 : ((x.length : Int) == -1) = false := by rw [beq_eq_false_iff_ne]; omega
    rw [h1]
    simp only [Bool.false_eq_true, if_false, Int.toNat_natCast, Nat.add_zero, List.length_cons, List.length_nil, Nat.zero_add]
    rw [List.take_left, show x ++ 10 :: joinS y ls = (x ++ [10]) ++ joinS y ls by simp, List.drop_left' (by simp), ih y (h y (by simp)) (fun z hz => h z (List.mem_cons_of_mem _ hz))]
theorem trim_rowsS (x : Bs) (ls : List Bs) : Lib.trimSuffix (rowsS (x :: ls)) [10] = joinS x ls := by
  rw [rowsS_joinS]
  unfold Lib.trimSuffix Lib.hasSuffix
  have : ([10] : Bs).isSuffixOf (joinS x ls ++ [10]) = true := by rw [List.isSuffixOf_iff_suffix]; exact List.suffix_append _ _
  rw [this]; simp
/-- The lines of a text that consists of lines. -/
theorem linesOf_rowsS (t : ByteArray) (x : Bs) (ls : List Bs) (ht : t.data.toList = rowsS (x :: ls)) (h : ∀ y, y ∈ x :: ls → (10 : UInt8) ∉ y) : (linesOf t).map (·.data.toList) = x :: ls := by
  unfold linesOf
  rw [Lib.splitB_data, ht, trim_rowsS]
  have hc : Lib.countB ⟨(joinS x ls).toArray⟩ nl = ls.length := by
    show Lib.count (joinS x ls) [10] = _
    rw [Lib.count_one, count_joinS x ls (h x (by simp)) (fun y hy => h y (List.mem_cons_of_mem _ hy))]
  rw [hc]
  exact splitK_joinS x ls (h x (by simp)) (fun y hy => h y (List.mem_cons_of_mem _ hy))
/-- A text that is empty or ends with a byte 10 consists of lines. -/
theorem lines_exist (t : Bs) (h : t = [] ∨ t.getLast? = some 10) : ∃ ls, t = rowsS ls ∧ ∀ y, y ∈ ls → (10 : UInt8) ∉ y := by
  induction t with
  | nil => exact ⟨[], rfl, by simp⟩
  | cons b t ih =>
    have hl : (b :: t).getLast? = some 10 := by rcases h with h | h; cases h; exact h
    cases t with
    | nil =>
      simp at hl; subst hl
      exact ⟨[[]], rfl, by simp⟩
    | cons c t =>
      obtain ⟨ls, e, hls⟩ := ih (.inr (by simpa using hl))
      by_cases hb : b = 10
      · subst hb
        exact ⟨[] :: ls, by rw [rowsS_cons, ← e]; rfl, fun y hy => by rcases List.mem_cons.1 hy with rfl | hy; simp; exact hls y hy⟩
      · cases ls with
        | nil => simp [rowsS] at e
        | cons y ls =>
          refine ⟨(b :: y) :: ls, by rw [rowsS_cons, e, rowsS_cons]; simp, fun z hz => ?_⟩
          rcases List.mem_cons.1 hz with rfl | hz
          · intro hm
            rcases List.mem_cons.1 hm with e' | hm
            · exact hb e'.symm
            · exact hls y (by simp) hm
          · exact hls z (List.mem_cons_of_mem _ hz)
end Go.Proofs.YtacgopankhpnbaaGreatDoor
