/- Plain facts on the sort of strings. No program in sight. -/
import Derived.Test.YtacgopankhpnbaaGreatDoorDoSpec
namespace Go.Proofs.YtacgopankhpnbaaGreatDoor

abbrev leB (x y : List UInt8) : Bool := decide (x ≤ y)
theorem leB_trans (a b c : List UInt8) (h : leB a b = true) (k : leB b c = true) : leB a c = true := by
  simp only [leB, decide_eq_true_eq] at *; exact List.le_trans h k
theorem leB_total (a b : List UInt8) : (leB a b || leB b a) = true := by
  simp only [leB, Bool.or_eq_true, decide_eq_true_eq]; exact List.le_total a b
theorem leB_anti {a b : List UInt8} (h : leB a b = true) (k : leB b a = true) : a = b := by
  simp only [leB, decide_eq_true_eq] at *; exact List.le_antisymm h k

abbrev msort (l : List (List UInt8)) : List (List UInt8) := l.mergeSort fun x y => decide (x ≤ y)
theorem msort_sorted (l : List (List UInt8)) : (msort l).Pairwise fun a b => leB a b = true := List.pairwise_mergeSort leB_trans leB_total l
theorem msort_perm (l : List (List UInt8)) : (msort l).Perm l := List.mergeSort_perm l _
theorem sorted_unique {l l' : List (List UInt8)} (h : l.Pairwise fun a b => leB a b = true) (h' : l'.Pairwise fun a b => leB a b = true) (p : l.Perm l') : l = l' :=
  List.Perm.eq_of_pairwise (le := fun a b => leB a b = true) (fun _ _ _ _ h k => leB_anti h k) h h' p
theorem msort_of_perm {l l' : List (List UInt8)} (p : l.Perm l') : msort l = msort l' :=
  sorted_unique (msort_sorted l) (msort_sorted l') (((msort_perm l).trans p).trans (msort_perm l').symm)
theorem msort_of_sorted {l : List (List UInt8)} (h : l.Pairwise fun a b => leB a b = true) : msort l = l := List.mergeSort_of_pairwise h

/-- Insertion, for reckoning. -/
def insertS (x : List UInt8) : List (List UInt8) → List (List UInt8)
  | [] => [x]
  | y :: l => if leB x y then x :: y :: l else y :: insertS x l
def isort : List (List UInt8) → List (List UInt8)
  | [] => []
  | x :: l => insertS x (isort l)
theorem insertS_perm (x : List UInt8) (l : List (List UInt8)) : (insertS x l).Perm (x :: l) := by
  induction l with
  | nil => exact List.Perm.refl _
  | cons y l ih =>
    rw [insertS]
    split
    · exact List.Perm.refl _
    · exact ((ih.cons y).trans (List.Perm.swap x y l))
theorem insertS_sorted (x : List UInt8) (l : List (List UInt8)) (h : l.Pairwise fun a b => leB a b = true) : (insertS x l).Pairwise fun a b => leB a b = true := by
  induction l with
  | nil => simp [insertS]
  | cons y l ih =>
    rw [insertS]
    rw [List.pairwise_cons] at h
    split
    · rename_i hxy
      rw [List.pairwise_cons]
      refine ⟨fun z hz => ?_, List.pairwise_cons.2 h⟩
      rcases List.mem_cons.1 hz with rfl | hz
      · exact hxy
      · exact leB_trans _ _ _ hxy (h.1 z hz)
    · rename_i hxy
      have hyx : leB y x = true := by
        have := leB_total x y
        simp only [Bool.or_eq_true] at this
        rcases this with h' | h'
        · exact absurd h' hxy
        · exact h'
      rw [List.pairwise_cons]
      refine ⟨fun z hz => ?_, ih h.2⟩
      rcases List.mem_cons.1 ((insertS_perm x l).mem_iff.1 hz) with rfl | hz
      · exact hyx
      · exact h.1 z hz
theorem isort_perm (l : List (List UInt8)) : (isort l).Perm l := by
  induction l with
  | nil => exact List.Perm.refl _
  | cons x l ih => exact (insertS_perm x _).trans (ih.cons x)
theorem isort_sorted (l : List (List UInt8)) : (isort l).Pairwise fun a b => leB a b = true := by
  induction l with
  | nil => simp [isort]
  | cons x l ih => exact insertS_sorted x _ ih
theorem msort_eq (l : List (List UInt8)) : msort l = isort l := sorted_unique (msort_sorted l) (isort_sorted l) ((msort_perm l).trans (isort_perm l).symm)
theorem sortB_eq (l : List ByteArray) : sortB l = (isort (l.map (·.data.toList))).map fun x => ⟨x.toArray⟩ := by
  unfold sortB; rw [show (l.map (·.data.toList)).mergeSort (fun x y => decide (x ≤ y)) = isort (l.map (·.data.toList)) from msort_eq _]
example : sortB [⟨#[50]⟩, ⟨#[49]⟩] = [⟨#[49]⟩, ⟨#[50]⟩] := by rw [sortB_eq]; decide +kernel
end Go.Proofs.YtacgopankhpnbaaGreatDoor
