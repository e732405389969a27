/- step.Do in one contract, every kind but StCompile. -/
import Derived.Test.YtacgopankhpnbaaGreatDoorDoB
namespace Go.Proofs.YtacgopankhpnbaaGreatDoor
open Go.RowKit

/-- What Do comes to. -/
def DoPost (w : World) (s : Stp) (files : List Fil) (u0 u1 : Int) (r : DoRes) (e : Ending) (w' : World) : Prop :=
  Below w.heap.size w w' ∧ match r with
    | .error c => e = .returned (doErr u0 u1 c)
    | .ok (text, saw, a, b) => ∃ vfl vsaw, e = .returned (.tuple #[vfl, vsaw, .agg #[.int .i64 a, .int .i64 b], .int .i64 0]) ∧ Fils w' vfl (doFiles s files text) ∧ Strs w' vsaw saw

theorem sawOf_texts {files : List Fil} (ht : ∀ f, f ∈ files → f.text.size ≤ 65536) : ∀ {src saw : List ByteArray}, sawOf files src = some saw → (∀ x, x ∈ saw → x.size ≤ 65536) ∧ saw.length = src.length
  | [], saw, h => by cases h; simp
  | y :: r, saw, h => by
    rw [sawOf] at h
    split at h
    · rename_i t l hf hr
      cases h
      obtain ⟨h1, h2⟩ := sawOf_texts ht hr
      refine ⟨fun x hx => ?_, by simp [h2]⟩
      rcases List.mem_cons.1 hx with rfl | hx
      · obtain ⟨f, hfm, rfl⟩ := findFile_mem hf
        exact ht f hfm
      · exact h1 x hx
    · cases h

theorem size_toArray (l : List UInt8) : (⟨l.toArray⟩ : ByteArray).size = l.length := by show l.toArray.size = _; simp

theorem writeStep_size {s : Stp} {saw : List ByteArray} {clock order : List Int} {u0 u1 : Int} (hr : stepRight s = true) (ht : ∀ x, x ∈ saw → x.size ≤ 65536) (hl : saw.length = s.src.length) (hc : ∀ x, x ∈ clock → (Lit.int .i64 x).wf = true) :
    (writeStep s saw clock order u0 u1).1.size ≤ 140737488355328 := by
  obtain ⟨hn, hout, hlen, hk⟩ := stepRight_parts hr
  have hsz : ∀ x, x ∈ s.src → x.size ≤ 20 := fun x hx => isName_size (hn x hx)
  have hhead : (saw.headD ByteArray.empty).size ≤ 65536 := by
    cases saw with
    | nil => decide
    | cons x l => exact ht x (by simp)
  unfold writeStep
  split
  · have := join_length saw 65536 ht
    show (⟨(Lib.join _ []).toArray⟩ : ByteArray).size ≤ _
    rw [size_toArray]; refine Nat.le_trans this ?_
    have : saw.length * 65536 ≤ 60 * 65536 := Nat.mul_le_mul (by omega) (Nat.le_refl _)
    omega
  · split
    · show (⟨(rowsL _).toArray⟩ : ByteArray).size ≤ _
      rw [size_toArray]; exact sortedLines_rows _ hhead
    · split
      · show ((_ ++ _) ++ _ : ByteArray).size ≤ _
        have hwx : (Lit.int .i64 (clock.getD u0.toNat 0)).wf = true := by
          rw [List.getD_eq_getElem?_getD]
          cases hh : clock[u0.toNat]? with
          | none => rfl
          | some y => exact hc y (List.mem_of_getElem? hh)
        obtain ⟨b0, b1⟩ := i64_bounds hwx
        have := wireInt_size _ b0 b1
        rw [ByteArray.size_append, ByteArray.size_append]
        have h1 : (⟨#[10]⟩ : ByteArray).size = 1 := rfl
        omega
      · split
        · show (⟨(rowsL _).toArray⟩ : ByteArray).size ≤ _
          rw [size_toArray]
          have := rowsL_length (sortB s.src) 20 (fun x hx => hsz x (mem_sortB hx))
          rw [sortB_length] at this
          omega
        · show (⟨(rowsL _).toArray⟩ : ByteArray).size ≤ _
          rw [size_toArray]
          have h1 := rowsL_length (pickAll order s.src.length u1.toNat (sortB s.src)) 20 (fun x hx => hsz x (mem_sortB (pickAll_mem hx)))
          have h2 := pickAll_length order s.src.length u1.toNat (sortB s.src)
          have h3 : (pickAll order s.src.length u1.toNat (sortB s.src)).length * (20 + 1) ≤ 60 * 21 := Nat.mul_le_mul (by omega) (by omega)
          omega

theorem do_any (C : ByteArray → Int × ByteArray) (s : Stp) (files : List Fil) (clock order : List Int) (vf vl vc vo vn : Value) (u0 u1 : Int) (w : World) (h : DoIn s files clock order vf vl vc vo vn u0 u1 w) (h5 : s.kind ≠ 5) :
    Calls Tryz.prog 17 (doArgs s vf vl vc vo vn u0 u1) w (DoPost w s files u0 u1 (doStep C s files clock order u0 u1)) := by
  by_cases hbad : stepRight s = false ∨ rightFiles files = false ∨ min u0 u1 < 0
  · have e : doStep C s files clock order u0 u1 = .error 1 := by
      unfold doStep
      rw [if_pos]
      rcases hbad with h | h | h <;> simp [h]
    rw [e]
    refine (do_arg s files clock order vf vl vc vo vn u0 u1 w h hbad).mono ?_
    rintro e w' ⟨rfl, hb⟩
    exact ⟨hb, rfl⟩
  · have hr1 : stepRight s = true := by cases hh : stepRight s with | true => rfl | false => exact absurd (.inl hh) hbad
    have hr2 : rightFiles files = true := by cases hh : rightFiles files with | true => rfl | false => exact absurd (.inr (.inl hh)) hbad
    have hmin : ¬ min u0 u1 < 0 := fun hh => hbad (.inr (.inr hh))
    have e0 : doStep C s files clock order u0 u1 = if (findFile files s.out).isSome then .error 5 else if 60 ≤ files.length then .error 6
        else match sawOf files s.src with | none => .error 4 | some saw => if 65536 < (writeStep s saw clock order u0 u1).1.size then .error 6 else .ok (writeStep s saw clock order u0 u1) := by
      unfold doStep
      rw [if_neg (by simp [hr1, hr2, decide_eq_false hmin])]
      split
      · rfl
      · split
        · rfl
        · cases sawOf files s.src with
          | none => rfl
          | some saw => simp only
    rw [e0]
    cases hf : findFile files s.out with
    | some t =>
      simp only [Option.isSome_some, if_true]
      refine (do_twice s files clock order vf vl vc vo vn u0 u1 w h hr1 hr2 hmin t hf).mono ?_
      rintro e w' ⟨rfl, hb⟩
      exact ⟨hb, rfl⟩
    | none =>
      simp only [Option.isSome_none, Bool.false_eq_true, if_false]
      by_cases hfull : 60 ≤ files.length
      · rw [if_pos hfull]
        refine (do_full s files clock order vf vl vc vo vn u0 u1 w h hr1 hr2 hmin hf hfull).mono ?_
        rintro e w' ⟨rfl, hb⟩
        exact ⟨hb, rfl⟩
      · rw [if_neg hfull]
        refine do_main s files clock order vf vl vc vo vn u0 u1 w h hr1 hr2 hmin hf hfull _ (fun hs W' hW => ?_)
          (fun saw text err saw' a b => err = 0 ∧ (text, saw', a, b) = writeStep s saw clock order u0 u1) (fun saw hs bx vs W hWI => ?_) (fun saw hs text err saw' a b hP => ?_)
        · rw [hs]; exact ⟨hW, rfl⟩
        · refine (write_any s saw clock order bx vs vc vo vn vf u0 u1 W hWI h5).mono ?_
          rintro e w' ⟨vs', rfl, h1, h2, h3⟩
          exact ⟨vs', _, 0, _, _, _, rfl, h1, h2, h3, rfl, rfl⟩
        · obtain ⟨rfl, hw⟩ := hP
          obtain ⟨ht, hl⟩ := sawOf_texts (rightFiles_text hr2) hs
          have hsz := writeStep_size (order := order) (u0 := u0) (u1 := u1) hr1 ht hl h.hcwf
          rw [hs]
          simp only
          rw [← hw] at hsz ⊢
          refine ⟨hsz, fun h => absurd rfl h, fun _ hbig W' hW => ?_, fun _ hbig W' vfl vsaw hW h1 h2 => ?_⟩
          · rw [if_pos hbig]; exact ⟨hW, rfl⟩
          · rw [if_neg hbig]; exact ⟨hW, vfl, vsaw, rfl, h1, h2⟩
end Go.Proofs.YtacgopankhpnbaaGreatDoor
