/- Walks of the limits of the reference of layer 15 (printed by gen_few.py). -/
import Derived.Test.YtiionicikdnnpaaGreatDoorWd
import Derived.Test.YtiionicikdnnpaaGreatDoorFewA
namespace Go.Proofs.YtiionicikdnnpaaGreatDoor
open Go.RowKit
set_option linter.unusedSimpArgs false
set_option linter.unusedVariables false

/-- named, for types of at most d levels. -/
def NaT (d : Nat) : Prop := ∀ (x : Ty) (N : Nat → Prop) (cx : List Value) (w : World), aZ x ≤ d → wT N w x cx →
  Calls Tryz.prog 148 #[.agg cx.toArray] w fun e w' => SaysB (shT x) e ∧ Below w.heap.size w w'
set_option maxRecDepth 100000 in
set_option maxHeartbeats 16000000 in
theorem named_step (d : Nat) (hD : NaT d) : NaT (d + 1) := by
  rintro ⟨kd, fs⟩ N cx w hd hx
  rw [wT_iff] at hx
  obtain ⟨v1, rfl, hn⟩ := hx
  obtain ⟨a1, c1, rfl, la1, la2, HA0⟩ := hn.at
  have HA := Lib.hid HA0
  have HD := Lib.hid hD
  have HDp : Hid (∀ x ∈ fs, aZ x.2 ≤ d) := Lib.hid (fun x hx => by
    have h1 := jW fs x hx
    rw [aZ] at hd
    omega)
  have HB0 := Lib.hid (aB w (.cells #[.int .i64 kd, .slice a1 fs.length c1] 45))
  have HX := Lib.hid (heap_alloc_new w (.cells #[.int .i64 kd, .slice a1 fs.length c1] 45))
  have hX := HX.out
  obtain ⟨⟨x0, x1⟩, -⟩ := bx2 hX
  clear hX HA0 hn hD hd
  go_enter Tryz.func148, Tryz.ntmps148
  go_wp2_with fail
  go_loopw [3] (fun iv wr => ∃ q : Nat, q ≤ fs.length ∧ iv = .int .i64 (q : Int) ∧ Hid (Below (w.alloc (.cells #[.int .i64 kd, .slice a1 fs.length c1] 45)).heap.size (w.alloc (.cells #[.int .i64 kd, .slice a1 fs.length c1] 45)) wr) ∧ Hid (∀ y ∈ fs.take q, y.1.size ≤ 30 ∧ shT y.2)) (fun iv _ => fs.length - (intOf iv).toNat)
  case atStart => exact ⟨0, Nat.zero_le _, rfl, Lib.hid (Below.refl _ _), Lib.hid (by simp)⟩
  case round =>
    obtain ⟨q, hq, rfl, HW, HT⟩ := hrel
    rename World => wr
    have hbx := aC HW.out HX.out
    clear x0 x1
    obtain ⟨⟨x0, x1⟩, -⟩ := bx2 hbx
    clear hbx
    by_cases hlt : q < fs.length
    · obtain ⟨x, hx, -⟩ := getElem?_of_lt hlt
      have hq0 : (0 : Int) ≤ (q : Int) ∧ (q : Int) < (fs.length : Int) := by omega
      have HXm := Lib.hid hx
      obtain ⟨nm, x⟩ := x
      obtain ⟨b1, o1, rfl, -, cs1, ⟨ct1, rfl, hnz, he1⟩, -, hj1⟩ := HA.out q (nm, x) hx
      obtain ⟨k1, i1, j1, z1, rfl⟩ := wT_form he1
      have p10 : wr.cell? ⟨b1, o1 + q * 3, none⟩ = some (.string nm) := aD (aA HB0.out HW.out) (hj1 0 _ rfl)
      have p11 : wr.cell? ⟨b1, o1 + q * 3 + 1, none⟩ = some (.int .i64 k1) := aD (aA HB0.out HW.out) (hj1 1 _ rfl)
      have p12 : wr.cell? ⟨b1, o1 + q * 3 + 1 + 1, none⟩ = some (.slice i1 j1 z1) := aD (aA HB0.out HW.out) (hj1 2 _ rfl)
      by_cases hz : (30 : Int) < (nm.size : Int)
      · clear hj1 hx he1
        go_wp2_with fail
        go_ret
        exact ⟨⟨false, rfl, fun h => by cases h⟩, aA HB0.out HW.out⟩
      · have HRS := Lib.hid (fun W (hb : Below wr.heap.size wr W) => HD.out x N _ W (HDp.out (nm, x) (List.mem_of_getElem? hx)) (wT_ok _ _ _ _ _ _ (aQ.later (aA (aA HB0.out HW.out) hb)) he1))
        clear hj1 hx he1
        go_wp2_with fail
        refine (HRS.out _ (Below.refl _ _)).mono ?_
        rintro e w8 ⟨⟨sr, rfl, hsr⟩, hb8⟩
        have HB8 := Lib.hid (aA HW.out hb8)
        clear hb8 HRS p10 p11 p12 x0 x1
        cases sr with
        | true =>
          have HT2 := Lib.hid (all_step HXm.out HT.out ⟨by show nm.size ≤ 30; omega, hsr rfl⟩)
          clear hsr
          go_wp2_with fail
          go_roundw
          case rel => exact ⟨q + 1, by omega, by go_num, HB8, HT2⟩
          case measure => simp [intOf]; omega
        | false =>
          go_wp2_with fail
          go_ret
          exact ⟨⟨false, rfl, fun h => by cases h⟩, aA HB0.out HB8.out⟩
    · have HR : Hid (shT (.mk kd fs)) := Lib.hid (by unfold shT; exact (shFs_iff fs).2 (all_full HT.out (by omega)))
      go_wp2_with fail
      go_ret
      exact ⟨⟨true, rfl, fun _ => HR.out⟩, aA HB0.out HW.out⟩
theorem naT_all : ∀ d, NaT d
  | 0 => fun x N cx w h => by have := levels_pos x; omega
  | d + 1 => named_step d (naT_all d)
theorem parts_any (x : Ty) {N : Nat → Prop} {cx : List Value} {w : World} (most : Int) (h0 : 0 ≤ most) (h1 : most ≤ 1000) (hx : wT N w x cx) :
    Calls Tryz.prog 147 #[.agg cx.toArray, .int .i64 most] w fun e w' => (∃ r : Int, e = .returned (.int .i64 r) ∧ 1 ≤ r ∧ r ≤ most + 1) ∧ Below w.heap.size w w' := paT_all _ x N cx w most h0 h1 (Nat.le_refl _) hx
theorem named_any (x : Ty) {N : Nat → Prop} {cx : List Value} {w : World} (hx : wT N w x cx) :
    Calls Tryz.prog 148 #[.agg cx.toArray] w fun e w' => SaysB (shT x) e ∧ Below w.heap.size w w' := naT_all _ x N cx w (Nat.le_refl _) hx
set_option maxRecDepth 100000 in
set_option maxHeartbeats 8000000 in
/-- ladingref15.FewType. -/
theorem fewType_any (x : Ty) {N : Nat → Prop} {cx : List Value} {w : World} (hx : wT N w x cx) :
    Calls Tryz.prog 65 #[.agg cx.toArray] w fun e w' => SaysB (shT x) e ∧ Below w.heap.size w w' := by
  obtain ⟨k1, i1, j1, z1, rfl⟩ := wT_form hx
  have HB0 := Lib.hid (aB w (.cells #[.int .i64 k1, .slice i1 j1 z1] 45))
  have HX := Lib.hid (heap_alloc_new w (.cells #[.int .i64 k1, .slice i1 j1 z1] 45))
  have hX := HX.out
  obtain ⟨⟨x0, x1⟩, -⟩ := bx2 hX
  have HE := Lib.hid (fun W (hb : Below w.heap.size w W) => wT_ok _ _ _ _ _ _ (aQ.later hb) hx)
  clear hX hx
  go_enter Tryz.func65, Tryz.ntmps65
  go_wp2_with fail
  refine (parts_any x 40 (by decide) (by decide) (HE.out _ HB0.out)).mono ?_
  rintro e w2 ⟨⟨r, rfl, hr1, hr2⟩, hb2⟩
  have hbx := aC hb2 HX.out
  clear x0 x1
  obtain ⟨⟨x0, x1⟩, -⟩ := bx2 hbx
  have HB2 := Lib.hid (aA HB0.out hb2)
  clear hbx hb2
  by_cases hr : r ≤ 40
  · go_wp2_with fail
    refine (named_any x (HE.out _ HB2.out)).mono ?_
    rintro e w3 ⟨⟨b, rfl, hb⟩, hb3⟩
    have HB := Lib.hid hb
    clear hb
    go_wp2_with fail
    go_ret
    exact ⟨⟨b, rfl, HB.out⟩, aA HB2.out hb3⟩
  · go_wp2_with fail
    go_ret
    exact ⟨⟨false, rfl, fun h => by cases h⟩, HB2.out⟩
end Go.Proofs.YtiionicikdnnpaaGreatDoor
