/- Walks of the limits of the reference of layer 15 (printed by gen_few.py). -/
import Derived.Test.YtiionicikdnnpaaGreatDoorWd
import Derived.Test.YtiionicikdnnpaaGreatDoorTopY
namespace Go.Proofs.YtiionicikdnnpaaGreatDoor
open Go.RowKit
set_option linter.unusedSimpArgs false
set_option linter.unusedVariables false

/-- A call says yes only if P. -/
structure SaysB (P : Prop) (e : Ending) : Prop where
  out : ∃ b : Bool, e = .returned (.bool b) ∧ (b = true → P)
theorem bounds_wrap {x : Int} (h1 : -9223372036854775808 ≤ x) (h2 : x ≤ 9223372036854775807) : IntKind.i64.wrap x = x := by
  simp only [IntKind.wrap_i64]
  omega
theorem all_step {α : Type} {P : α → Prop} {l : List α} {q : Nat} {x : α} (hx : l[q]? = some x) (ht : ∀ y ∈ l.take q, P y) (hp : P x) : ∀ y ∈ l.take (q + 1), P y := by
  rw [List.take_add_one, hx]
  intro y hy
  rcases List.mem_append.1 hy with h | h
  · exact ht y h
  · have h' : y = x := by simpa using h
    rw [h']; exact hp
theorem all_full {α : Type} {P : α → Prop} {l : List α} {q : Nat} (ht : ∀ y ∈ l.take q, P y) (hq : l.length ≤ q) : ∀ y ∈ l, P y := by
  rw [List.take_of_length_le hq] at ht
  exact ht
/-- nodes, for expressions that are not deeper than d. -/
def NoX (d : Nat) : Prop := ∀ (x : Xp) (N : Nat → Prop) (cx : List Value) (w : World) (most : Int), 0 ≤ most → most ≤ 1000 → bE x ≤ d → wX N w x cx →
  Calls Tryz.prog 96 #[.agg cx.toArray, .int .i64 most] w fun e w' => (∃ r : Int, e = .returned (.int .i64 r) ∧ 1 ≤ r ∧ r ≤ most + 1) ∧ Below w.heap.size w w'
set_option maxRecDepth 100000 in
set_option maxHeartbeats 16000000 in
theorem nodes_step (d : Nat) (hD : NoX d) : NoX (d + 1) := by
  rintro ⟨op, n, s, m, ns, xs⟩ N cx w most hm0 hm1 hd hx
  rw [wX_iff] at hx
  obtain ⟨v1, v2, rfl, hs1, hs2, hn, ha⟩ := hx
  obtain ⟨a1, c1, rfl, lb1, lb2, HN0⟩ := hn.at
  obtain ⟨a2, c2, rfl, la1, la2, HA0⟩ := ha.at
  have HA := Lib.hid HA0
  have HN := Lib.hid HN0
  have HD := Lib.hid hD
  have HDp : Hid (∀ x ∈ xs, bE x ≤ d) := Lib.hid (fun x hx => by
    have h1 := kW xs x hx
    rw [bE] at hd
    omega)
  have HB0 := Lib.hid (aB w (.cells #[.int .i64 op, .int .i64 n, .string s, .string m, .slice a1 ns.length c1, .slice a2 xs.length c2] 35))
  have HX := Lib.hid (heap_alloc_new w (.cells #[.int .i64 op, .int .i64 n, .string s, .string m, .slice a1 ns.length c1, .slice a2 xs.length c2] 35))
  have hX := HX.out
  obtain ⟨⟨x0, x1, x2, x3, x4, x5⟩, -⟩ := bx6 hX
  clear hX HA0 HN0 ha hn hD hd
  go_enter Tryz.func96, Tryz.ntmps96
  go_wp2_with fail
  go_loopw [5, 6] (fun nv iv wr => ∃ (q : Nat) (k : Int), q ≤ xs.length ∧ iv = .int .i64 (q : Int) ∧ nv = .int .i64 k ∧ 1 ≤ k ∧ k ≤ most + 1 ∧ Hid (Below (w.alloc (.cells #[.int .i64 op, .int .i64 n, .string s, .string m, .slice a1 ns.length c1, .slice a2 xs.length c2] 35)).heap.size (w.alloc (.cells #[.int .i64 op, .int .i64 n, .string s, .string m, .slice a1 ns.length c1, .slice a2 xs.length c2] 35)) wr)) (fun _ iv _ => xs.length - (intOf iv).toNat)
  case atStart => exact ⟨0, 1, Nat.zero_le _, rfl, rfl, by omega, by omega, Lib.hid (Below.refl _ _)⟩
  case round =>
    obtain ⟨q, k, hq, rfl, rfl, hk1, hk2, HW⟩ := hrel
    rename World => wr
    have hbx := aC HW.out HX.out
    clear x0 x1 x2 x3 x4 x5
    obtain ⟨⟨x0, x1, x2, x3, x4, x5⟩, -⟩ := bx6 hbx
    clear hbx
    by_cases hlt : q < xs.length
    · by_cases hk : k ≤ most
      · obtain ⟨x, hx, -⟩ := getElem?_of_lt hlt
        have hq0 : (0 : Int) ≤ (q : Int) ∧ (q : Int) < (xs.length : Int) := by omega
        have HXm := Lib.hid hx
        obtain ⟨b1, o1, rfl, -, cs1, he1, -, hj1⟩ := HA.out q x hx
        obtain ⟨op1, n1, s1, m1, i1, j1, k1, u1, z1, t1, rfl⟩ := wX_form he1
        have p10 : wr.cell? ⟨b1, o1 + q * 6, none⟩ = some (.int .i64 op1) := aD (aA HB0.out HW.out) (hj1 0 _ rfl)
        have p11 := aD (aA HB0.out HW.out) (hj1 1 _ rfl)
        have p12 := aD (aA HB0.out HW.out) (hj1 2 _ rfl)
        have p13 := aD (aA HB0.out HW.out) (hj1 3 _ rfl)
        have p14 := aD (aA HB0.out HW.out) (hj1 4 _ rfl)
        have p15 := aD (aA HB0.out HW.out) (hj1 5 _ rfl)
        have gw1 : IntKind.i64.wrap (most - k) = most - k := bounds_wrap (by omega) (by omega)
        have HRS := Lib.hid (fun W (hb : Below wr.heap.size wr W) => HD.out x N _ W (most - k) (by omega) (by omega) (HDp.out x (List.mem_of_getElem? hx)) (wX_ok _ _ _ _ _ _ (aQ.later (aA (aA HB0.out HW.out) hb)) he1))
        clear hj1 hx he1
        go_wp2_with fail
        refine (HRS.out _ (Below.refl _ _)).mono ?_
        rintro e w8 ⟨⟨r, rfl, hr1, hr2⟩, hb8⟩
        have gw2 : IntKind.i64.wrap (k + r) = k + r := bounds_wrap (by omega) (by omega)
        have HB8 := Lib.hid (aA HW.out hb8)
        clear hb8 HRS p10 p11 p12 p13 p14 p15 x0 x1 x2 x3 x4 x5
        go_wp2_with fail
        go_roundw
        case rel => exact ⟨q + 1, k + r, by omega, by go_num, rfl, by omega, by omega, HB8⟩
        case measure => simp [intOf]; omega
      · go_wp2_with fail
        go_ret
        exact ⟨⟨k, rfl, hk1, hk2⟩, aA HB0.out HW.out⟩
    · go_wp2_with fail
      go_ret
      exact ⟨⟨k, rfl, hk1, hk2⟩, aA HB0.out HW.out⟩
theorem noX_all : ∀ d, NoX d
  | 0 => fun x N cx w most _ _ h => by have := depth_pos x; omega
  | d + 1 => nodes_step d (noX_all d)
/-- short, for expressions that are not deeper than d. -/
def ShX (d : Nat) : Prop := ∀ (x : Xp) (N : Nat → Prop) (cx : List Value) (w : World), bE x ≤ d → wX N w x cx →
  Calls Tryz.prog 97 #[.agg cx.toArray] w fun e w' => SaysB (shX x) e ∧ Below w.heap.size w w'
set_option maxRecDepth 100000 in
set_option maxHeartbeats 16000000 in
theorem short_step (d : Nat) (hD : ShX d) : ShX (d + 1) := by
  rintro ⟨op, n, s, m, ns, xs⟩ N cx w hd hx
  rw [wX_iff] at hx
  obtain ⟨v1, v2, rfl, hs1, hs2, hn, ha⟩ := hx
  obtain ⟨a1, c1, rfl, lb1, lb2, HN0⟩ := hn.at
  obtain ⟨a2, c2, rfl, la1, la2, HA0⟩ := ha.at
  have HA := Lib.hid HA0
  have HN := Lib.hid HN0
  have HD := Lib.hid hD
  have HDp : Hid (∀ x ∈ xs, bE x ≤ d) := Lib.hid (fun x hx => by
    have h1 := kW xs x hx
    rw [bE] at hd
    omega)
  have HB0 := Lib.hid (aB w (.cells #[.int .i64 op, .int .i64 n, .string s, .string m, .slice a1 ns.length c1, .slice a2 xs.length c2] 35))
  have HX := Lib.hid (heap_alloc_new w (.cells #[.int .i64 op, .int .i64 n, .string s, .string m, .slice a1 ns.length c1, .slice a2 xs.length c2] 35))
  have hX := HX.out
  obtain ⟨⟨x0, x1, x2, x3, x4, x5⟩, -⟩ := bx6 hX
  clear hX HA0 HN0 ha hn hD hd
  go_enter Tryz.func97, Tryz.ntmps97
  go_wp2_with fail
  go_loopw [3] (fun iv wr => ∃ q : Nat, q ≤ ns.length ∧ iv = .int .i64 (q : Int) ∧ Hid (Below (w.alloc (.cells #[.int .i64 op, .int .i64 n, .string s, .string m, .slice a1 ns.length c1, .slice a2 xs.length c2] 35)).heap.size (w.alloc (.cells #[.int .i64 op, .int .i64 n, .string s, .string m, .slice a1 ns.length c1, .slice a2 xs.length c2] 35)) wr)) (fun iv _ => ns.length - (intOf iv).toNat)
  case atStart => exact ⟨0, Nat.zero_le _, rfl, Lib.hid (Below.refl _ _)⟩
  case round =>
    obtain ⟨q, hq, rfl, HW⟩ := hrel
    rename World => wr
    have hbx := aC HW.out HX.out
    clear x0 x1 x2 x3 x4 x5
    obtain ⟨⟨x0, x1, x2, x3, x4, x5⟩, -⟩ := bx6 hbx
    clear hbx
    by_cases hlt : q < ns.length
    · by_cases hk : (q : Int) ≤ 12
      · obtain ⟨x, hx, -⟩ := getElem?_of_lt hlt
        have hq0 : (0 : Int) ≤ (q : Int) ∧ (q : Int) < (ns.length : Int) := by omega
        obtain ⟨b1, o1, rfl, -, cs1, ⟨rfl, -⟩, -, hj1⟩ := HN.out q x hx
        have p0 : wr.cell? ⟨b1, o1 + q, none⟩ = some (.string x) := by have h := aD (aA HB0.out HW.out) (hj1 0 _ rfl); simpa using h
        clear hj1 hx
        by_cases hz : (30 : Int) < (x.size : Int)
        · go_wp2_with fail
          go_ret
          exact ⟨⟨false, rfl, fun h => by cases h⟩, aA HB0.out HW.out⟩
        · go_wp2_with fail
          go_roundw
          case rel => exact ⟨q + 1, by omega, by go_num, HW⟩
          case measure => simp [intOf]; omega
      · go_wp2_with fail
        clear hlt hk
        go_loopw [4] (fun iv wr => ∃ q : Nat, q ≤ xs.length ∧ iv = .int .i64 (q : Int) ∧ Hid (Below (w.alloc (.cells #[.int .i64 op, .int .i64 n, .string s, .string m, .slice a1 ns.length c1, .slice a2 xs.length c2] 35)).heap.size (w.alloc (.cells #[.int .i64 op, .int .i64 n, .string s, .string m, .slice a1 ns.length c1, .slice a2 xs.length c2] 35)) wr) ∧ Hid (∀ y ∈ xs.take q, shX y)) (fun iv _ => xs.length - (intOf iv).toNat)
        case atStart => exact ⟨0, Nat.zero_le _, rfl, HW, Lib.hid (by simp)⟩
        case round =>
          clear HW hq
          obtain ⟨q, hq, rfl, HW, HT⟩ := hrel
          rename World => wr
          have hbx := aC HW.out HX.out
          clear x0 x1 x2 x3 x4 x5
          obtain ⟨⟨x0, x1, x2, x3, x4, x5⟩, -⟩ := bx6 hbx
          clear hbx
          by_cases hlt : q < xs.length
          · obtain ⟨x, hx, -⟩ := getElem?_of_lt hlt
            have hq0 : (0 : Int) ≤ (q : Int) ∧ (q : Int) < (xs.length : Int) := by omega
            have HXm := Lib.hid hx
            obtain ⟨b1, o1, rfl, -, cs1, he1, -, hj1⟩ := HA.out q x hx
            obtain ⟨op1, n1, s1, m1, i1, j1, k1, u1, z1, t1, rfl⟩ := wX_form he1
            have p10 : wr.cell? ⟨b1, o1 + q * 6, none⟩ = some (.int .i64 op1) := aD (aA HB0.out HW.out) (hj1 0 _ rfl)
            have p11 := aD (aA HB0.out HW.out) (hj1 1 _ rfl)
            have p12 := aD (aA HB0.out HW.out) (hj1 2 _ rfl)
            have p13 := aD (aA HB0.out HW.out) (hj1 3 _ rfl)
            have p14 := aD (aA HB0.out HW.out) (hj1 4 _ rfl)
            have p15 := aD (aA HB0.out HW.out) (hj1 5 _ rfl)
            have HRS := Lib.hid (fun W (hb : Below wr.heap.size wr W) => HD.out x N _ W (HDp.out x (List.mem_of_getElem? hx)) (wX_ok _ _ _ _ _ _ (aQ.later (aA (aA HB0.out HW.out) hb)) he1))
            clear hj1 hx he1
            go_wp2_with fail
            refine (HRS.out _ (Below.refl _ _)).mono ?_
            rintro e w8 ⟨⟨sr, rfl, hsr⟩, hb8⟩
            have HB8 := Lib.hid (aA HW.out hb8)
            clear hb8 HRS p10 p11 p12 p13 p14 p15 x0 x1 x2 x3 x4 x5
            cases sr with
            | true =>
              have HT2 := Lib.hid (all_step HXm.out HT.out (hsr rfl))
              clear hsr
              go_wp2_with fail
              go_roundw
              case rel => exact ⟨q + 1, by omega, by go_num, HB8, HT2⟩
              case measure => simp [intOf]; omega
            | false =>
              go_wp2_with fail
              go_ret
              exact ⟨⟨false, rfl, fun h => by cases h⟩, aA HB0.out HB8.out⟩
          · have HF := Lib.hid (all_full HT.out (by omega))
            by_cases g1 : s.size ≤ 30
            · have g1' : (s.size : Int) ≤ 30 := by omega
              by_cases g2 : m.size ≤ 30
              · have g2' : (m.size : Int) ≤ 30 := by omega
                have HR : Hid (shX (.mk op n s m ns xs)) := Lib.hid (by unfold shX; exact ⟨g1, g2, (shXs_iff xs).2 HF.out⟩)
                clear g1 g2
                by_cases g3 : (ns.length : Int) ≤ 12
                · go_wp2_with fail
                  go_ret
                  exact ⟨⟨true, rfl, fun _ => HR.out⟩, aA HB0.out HW.out⟩
                · go_wp2_with fail
                  go_ret
                  exact ⟨⟨false, rfl, fun h => by cases h⟩, aA HB0.out HW.out⟩
              · have g2' : ¬ (m.size : Int) ≤ 30 := by omega
                clear g1 g2
                go_wp2_with fail
                go_ret
                exact ⟨⟨false, rfl, fun h => by cases h⟩, aA HB0.out HW.out⟩
            · have g1' : ¬ (s.size : Int) ≤ 30 := by omega
              clear g1
              go_wp2_with fail
              go_ret
              exact ⟨⟨false, rfl, fun h => by cases h⟩, aA HB0.out HW.out⟩
    · go_wp2_with fail
      go_loopw [4] (fun iv wr => ∃ q : Nat, q ≤ xs.length ∧ iv = .int .i64 (q : Int) ∧ Hid (Below (w.alloc (.cells #[.int .i64 op, .int .i64 n, .string s, .string m, .slice a1 ns.length c1, .slice a2 xs.length c2] 35)).heap.size (w.alloc (.cells #[.int .i64 op, .int .i64 n, .string s, .string m, .slice a1 ns.length c1, .slice a2 xs.length c2] 35)) wr) ∧ Hid (∀ y ∈ xs.take q, shX y)) (fun iv _ => xs.length - (intOf iv).toNat)
      case atStart => exact ⟨0, Nat.zero_le _, rfl, HW, Lib.hid (by simp)⟩
      case round =>
        clear HW hq
        obtain ⟨q, hq, rfl, HW, HT⟩ := hrel
        rename World => wr
        have hbx := aC HW.out HX.out
        clear x0 x1 x2 x3 x4 x5
        obtain ⟨⟨x0, x1, x2, x3, x4, x5⟩, -⟩ := bx6 hbx
        clear hbx
        by_cases hlt : q < xs.length
        · obtain ⟨x, hx, -⟩ := getElem?_of_lt hlt
          have hq0 : (0 : Int) ≤ (q : Int) ∧ (q : Int) < (xs.length : Int) := by omega
          have HXm := Lib.hid hx
          obtain ⟨b1, o1, rfl, -, cs1, he1, -, hj1⟩ := HA.out q x hx
          obtain ⟨op1, n1, s1, m1, i1, j1, k1, u1, z1, t1, rfl⟩ := wX_form he1
          have p10 : wr.cell? ⟨b1, o1 + q * 6, none⟩ = some (.int .i64 op1) := aD (aA HB0.out HW.out) (hj1 0 _ rfl)
          have p11 := aD (aA HB0.out HW.out) (hj1 1 _ rfl)
          have p12 := aD (aA HB0.out HW.out) (hj1 2 _ rfl)
          have p13 := aD (aA HB0.out HW.out) (hj1 3 _ rfl)
          have p14 := aD (aA HB0.out HW.out) (hj1 4 _ rfl)
          have p15 := aD (aA HB0.out HW.out) (hj1 5 _ rfl)
          have HRS := Lib.hid (fun W (hb : Below wr.heap.size wr W) => HD.out x N _ W (HDp.out x (List.mem_of_getElem? hx)) (wX_ok _ _ _ _ _ _ (aQ.later (aA (aA HB0.out HW.out) hb)) he1))
          clear hj1 hx he1
          go_wp2_with fail
          refine (HRS.out _ (Below.refl _ _)).mono ?_
          rintro e w8 ⟨⟨sr, rfl, hsr⟩, hb8⟩
          have HB8 := Lib.hid (aA HW.out hb8)
          clear hb8 HRS p10 p11 p12 p13 p14 p15 x0 x1 x2 x3 x4 x5
          cases sr with
          | true =>
            have HT2 := Lib.hid (all_step HXm.out HT.out (hsr rfl))
            clear hsr
            go_wp2_with fail
            go_roundw
            case rel => exact ⟨q + 1, by omega, by go_num, HB8, HT2⟩
            case measure => simp [intOf]; omega
          | false =>
            go_wp2_with fail
            go_ret
            exact ⟨⟨false, rfl, fun h => by cases h⟩, aA HB0.out HB8.out⟩
        · have HF := Lib.hid (all_full HT.out (by omega))
          by_cases g1 : s.size ≤ 30
          · have g1' : (s.size : Int) ≤ 30 := by omega
            by_cases g2 : m.size ≤ 30
            · have g2' : (m.size : Int) ≤ 30 := by omega
              have HR : Hid (shX (.mk op n s m ns xs)) := Lib.hid (by unfold shX; exact ⟨g1, g2, (shXs_iff xs).2 HF.out⟩)
              clear g1 g2
              by_cases g3 : (ns.length : Int) ≤ 12
              · go_wp2_with fail
                go_ret
                exact ⟨⟨true, rfl, fun _ => HR.out⟩, aA HB0.out HW.out⟩
              · go_wp2_with fail
                go_ret
                exact ⟨⟨false, rfl, fun h => by cases h⟩, aA HB0.out HW.out⟩
            · have g2' : ¬ (m.size : Int) ≤ 30 := by omega
              clear g1 g2
              go_wp2_with fail
              go_ret
              exact ⟨⟨false, rfl, fun h => by cases h⟩, aA HB0.out HW.out⟩
          · have g1' : ¬ (s.size : Int) ≤ 30 := by omega
            clear g1
            go_wp2_with fail
            go_ret
            exact ⟨⟨false, rfl, fun h => by cases h⟩, aA HB0.out HW.out⟩
theorem shX_all : ∀ d, ShX d
  | 0 => fun x N cx w h => by have := depth_pos x; omega
  | d + 1 => short_step d (shX_all d)
/-- ladingref15.nodes. -/
theorem nodes_any (x : Xp) {N : Nat → Prop} {cx : List Value} {w : World} (most : Int) (h0 : 0 ≤ most) (h1 : most ≤ 1000) (hx : wX N w x cx) :
    Calls Tryz.prog 96 #[.agg cx.toArray, .int .i64 most] w fun e w' => (∃ r : Int, e = .returned (.int .i64 r) ∧ 1 ≤ r ∧ r ≤ most + 1) ∧ Below w.heap.size w w' := noX_all _ x N cx w most h0 h1 (Nat.le_refl _) hx
theorem short_any (x : Xp) {N : Nat → Prop} {cx : List Value} {w : World} (hx : wX N w x cx) :
    Calls Tryz.prog 97 #[.agg cx.toArray] w fun e w' => SaysB (shX x) e ∧ Below w.heap.size w w' := shX_all _ x N cx w (Nat.le_refl _) hx
set_option maxRecDepth 100000 in
set_option maxHeartbeats 8000000 in
/-- ladingref15.FewExp. -/
theorem fewExp_any (x : Xp) {N : Nat → Prop} {cx : List Value} {w : World} (hx : wX N w x cx) :
    Calls Tryz.prog 35 #[.agg cx.toArray] w fun e w' => SaysB (shX x) e ∧ Below w.heap.size w w' := by
  obtain ⟨op, n, s, m, i1, j1, k1, u1, z1, t1, rfl⟩ := wX_form hx
  have HB0 := Lib.hid (aB w (.cells #[.int .i64 op, .int .i64 n, .string s, .string m, .slice i1 j1 k1, .slice u1 z1 t1] 35))
  have HX := Lib.hid (heap_alloc_new w (.cells #[.int .i64 op, .int .i64 n, .string s, .string m, .slice i1 j1 k1, .slice u1 z1 t1] 35))
  have hX := HX.out
  obtain ⟨⟨x0, x1, x2, x3, x4, x5⟩, -⟩ := bx6 hX
  have HE := Lib.hid (fun W (hb : Below w.heap.size w W) => wX_ok _ _ _ _ _ _ (aQ.later hb) hx)
  clear hX hx
  go_enter Tryz.func35, Tryz.ntmps35
  go_wp2_with fail
  refine (nodes_any x 120 (by decide) (by decide) (HE.out _ HB0.out)).mono ?_
  rintro e w2 ⟨⟨r, rfl, hr1, hr2⟩, hb2⟩
  have hbx := aC hb2 HX.out
  clear x0 x1 x2 x3 x4 x5
  obtain ⟨⟨x0, x1, x2, x3, x4, x5⟩, -⟩ := bx6 hbx
  have HB2 := Lib.hid (aA HB0.out hb2)
  clear hbx hb2
  by_cases hr : r ≤ 120
  · go_wp2_with fail
    refine (short_any x (HE.out _ HB2.out)).mono ?_
    rintro e w3 ⟨⟨b, rfl, hb⟩, hb3⟩
    have HB := Lib.hid hb
    clear hb
    go_wp2_with fail
    go_ret
    exact ⟨⟨b, rfl, HB.out⟩, aA HB2.out hb3⟩
  · go_wp2_with fail
    go_ret
    exact ⟨⟨false, rfl, fun h => by cases h⟩, HB2.out⟩
/-- parts, for types of at most d levels. -/
def PaT (d : Nat) : Prop := ∀ (x : Ty) (N : Nat → Prop) (cx : List Value) (w : World) (most : Int), 0 ≤ most → most ≤ 1000 → aZ x ≤ d → wT N w x cx →
  Calls Tryz.prog 147 #[.agg cx.toArray, .int .i64 most] w fun e w' => (∃ r : Int, e = .returned (.int .i64 r) ∧ 1 ≤ r ∧ r ≤ most + 1) ∧ Below w.heap.size w w'
set_option maxRecDepth 100000 in
set_option maxHeartbeats 16000000 in
theorem parts_step (d : Nat) (hD : PaT d) : PaT (d + 1) := by
  rintro ⟨kd, fs⟩ N cx w most hm0 hm1 hd hx
  rw [wT_iff] at hx
  obtain ⟨v1, rfl, hn⟩ := hx
  obtain ⟨a1, c1, rfl, la1, la2, HA0⟩ := hn.at
  have HA := Lib.hid HA0
  have HD := Lib.hid hD
  have HDp : Hid (∀ x ∈ fs, aZ x.2 ≤ d) := Lib.hid (fun x hx => by
    have h1 := jW fs x hx
    rw [aZ] at hd
    omega)
  have HB0 := Lib.hid (aB w (.cells #[.int .i64 kd, .slice a1 fs.length c1] 45))
  have HX := Lib.hid (heap_alloc_new w (.cells #[.int .i64 kd, .slice a1 fs.length c1] 45))
  have hX := HX.out
  obtain ⟨⟨x0, x1⟩, -⟩ := bx2 hX
  clear hX HA0 hn hD hd
  go_enter Tryz.func147, Tryz.ntmps147
  go_wp2_with fail
  go_loopw [5, 6] (fun nv iv wr => ∃ (q : Nat) (k : Int), q ≤ fs.length ∧ iv = .int .i64 (q : Int) ∧ nv = .int .i64 k ∧ 1 ≤ k ∧ k ≤ most + 1 ∧ Hid (Below (w.alloc (.cells #[.int .i64 kd, .slice a1 fs.length c1] 45)).heap.size (w.alloc (.cells #[.int .i64 kd, .slice a1 fs.length c1] 45)) wr)) (fun _ iv _ => fs.length - (intOf iv).toNat)
  case atStart => exact ⟨0, 1, Nat.zero_le _, rfl, rfl, by omega, by omega, Lib.hid (Below.refl _ _)⟩
  case round =>
    obtain ⟨q, k, hq, rfl, rfl, hk1, hk2, HW⟩ := hrel
    rename World => wr
    have hbx := aC HW.out HX.out
    clear x0 x1
    obtain ⟨⟨x0, x1⟩, -⟩ := bx2 hbx
    clear hbx
    by_cases hlt : q < fs.length
    · by_cases hk : k ≤ most
      · obtain ⟨x, hx, -⟩ := getElem?_of_lt hlt
        have hq0 : (0 : Int) ≤ (q : Int) ∧ (q : Int) < (fs.length : Int) := by omega
        have HXm := Lib.hid hx
        obtain ⟨nm, x⟩ := x
        obtain ⟨b1, o1, rfl, -, cs1, ⟨ct1, rfl, hnz, he1⟩, -, hj1⟩ := HA.out q (nm, x) hx
        obtain ⟨k1, i1, j1, z1, rfl⟩ := wT_form he1
        have p10 : wr.cell? ⟨b1, o1 + q * 3, none⟩ = some (.string nm) := aD (aA HB0.out HW.out) (hj1 0 _ rfl)
        have p11 : wr.cell? ⟨b1, o1 + q * 3 + 1, none⟩ = some (.int .i64 k1) := aD (aA HB0.out HW.out) (hj1 1 _ rfl)
        have p12 : wr.cell? ⟨b1, o1 + q * 3 + 1 + 1, none⟩ = some (.slice i1 j1 z1) := aD (aA HB0.out HW.out) (hj1 2 _ rfl)
        have gw1 : IntKind.i64.wrap (most - k) = most - k := bounds_wrap (by omega) (by omega)
        have HRS := Lib.hid (fun W (hb : Below wr.heap.size wr W) => HD.out x N _ W (most - k) (by omega) (by omega) (HDp.out (nm, x) (List.mem_of_getElem? hx)) (wT_ok _ _ _ _ _ _ (aQ.later (aA (aA HB0.out HW.out) hb)) he1))
        clear hj1 hx he1
        go_wp2_with fail
        refine (HRS.out _ (Below.refl _ _)).mono ?_
        rintro e w8 ⟨⟨r, rfl, hr1, hr2⟩, hb8⟩
        have gw2 : IntKind.i64.wrap (k + r) = k + r := bounds_wrap (by omega) (by omega)
        have HB8 := Lib.hid (aA HW.out hb8)
        clear hb8 HRS p10 p11 p12 x0 x1
        go_wp2_with fail
        go_roundw
        case rel => exact ⟨q + 1, k + r, by omega, by go_num, rfl, by omega, by omega, HB8⟩
        case measure => simp [intOf]; omega
      · go_wp2_with fail
        go_ret
        exact ⟨⟨k, rfl, hk1, hk2⟩, aA HB0.out HW.out⟩
    · go_wp2_with fail
      go_ret
      exact ⟨⟨k, rfl, hk1, hk2⟩, aA HB0.out HW.out⟩
theorem paT_all : ∀ d, PaT d
  | 0 => fun x N cx w most _ _ h => by have := levels_pos x; omega
  | d + 1 => parts_step d (paT_all d)
end Go.Proofs.YtiionicikdnnpaaGreatDoor
