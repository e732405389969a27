/- Walk: slices.Compact at versions (printed by gen_gdb.py). -/
import Derived.Test.YtmpopphjaggeoaaGreatDoorKAN
import Derived.Test.YtmpopphjaggeoaaGreatDoorLA
import Derived.Deep.MidRow
import Derived.BigQuiet
namespace Go.Proofs.YtmpopphjaggeoaaGreatDoor
open Go.RowKit Go.Shelf Go.Lib Go.Sort
set_option linter.unusedSimpArgs false
set_option linter.unusedVariables false

theorem range_laterB {w w' : World} {b o : Nat} {cs : List Value} (hb : Below w.heap.size w w') (h : w.rangeAt b o cs) : w'.rangeAt b o cs := fun j u hu => aD hb (h j u hu)
theorem neqVer (v u : Ver) (w : World) : (binOp .neq 23 (.agg #[.int .i64 v.a, .int .i64 v.b, .int .i64 v.c]) (.agg #[.int .i64 u.a, .int .i64 u.b, .int .i64 u.c])).run Tryz.prog w = .ok (.bool (!decide (v = u))) w := by
  rw [run_neq_struct, show (10000 : Nat) = 9998 + 2 from rfl, eqVerIn]
  rfl
theorem rowH_range {α : Type} {enc : α → List Value} {k : Nat} {w : World} {g o : Nat} {l : List α} {i : Nat} {x : α} (h : RowH enc k w g o l) (hx : l[i]? = some x) : w.rangeAt g (o + i * k) (enc x) := fun j u hu => by rw [Nat.add_assoc]; exact (h i x hx j u hu).1
theorem rowH_there {w : World} {g o i : Nat} {l : List Ver} {x : Ver} (h : RowH verC 3 w g o l) (hx : l[i]? = some x) : w.there g (o + i * 3) 3 := fun j hj => by
  obtain ⟨h1, h2⟩ := h i x hx j ((verC x)[j]'(by simpa [verC] using hj)) (List.getElem?_eq_getElem _)
  rw [Nat.add_assoc]
  exact ⟨by rw [h1]; rfl, h2⟩
theorem below_drewB (B : Nat) (w : World) : Below B w w.drew := (Below.refl B w).drew
theorem dedup_one (l : List Ver) : dedupV (l.take 1) = l.take 1 := by
  cases l with
  | nil => rfl
  | cons a r => rfl
/-- A version is stored over another one of the row. -/
theorem rowH_set {w : World} {g o i : Nat} {l : List Ver} {x y : Ver} (h : RowH verC 3 w g o l) (hi : l[i]? = some y) : RowH verC 3 (w.setCells g (o + i * 3) (verC x)) g o (l.set i x) := by
  intro q z hz j u hu
  have hq := (List.getElem?_eq_some_iff.1 hz).1
  have hj : j < 3 := (List.getElem?_eq_some_iff.1 hu).1
  rw [World.frozen?_setCells]
  by_cases e : q = i
  · subst e
    have hzx : z = x := by
      rw [List.getElem?_set_self (by simpa using hq)] at hz
      exact (Option.some.inj hz).symm
    subst hzx
    have ht := rowH_there h hi
    have h1 := World.rangeAt_setCells_same w g (o + q * 3) (verC z) ht j u hu
    rw [Nat.add_assoc] at h1
    exact ⟨h1, by have := (ht j hj).2; rwa [Nat.add_assoc] at this⟩
  · have hz2 : l[q]? = some z := by rwa [List.getElem?_set_ne (fun h9 => e h9.symm)] at hz
    obtain ⟨h1, h2⟩ := h q z hz2 j u hu
    have h3 := World.rangeAt_setCells_apart (rowH_range h hz2) g (o + i * 3) (verC x) (by
      have e1 : (verC z).length = 3 := rfl
      have e2 : (verC x).length = 3 := rfl
      rcases Nat.lt_or_gt_of_ne e with h9 | h9
      · exact .inr (.inl (by omega))
      · exact .inr (.inr (by omega))) j u hu
    rw [Nat.add_assoc] at h3
    exact ⟨h3, h2⟩
theorem drop_at {α : Type} {a b : List α} {m i : Nat} (h : a.drop m = b.drop m) (hi : m ≤ i) : a[i]? = b[i]? := by
  have h9 := congrArg (fun t : List α => t[i - m]?) h
  simp only [List.getElem?_drop] at h9
  rwa [show m + (i - m) = i by omega] at h9
theorem set_take {L : List Ver} {d : Nat} {x z : Ver} (hz : L[d]? = some z) : (L.set d x).take (d + 1) = L.take d ++ [x] := by
  have hd := (List.getElem?_eq_some_iff.1 hz).1
  rw [List.take_add_one, List.getElem?_set_self (by exact hd)]
  rw [List.take_set_of_le (Nat.le_refl _)]
  rfl
theorem rowH_thereAll {w : World} {g o d : Nat} {L : List Ver} (h : RowH verC 3 w g o L) (hd : d ≤ L.length) : w.there g (o + d * 3) ((L.length - d) * 3) := fun j hj => by
  obtain ⟨x, hx, -⟩ := getElem?_of_lt (l := L) (k := d + j / 3) (by omega)
  obtain ⟨h1, h2⟩ := h _ x hx (j % 3) ((verC x)[j % 3]'(by show j % 3 < 3; omega)) (List.getElem?_eq_getElem _)
  rw [show o + ((d + j / 3) * 3 + j % 3) = o + d * 3 + j by omega] at h1 h2
  exact ⟨by rw [h1]; rfl, h2⟩
theorem rowH_clear {w : World} {g o : Nat} {L : List Ver} (h : RowH verC 3 w g o L) (d : Nat) (vs : List Value) : RowH verC 3 (w.setCells g (o + d * 3) vs) g o (L.take d) := by
  intro i x hx j u hu
  have hi : i < d := by
    have := (List.getElem?_eq_some_iff.1 hx).1
    rw [List.length_take] at this; omega
  rw [List.getElem?_take_of_lt hi] at hx
  obtain ⟨h1, h2⟩ := h i x hx j u hu
  have h3 := World.rangeAt_setCells_apart (rowH_range h hx) g (o + d * 3) vs (.inr (.inl (by
    have e1 : (verC x).length = 3 := rfl
    omega))) j u hu
  rw [Nat.add_assoc] at h3
  rw [World.frozen?_setCells]
  exact ⟨h3, h2⟩
def zV : Array Value := #[.int .i64 0, .int .i64 0, .int .i64 0]
theorem run_clearV (w : World) (ty : TypeId) (g oo n c : Nat) (hn : 0 < n) (ht : w.there g oo (n * 3)) : (Builtin.clear_ #[55] ty #[.slice (some ⟨g, oo, none⟩) n c]).run Tryz.prog w = .ok (.tuple #[]) (w.setCells g oo (Builtin.zeroCells zV n).toList) := by
    have hz : (Builtin.zeroCells zV n).size = n * 3 := size_zeroCells _ _
    have hv : (zeroValue 23).run Tryz.prog w = .ok (.agg zV) w := by
      obtain ⟨i0, hi0, hz0, hz1, hz2⟩ := info_parts verInfo
      simp [zeroValue, typeInfo, hi0, hz0, zV]
    have hst := run_storeCells_cells (P := Tryz.prog) g oo (Builtin.zeroCells zV n).toList 0 w (fun j hj => by
      have := (ht j (by rw [← hz]; simpa using hj)).1
      simpa using this) (fun j hj => by
      have := (ht j (by rw [← hz]; simpa using hj)).2
      simpa using this) (fun v hv => by
      obtain ⟨i, hi, rfl⟩ := List.mem_iff_getElem.1 hv
      simp only [Builtin.zeroCells, Array.getElem_toList, Array.getElem_map, Array.getElem_range]
      have h3 : i % zV.size < 3 := Nat.mod_lt _ (by decide)
      rw [show zV.size = 3 from rfl]
      rw [show zV.size = 3 from rfl] at h3
      generalize i % 3 = q at *
      match q, h3 with
      | 0, _ => rfl
      | 1, _ => rfl
      | 2, _ => rfl
      | q + 3, h3 => omega)
    simp only [Nat.add_zero] at hst
    obtain ⟨m, rfl⟩ : ∃ m, n = m + 1 := ⟨n - 1, by omega⟩
    simp [Builtin.clear_, run_underlying Tryz.underlying55, hv, hst, Value.cells]
theorem below_setCells {B g : Nat} (hB : B ≤ g) : ∀ (vs : List Value) (o : Nat) {a w : World}, Below B a w → Below B a (w.setCells g o vs)
  | [], _, _, _, h => h
  | v :: r, o, a, w, h => by
    rw [World.setCells]
    exact below_setCells hB r (o + 1) (h.setCell (p := ⟨g, o, none⟩) hB v)
set_option maxRecDepth 100000 in
set_option maxHeartbeats 64000000 in
theorem compact_long (l : List Ver) (B g o cap : Nat) (w : World) (hH : RowH verC 3 w g o l) (hg : g < w.heap.size) (hB : B ≤ g) (h2 : 2 ≤ l.length) (hl : l.length ≤ 1000000) (hc : l.length ≤ cap) (hc2 : cap ≤ 9223372036854775807) :
    Calls Tryz.prog 57 #[.slice (some ⟨g, o, none⟩) l.length cap] w fun e w' => e = .returned (.slice (some ⟨g, o, none⟩) (dedupV l).length cap) ∧ Below B w w' ∧ RowH verC 3 w' g o (dedupV l) := by
  have HH := Lib.hid hH
  have hlen2 : ¬ (l.length : Int) < 2 := by omega
  clear hH
  go_enter Tryz.func57, Tryz.ntmps57
  go_wp2_with fail
  go_loopw [3] (fun kv wr => ∃ k : Nat, 1 ≤ k ∧ k ≤ l.length ∧ kv = .int .i64 (k : Int) ∧ Hid (Below B w wr) ∧ Hid (RowH verC 3 wr g o l) ∧ Hid (dedupV (l.take k) = l.take k)) (fun kv _ => l.length - (intOf kv).toNat)
  case atStart => exact ⟨1, Nat.le_refl _, by omega, rfl, Lib.hid (Below.refl _ _), HH, Lib.hid (dedup_one l)⟩
  case round =>
    obtain ⟨k, hk1, hk, rfl, HW, HR, HD⟩ := hrel
    rename World => wr
    by_cases hlt : k < l.length
    · obtain ⟨x, hx, -⟩ := getElem?_of_lt hlt
      obtain ⟨y, hy, -⟩ := getElem?_of_lt (show k - 1 < l.length by omega)
      have hq0 : (0 : Int) ≤ (k : Int) ∧ (k : Int) < (l.length : Int) := by omega
      have hq1 : (0 : Int) ≤ (k : Int) - 1 ∧ (k : Int) - 1 < (l.length : Int) := by omega
      have hw1 : IntKind.i64.wrap ((k : Int) - 1) = (k : Int) - 1 := bN (by omega) (by omega)
      have hkn : ((k : Int) - 1).toNat = k - 1 := by omega
      have hk1i : ¬ (k : Int) < 1 := by omega
      have HX := Lib.hid (rowH_range HR.out hx)
      have HY := Lib.hid (rowH_range HR.out hy)
      have HDt := Lib.hid (dedup_take (by omega) hy hx)
      have HR8 : Hid (RowH verC 3 wr.drew g o l) := Lib.hid HR.out
      have HW8 := Lib.hid (HW.out.trans (below_drewB B wr))
      have hg8 : g < wr.drew.heap.size := Nat.lt_of_lt_of_le hg HW.out.size
      by_cases hxy : x = y
      · subst hxy
        have hveq := fun W => eqVer x x W
        rw [decide_eq_true (rfl : x = x)] at hveq
        have HDe : Hid (dedupV (l.take (k + 1)) = l.take k) := Lib.hid (by rw [HDt.out, if_pos rfl, HD.out])
        clear hx hy HDt HD
        go_wp2_with fail
        refine wp_region_held_drew (S := fun W => Below wr.heap.size wr W) (by kernel_rfl) (aL wr) fun hS => ?_
        refine wpAnyH_take (i := 0) (v := .slice (some ⟨g, o, none⟩) l.length cap) rfl (by kernel_rfl) (by kernel_rfl) (by kernel_rfl) (fun _ _ _ h => h) (Or.inl ⟨by kernel_rfl, fun W hW => by go_simp⟩) hS ?_
        try simp only [Act.put, List.getElem_toArray, List.getElem_cons_zero, List.getElem_cons_succ, List.setIfInBounds_toArray, List.set_cons_zero, List.set_cons_succ]
        refine wpAnyH_take (i := 1) (v := .int .i64 (k : Int)) rfl (by kernel_rfl) (by kernel_rfl) (by kernel_rfl) (fun _ _ _ h => h) (Or.inl ⟨by kernel_rfl, fun W hW => by go_simp⟩) hS ?_
        try simp only [Act.put, List.getElem_toArray, List.getElem_cons_zero, List.getElem_cons_succ, List.setIfInBounds_toArray, List.set_cons_zero, List.set_cons_succ]
        refine wpAnyH_take (i := 2) (v := .pointer (some ⟨g, o + k * 3, none⟩)) rfl (by kernel_rfl) (by kernel_rfl) (by kernel_rfl) (fun _ _ _ h => h) (Or.inl ⟨by kernel_rfl, fun W hW => by go_simp⟩) hS ?_
        try simp only [Act.put, List.getElem_toArray, List.getElem_cons_zero, List.getElem_cons_succ, List.setIfInBounds_toArray, List.set_cons_zero, List.set_cons_succ]
        refine wpAnyH_take (i := 3) (v := .agg #[.int .i64 x.a, .int .i64 x.b, .int .i64 x.c]) rfl (by kernel_rfl) (by kernel_rfl) (by kernel_rfl) (fun _ _ _ h => h) (yieldsIf_load_mid (by kernel_rfl) 23 (.tmp 18) rfl g (o + k * 3) rfl (verC x) _ (fun W hW => range_laterB hW HX.out) Tryz.underlying23 rfl (by kernel_rfl)) hS ?_
        try simp only [Act.put, List.getElem_toArray, List.getElem_cons_zero, List.getElem_cons_succ, List.setIfInBounds_toArray, List.set_cons_zero, List.set_cons_succ]
        refine wpAnyH_take (i := 4) (v := .slice (some ⟨g, o, none⟩) l.length cap) rfl (by kernel_rfl) (by kernel_rfl) (by kernel_rfl) (fun _ _ _ h => h) (Or.inl ⟨by kernel_rfl, fun W hW => by go_simp⟩) hS ?_
        try simp only [Act.put, List.getElem_toArray, List.getElem_cons_zero, List.getElem_cons_succ, List.setIfInBounds_toArray, List.set_cons_zero, List.set_cons_succ]
        refine wpAnyH_take (i := 5) (v := .int .i64 (k : Int)) rfl (by kernel_rfl) (by kernel_rfl) (by kernel_rfl) (fun _ _ _ h => h) (Or.inl ⟨by kernel_rfl, fun W hW => by go_simp⟩) hS ?_
        try simp only [Act.put, List.getElem_toArray, List.getElem_cons_zero, List.getElem_cons_succ, List.setIfInBounds_toArray, List.set_cons_zero, List.set_cons_succ]
        refine wpAnyH_take (i := 6) (v := .int .i64 ((k : Int) - 1)) rfl (by kernel_rfl) (by kernel_rfl) (by kernel_rfl) (fun _ _ _ h => h) (Or.inl ⟨by kernel_rfl, fun W hW => by go_simp⟩) hS ?_
        try simp only [Act.put, List.getElem_toArray, List.getElem_cons_zero, List.getElem_cons_succ, List.setIfInBounds_toArray, List.set_cons_zero, List.set_cons_succ]
        refine wpAnyH_take (i := 7) (v := .pointer (some ⟨g, o + (k - 1) * 3, none⟩)) rfl (by kernel_rfl) (by kernel_rfl) (by kernel_rfl) (fun _ _ _ h => h) (Or.inl ⟨by kernel_rfl, fun W hW => by go_simp⟩) hS ?_
        try simp only [Act.put, List.getElem_toArray, List.getElem_cons_zero, List.getElem_cons_succ, List.setIfInBounds_toArray, List.set_cons_zero, List.set_cons_succ]
        refine wpAnyH_take (i := 8) (v := .agg #[.int .i64 x.a, .int .i64 x.b, .int .i64 x.c]) rfl (by kernel_rfl) (by kernel_rfl) (by kernel_rfl) (fun _ _ _ h => h) (yieldsIf_load_mid (by kernel_rfl) 23 (.tmp 23) rfl g (o + (k - 1) * 3) rfl (verC x) _ (fun W hW => range_laterB hW HY.out) Tryz.underlying23 rfl (by kernel_rfl)) hS ?_
        try simp only [Act.put, List.getElem_toArray, List.getElem_cons_zero, List.getElem_cons_succ, List.setIfInBounds_toArray, List.set_cons_zero, List.set_cons_succ]
        refine wpAnyH_take (i := 9) (v := .bool true) rfl (by kernel_rfl) (by kernel_rfl) (by kernel_rfl) (fun _ _ _ h => h) (Or.inl ⟨by kernel_rfl, fun W hW => by go_simp⟩) hS ?_
        try simp only [Act.put, List.getElem_toArray, List.getElem_cons_zero, List.getElem_cons_succ, List.setIfInBounds_toArray, List.set_cons_zero, List.set_cons_succ]
        refine wpAnyH_done (by kernel_rfl) ?_ _
        clear HX HY hS hveq HW HR
        generalize wr.drew = w8 at *
        go_wp2_with fail
        generalize hr : l.length - k = r at *
        generalize cap - k = c4 at *
        have hr2 : k + r = l.length := by omega
        have HRr := Lib.hid hr2
        have hr0 : 1 ≤ r := by omega
        have hrm : r ≤ 1000000 := by omega
        have hkm : k ≤ 1000000 := by omega
        clear hr hr2 hq0 hq1 hw1 hkn hk1i hlt hk
        go_loopw [3, 5] (fun kv nv wi => ∃ (d n : Nat) (L : List Ver), 1 ≤ n ∧ n ≤ r ∧ 1 ≤ d ∧ d + 1 ≤ k + n ∧ kv = .int .i64 (d : Int) ∧ nv = .int .i64 (n : Int) ∧ Hid (L.length = l.length) ∧ Hid (Below B w wi) ∧ Hid (RowH verC 3 wi g o L) ∧ Hid (L.take d = dedupV (l.take (k + n))) ∧ Hid (L.drop (k + n - 1) = l.drop (k + n - 1))) (fun _ nv _ => r - (intOf nv).toNat)
        case atStart => exact ⟨k, 1, l, Nat.le_refl _, hr0, hk1, Nat.le_refl _, rfl, rfl, Lib.hid rfl, HW8, HR8, Lib.hid HDe.out.symm, Lib.hid rfl⟩
        case round =>
          obtain ⟨d, n, L, hn1, hnr, hd1, hdn, rfl, rfl, HLl, HWi, HRi, HTi, HDi⟩ := hrel
          rename World => wi
          have hrr := HRr.out
          have hll := HLl.out
          by_cases hlt2 : n < r
          · obtain ⟨x2, hx2, -⟩ := getElem?_of_lt (l := l) (k := k + n) (by omega)
            obtain ⟨y2, hy2, -⟩ := getElem?_of_lt (l := l) (k := k + n - 1) (by omega)
            obtain ⟨z2, hz2, -⟩ := getElem?_of_lt (l := L) (k := d) (by omega)
            have hLx : L[k + n]? = some x2 := by rw [← hx2]; exact drop_at HDi.out (by omega)
            have hLy : L[k + n - 1]? = some y2 := by rw [← hy2]; exact drop_at HDi.out (Nat.le_refl _)
            have HX2 : Hid (wi.rangeAt g (o + k * 3 + n * 3) (verC x2)) := Lib.hid (by have h9 := rowH_range HRi.out hLx; rwa [show o + (k + n) * 3 = o + k * 3 + n * 3 by omega] at h9)
            have HY2 : Hid (wi.rangeAt g (o + k * 3 + (n - 1) * 3) (verC y2)) := Lib.hid (by have h9 := rowH_range HRi.out hLy; rwa [show o + (k + n - 1) * 3 = o + k * 3 + (n - 1) * 3 by omega] at h9)
            have hq0 : (0 : Int) ≤ (n : Int) ∧ (n : Int) < (r : Int) := by omega
            have hq1 : (0 : Int) ≤ (n : Int) - 1 ∧ (n : Int) - 1 < (r : Int) := by omega
            have hw1 : IntKind.i64.wrap ((n : Int) - 1) = (n : Int) - 1 := bN (by omega) (by omega)
            have hkn : ((n : Int) - 1).toNat = n - 1 := by omega
            have hk1i : ¬ (n : Int) < 1 := by omega
            have HDt := Lib.hid (dedup_take (l := l) (m := k + n) (by omega) hy2 hx2)
            have HR8i : Hid (RowH verC 3 wi.drew g o L) := Lib.hid HRi.out
            have HW8i := Lib.hid (HWi.out.trans (below_drewB B wi))
            have hLd := HDi.out
            have HDn : Hid (L.drop (k + (n + 1) - 1) = l.drop (k + (n + 1) - 1)) := Lib.hid (by have h9 := congrArg (List.drop 1) hLd; rwa [List.drop_drop, List.drop_drop, show k + n - 1 + 1 = k + (n + 1) - 1 by omega] at h9)
            by_cases hxy2 : x2 = y2
            · subst hxy2
              have hveq := fun W => neqVer x2 x2 W
              rw [decide_eq_true (rfl : x2 = x2)] at hveq
              have HT2 : Hid (L.take d = dedupV (l.take (k + (n + 1)))) := Lib.hid (by have h9 := HDt.out; rw [if_pos rfl] at h9; rw [HTi.out, ← h9]; rfl)
              clear hx2 hy2 hz2 hLx hLy hLd HDt HTi HDi hrr hll
              go_wp2_with fail
              refine wp_region_held_drew (S := fun W => Below wi.heap.size wi W) (by kernel_rfl) (aL wi) fun hS => ?_
              refine wpAnyH_take (i := 0) (v := .slice (some ⟨g, o + k * 3, none⟩) r c4) rfl (by kernel_rfl) (by kernel_rfl) (by kernel_rfl) (fun _ _ _ h => h) (Or.inl ⟨by kernel_rfl, fun W hW => by go_simp⟩) hS ?_
              try simp only [Act.put, List.getElem_toArray, List.getElem_cons_zero, List.getElem_cons_succ, List.setIfInBounds_toArray, List.set_cons_zero, List.set_cons_succ]
              refine wpAnyH_take (i := 1) (v := .int .i64 (n : Int)) rfl (by kernel_rfl) (by kernel_rfl) (by kernel_rfl) (fun _ _ _ h => h) (Or.inl ⟨by kernel_rfl, fun W hW => by go_simp⟩) hS ?_
              try simp only [Act.put, List.getElem_toArray, List.getElem_cons_zero, List.getElem_cons_succ, List.setIfInBounds_toArray, List.set_cons_zero, List.set_cons_succ]
              refine wpAnyH_take (i := 2) (v := .pointer (some ⟨g, o + k * 3 + n * 3, none⟩)) rfl (by kernel_rfl) (by kernel_rfl) (by kernel_rfl) (fun _ _ _ h => h) (Or.inl ⟨by kernel_rfl, fun W hW => by go_simp⟩) hS ?_
              try simp only [Act.put, List.getElem_toArray, List.getElem_cons_zero, List.getElem_cons_succ, List.setIfInBounds_toArray, List.set_cons_zero, List.set_cons_succ]
              refine wpAnyH_take (i := 3) (v := .agg #[.int .i64 x2.a, .int .i64 x2.b, .int .i64 x2.c]) rfl (by kernel_rfl) (by kernel_rfl) (by kernel_rfl) (fun _ _ _ h => h) (yieldsIf_load_mid (by kernel_rfl) 23 (.tmp 37) rfl g (o + k * 3 + n * 3) rfl (verC x2) _ (fun W hW => range_laterB hW HX2.out) Tryz.underlying23 rfl (by kernel_rfl)) hS ?_
              try simp only [Act.put, List.getElem_toArray, List.getElem_cons_zero, List.getElem_cons_succ, List.setIfInBounds_toArray, List.set_cons_zero, List.set_cons_succ]
              refine wpAnyH_take (i := 4) (v := .slice (some ⟨g, o + k * 3, none⟩) r c4) rfl (by kernel_rfl) (by kernel_rfl) (by kernel_rfl) (fun _ _ _ h => h) (Or.inl ⟨by kernel_rfl, fun W hW => by go_simp⟩) hS ?_
              try simp only [Act.put, List.getElem_toArray, List.getElem_cons_zero, List.getElem_cons_succ, List.setIfInBounds_toArray, List.set_cons_zero, List.set_cons_succ]
              refine wpAnyH_take (i := 5) (v := .int .i64 (n : Int)) rfl (by kernel_rfl) (by kernel_rfl) (by kernel_rfl) (fun _ _ _ h => h) (Or.inl ⟨by kernel_rfl, fun W hW => by go_simp⟩) hS ?_
              try simp only [Act.put, List.getElem_toArray, List.getElem_cons_zero, List.getElem_cons_succ, List.setIfInBounds_toArray, List.set_cons_zero, List.set_cons_succ]
              refine wpAnyH_take (i := 6) (v := .int .i64 ((n : Int) - 1)) rfl (by kernel_rfl) (by kernel_rfl) (by kernel_rfl) (fun _ _ _ h => h) (Or.inl ⟨by kernel_rfl, fun W hW => by go_simp⟩) hS ?_
              try simp only [Act.put, List.getElem_toArray, List.getElem_cons_zero, List.getElem_cons_succ, List.setIfInBounds_toArray, List.set_cons_zero, List.set_cons_succ]
              refine wpAnyH_take (i := 7) (v := .pointer (some ⟨g, o + k * 3 + (n - 1) * 3, none⟩)) rfl (by kernel_rfl) (by kernel_rfl) (by kernel_rfl) (fun _ _ _ h => h) (Or.inl ⟨by kernel_rfl, fun W hW => by go_simp⟩) hS ?_
              try simp only [Act.put, List.getElem_toArray, List.getElem_cons_zero, List.getElem_cons_succ, List.setIfInBounds_toArray, List.set_cons_zero, List.set_cons_succ]
              refine wpAnyH_take (i := 8) (v := .agg #[.int .i64 x2.a, .int .i64 x2.b, .int .i64 x2.c]) rfl (by kernel_rfl) (by kernel_rfl) (by kernel_rfl) (fun _ _ _ h => h) (yieldsIf_load_mid (by kernel_rfl) 23 (.tmp 42) rfl g (o + k * 3 + (n - 1) * 3) rfl (verC x2) _ (fun W hW => range_laterB hW HY2.out) Tryz.underlying23 rfl (by kernel_rfl)) hS ?_
              try simp only [Act.put, List.getElem_toArray, List.getElem_cons_zero, List.getElem_cons_succ, List.setIfInBounds_toArray, List.set_cons_zero, List.set_cons_succ]
              refine wpAnyH_take (i := 9) (v := .bool false) rfl (by kernel_rfl) (by kernel_rfl) (by kernel_rfl) (fun _ _ _ h => h) (Or.inl ⟨by kernel_rfl, fun W hW => by go_simp⟩) hS ?_
              try simp only [Act.put, List.getElem_toArray, List.getElem_cons_zero, List.getElem_cons_succ, List.setIfInBounds_toArray, List.set_cons_zero, List.set_cons_succ]
              refine wpAnyH_done (by kernel_rfl) ?_ _
              clear HX2 HY2 hS hveq HWi HRi
              generalize wi.drew = w9 at *
              go_wp2_with fail
              go_roundw
              case rel => exact ⟨d, n + 1, L, by omega, by omega, hd1, by omega, rfl, by go_num, HLl, HW8i, HR8i, HT2, HDn⟩
              case measure => simp [intOf] <;> omega
            · have hveq := fun W => neqVer x2 y2 W
              rw [decide_eq_false hxy2] at hveq
              have hqd : (0 : Int) ≤ (d : Int) ∧ (d : Int) < (l.length : Int) := by omega
              have HLs : Hid ((L.set d x2).length = l.length) := Lib.hid (by rw [List.length_set]; exact HLl.out)
              have HT2 : Hid ((L.set d x2).take (d + 1) = dedupV (l.take (k + (n + 1)))) := Lib.hid (by have h9 := HDt.out; rw [if_neg (fun e => hxy2 e.symm), ← HTi.out] at h9; rw [set_take hz2]; exact h9.symm)
              have HDs : Hid ((L.set d x2).drop (k + (n + 1) - 1) = l.drop (k + (n + 1) - 1)) := Lib.hid (by rw [← HDn.out, List.drop_set, if_pos (by omega)])
              have HTh : Hid (wi.drew.there g (o + d * 3) 3) := Lib.hid (rowH_there HR8i.out hz2)
              have HRs : Hid (RowH verC 3 (wi.drew.setCells g (o + d * 3) (verC x2)) g o (L.set d x2)) := Lib.hid (rowH_set HR8i.out hz2)
              have HWs : Hid (Below B w (wi.drew.setCells g (o + d * 3) (verC x2))) := Lib.hid (below_setCells hB _ _ HW8i.out)
              have HX9 : Hid (wi.drew.rangeAt g (o + k * 3 + n * 3) (verC x2)) := Lib.hid HX2.out
              have hwd : IntKind.i64.wrap ((d : Int) + 1) = (d : Int) + 1 := bN (by omega) (by omega)
              clear hx2 hy2 hz2 hLx hLy hLd HDt HTi HDi hrr hll
              go_wp2_with fail
              refine wp_region_held_drew (S := fun W => Below wi.heap.size wi W) (by kernel_rfl) (aL wi) fun hS => ?_
              refine wpAnyH_take (i := 0) (v := .slice (some ⟨g, o + k * 3, none⟩) r c4) rfl (by kernel_rfl) (by kernel_rfl) (by kernel_rfl) (fun _ _ _ h => h) (Or.inl ⟨by kernel_rfl, fun W hW => by go_simp⟩) hS ?_
              try simp only [Act.put, List.getElem_toArray, List.getElem_cons_zero, List.getElem_cons_succ, List.setIfInBounds_toArray, List.set_cons_zero, List.set_cons_succ]
              refine wpAnyH_take (i := 1) (v := .int .i64 (n : Int)) rfl (by kernel_rfl) (by kernel_rfl) (by kernel_rfl) (fun _ _ _ h => h) (Or.inl ⟨by kernel_rfl, fun W hW => by go_simp⟩) hS ?_
              try simp only [Act.put, List.getElem_toArray, List.getElem_cons_zero, List.getElem_cons_succ, List.setIfInBounds_toArray, List.set_cons_zero, List.set_cons_succ]
              refine wpAnyH_take (i := 2) (v := .pointer (some ⟨g, o + k * 3 + n * 3, none⟩)) rfl (by kernel_rfl) (by kernel_rfl) (by kernel_rfl) (fun _ _ _ h => h) (Or.inl ⟨by kernel_rfl, fun W hW => by go_simp⟩) hS ?_
              try simp only [Act.put, List.getElem_toArray, List.getElem_cons_zero, List.getElem_cons_succ, List.setIfInBounds_toArray, List.set_cons_zero, List.set_cons_succ]
              refine wpAnyH_take (i := 3) (v := .agg #[.int .i64 x2.a, .int .i64 x2.b, .int .i64 x2.c]) rfl (by kernel_rfl) (by kernel_rfl) (by kernel_rfl) (fun _ _ _ h => h) (yieldsIf_load_mid (by kernel_rfl) 23 (.tmp 37) rfl g (o + k * 3 + n * 3) rfl (verC x2) _ (fun W hW => range_laterB hW HX2.out) Tryz.underlying23 rfl (by kernel_rfl)) hS ?_
              try simp only [Act.put, List.getElem_toArray, List.getElem_cons_zero, List.getElem_cons_succ, List.setIfInBounds_toArray, List.set_cons_zero, List.set_cons_succ]
              refine wpAnyH_take (i := 4) (v := .slice (some ⟨g, o + k * 3, none⟩) r c4) rfl (by kernel_rfl) (by kernel_rfl) (by kernel_rfl) (fun _ _ _ h => h) (Or.inl ⟨by kernel_rfl, fun W hW => by go_simp⟩) hS ?_
              try simp only [Act.put, List.getElem_toArray, List.getElem_cons_zero, List.getElem_cons_succ, List.setIfInBounds_toArray, List.set_cons_zero, List.set_cons_succ]
              refine wpAnyH_take (i := 5) (v := .int .i64 (n : Int)) rfl (by kernel_rfl) (by kernel_rfl) (by kernel_rfl) (fun _ _ _ h => h) (Or.inl ⟨by kernel_rfl, fun W hW => by go_simp⟩) hS ?_
              try simp only [Act.put, List.getElem_toArray, List.getElem_cons_zero, List.getElem_cons_succ, List.setIfInBounds_toArray, List.set_cons_zero, List.set_cons_succ]
              refine wpAnyH_take (i := 6) (v := .int .i64 ((n : Int) - 1)) rfl (by kernel_rfl) (by kernel_rfl) (by kernel_rfl) (fun _ _ _ h => h) (Or.inl ⟨by kernel_rfl, fun W hW => by go_simp⟩) hS ?_
              try simp only [Act.put, List.getElem_toArray, List.getElem_cons_zero, List.getElem_cons_succ, List.setIfInBounds_toArray, List.set_cons_zero, List.set_cons_succ]
              refine wpAnyH_take (i := 7) (v := .pointer (some ⟨g, o + k * 3 + (n - 1) * 3, none⟩)) rfl (by kernel_rfl) (by kernel_rfl) (by kernel_rfl) (fun _ _ _ h => h) (Or.inl ⟨by kernel_rfl, fun W hW => by go_simp⟩) hS ?_
              try simp only [Act.put, List.getElem_toArray, List.getElem_cons_zero, List.getElem_cons_succ, List.setIfInBounds_toArray, List.set_cons_zero, List.set_cons_succ]
              refine wpAnyH_take (i := 8) (v := .agg #[.int .i64 y2.a, .int .i64 y2.b, .int .i64 y2.c]) rfl (by kernel_rfl) (by kernel_rfl) (by kernel_rfl) (fun _ _ _ h => h) (yieldsIf_load_mid (by kernel_rfl) 23 (.tmp 42) rfl g (o + k * 3 + (n - 1) * 3) rfl (verC y2) _ (fun W hW => range_laterB hW HY2.out) Tryz.underlying23 rfl (by kernel_rfl)) hS ?_
              try simp only [Act.put, List.getElem_toArray, List.getElem_cons_zero, List.getElem_cons_succ, List.setIfInBounds_toArray, List.set_cons_zero, List.set_cons_succ]
              refine wpAnyH_take (i := 9) (v := .bool true) rfl (by kernel_rfl) (by kernel_rfl) (by kernel_rfl) (fun _ _ _ h => h) (Or.inl ⟨by kernel_rfl, fun W hW => by go_simp⟩) hS ?_
              try simp only [Act.put, List.getElem_toArray, List.getElem_cons_zero, List.getElem_cons_succ, List.setIfInBounds_toArray, List.set_cons_zero, List.set_cons_succ]
              refine wpAnyH_done (by kernel_rfl) ?_ _
              clear HX2 HY2 hS hveq HWi HRi HW8i HR8i
              generalize wi.drew = w9 at *
              go_wp2_with (first | (refine wpList_load_mid rfl 23 (.tmp 49) rfl g (o + k * 3 + n * 3) rfl (verC x2) _ HX9.out Tryz.underlying23 rfl (by kernel_rfl) ?_) | (refine wpList_store_mid rfl 23 (.tmp 51) (.tmp 50) rfl g (o + d * 3) (verC x2).toArray rfl rfl HTh.out (by kernel_rfl) (by simp [verC, Value.oneCell']) ?_))
              go_roundw
              case rel => exact ⟨d + 1, n + 1, L.set d x2, by omega, by omega, by omega, by omega, by go_num, by go_num, HLs, HWs, HRs, HT2, HDs⟩
              case measure => simp [intOf] <;> omega
          · have hnr2 : n = r := by omega
            subst hnr2
            have HTl : Hid (L.take d = dedupV l) := Lib.hid (by rw [HTi.out, List.take_of_length_le (by omega)])
            have HDl : Hid ((dedupV l).length = d) := Lib.hid (by rw [← HTl.out, List.length_take]; omega)
            have hdl : d < l.length := by omega
            have HTh : Hid (wi.there g (o + d * 3) ((l.length - d) * 3)) := Lib.hid (by have h9 := rowH_thereAll HRi.out (d := d) (by omega); rwa [hll] at h9)
            have hqd : (0 : Int) ≤ (d : Int) ∧ (d : Int) < (l.length : Int) := by omega
            have hqd2 : (0 : Int) ≤ (d : Int) ∧ (d : Int) ≤ (cap : Int) := by omega
            have hqd3 : ¬ (cap : Int) < (d : Int) := by omega
            have hqd4 : ¬ (l.length : Int) < (d : Int) := by omega
            clear hrr hll
            have hcl := fun ty => run_clearV wi ty g (o + d * 3) (l.length - d) (cap - d) (by omega) HTh.out
            go_wp2_with fail
            go_ret
            exact ⟨by rw [HDl.out]; rfl, below_setCells hB _ _ HWi.out, by rw [← HTl.out]; exact rowH_clear HRi.out d _⟩
      · have hveq := fun W => eqVer x y W
        rw [decide_eq_false hxy] at hveq
        have HD2 : Hid (dedupV (l.take (k + 1)) = l.take (k + 1)) := Lib.hid (by rw [HDt.out, if_neg (fun e => hxy e.symm), HD.out, List.take_add_one, hx]; rfl)
        clear hx hy HDt
        go_wp2_with fail
        refine wp_region_held_drew (S := fun W => Below wr.heap.size wr W) (by kernel_rfl) (aL wr) fun hS => ?_
        refine wpAnyH_take (i := 0) (v := .slice (some ⟨g, o, none⟩) l.length cap) rfl (by kernel_rfl) (by kernel_rfl) (by kernel_rfl) (fun _ _ _ h => h) (Or.inl ⟨by kernel_rfl, fun W hW => by go_simp⟩) hS ?_
        try simp only [Act.put, List.getElem_toArray, List.getElem_cons_zero, List.getElem_cons_succ, List.setIfInBounds_toArray, List.set_cons_zero, List.set_cons_succ]
        refine wpAnyH_take (i := 1) (v := .int .i64 (k : Int)) rfl (by kernel_rfl) (by kernel_rfl) (by kernel_rfl) (fun _ _ _ h => h) (Or.inl ⟨by kernel_rfl, fun W hW => by go_simp⟩) hS ?_
        try simp only [Act.put, List.getElem_toArray, List.getElem_cons_zero, List.getElem_cons_succ, List.setIfInBounds_toArray, List.set_cons_zero, List.set_cons_succ]
        refine wpAnyH_take (i := 2) (v := .pointer (some ⟨g, o + k * 3, none⟩)) rfl (by kernel_rfl) (by kernel_rfl) (by kernel_rfl) (fun _ _ _ h => h) (Or.inl ⟨by kernel_rfl, fun W hW => by go_simp⟩) hS ?_
        try simp only [Act.put, List.getElem_toArray, List.getElem_cons_zero, List.getElem_cons_succ, List.setIfInBounds_toArray, List.set_cons_zero, List.set_cons_succ]
        refine wpAnyH_take (i := 3) (v := .agg #[.int .i64 x.a, .int .i64 x.b, .int .i64 x.c]) rfl (by kernel_rfl) (by kernel_rfl) (by kernel_rfl) (fun _ _ _ h => h) (yieldsIf_load_mid (by kernel_rfl) 23 (.tmp 18) rfl g (o + k * 3) rfl (verC x) _ (fun W hW => range_laterB hW HX.out) Tryz.underlying23 rfl (by kernel_rfl)) hS ?_
        try simp only [Act.put, List.getElem_toArray, List.getElem_cons_zero, List.getElem_cons_succ, List.setIfInBounds_toArray, List.set_cons_zero, List.set_cons_succ]
        refine wpAnyH_take (i := 4) (v := .slice (some ⟨g, o, none⟩) l.length cap) rfl (by kernel_rfl) (by kernel_rfl) (by kernel_rfl) (fun _ _ _ h => h) (Or.inl ⟨by kernel_rfl, fun W hW => by go_simp⟩) hS ?_
        try simp only [Act.put, List.getElem_toArray, List.getElem_cons_zero, List.getElem_cons_succ, List.setIfInBounds_toArray, List.set_cons_zero, List.set_cons_succ]
        refine wpAnyH_take (i := 5) (v := .int .i64 (k : Int)) rfl (by kernel_rfl) (by kernel_rfl) (by kernel_rfl) (fun _ _ _ h => h) (Or.inl ⟨by kernel_rfl, fun W hW => by go_simp⟩) hS ?_
        try simp only [Act.put, List.getElem_toArray, List.getElem_cons_zero, List.getElem_cons_succ, List.setIfInBounds_toArray, List.set_cons_zero, List.set_cons_succ]
        refine wpAnyH_take (i := 6) (v := .int .i64 ((k : Int) - 1)) rfl (by kernel_rfl) (by kernel_rfl) (by kernel_rfl) (fun _ _ _ h => h) (Or.inl ⟨by kernel_rfl, fun W hW => by go_simp⟩) hS ?_
        try simp only [Act.put, List.getElem_toArray, List.getElem_cons_zero, List.getElem_cons_succ, List.setIfInBounds_toArray, List.set_cons_zero, List.set_cons_succ]
        refine wpAnyH_take (i := 7) (v := .pointer (some ⟨g, o + (k - 1) * 3, none⟩)) rfl (by kernel_rfl) (by kernel_rfl) (by kernel_rfl) (fun _ _ _ h => h) (Or.inl ⟨by kernel_rfl, fun W hW => by go_simp⟩) hS ?_
        try simp only [Act.put, List.getElem_toArray, List.getElem_cons_zero, List.getElem_cons_succ, List.setIfInBounds_toArray, List.set_cons_zero, List.set_cons_succ]
        refine wpAnyH_take (i := 8) (v := .agg #[.int .i64 y.a, .int .i64 y.b, .int .i64 y.c]) rfl (by kernel_rfl) (by kernel_rfl) (by kernel_rfl) (fun _ _ _ h => h) (yieldsIf_load_mid (by kernel_rfl) 23 (.tmp 23) rfl g (o + (k - 1) * 3) rfl (verC y) _ (fun W hW => range_laterB hW HY.out) Tryz.underlying23 rfl (by kernel_rfl)) hS ?_
        try simp only [Act.put, List.getElem_toArray, List.getElem_cons_zero, List.getElem_cons_succ, List.setIfInBounds_toArray, List.set_cons_zero, List.set_cons_succ]
        refine wpAnyH_take (i := 9) (v := .bool false) rfl (by kernel_rfl) (by kernel_rfl) (by kernel_rfl) (fun _ _ _ h => h) (Or.inl ⟨by kernel_rfl, fun W hW => by go_simp⟩) hS ?_
        try simp only [Act.put, List.getElem_toArray, List.getElem_cons_zero, List.getElem_cons_succ, List.setIfInBounds_toArray, List.set_cons_zero, List.set_cons_succ]
        refine wpAnyH_done (by kernel_rfl) ?_ _
        clear HX HY hS hveq HW HR
        generalize wr.drew = w8 at *
        go_wp2_with fail
        go_roundw
        case rel => exact ⟨k + 1, by omega, by omega, by go_num, HW8, HR8, HD2⟩
        case measure => simp [intOf] <;> omega
    · have HD2 : Hid (dedupV l = l) := Lib.hid (by have := HD.out; rwa [List.take_of_length_le (by omega)] at this)
      go_wp2_with fail
      go_ret
      exact ⟨by rw [HD2.out]; rfl, HW.out, by rw [HD2.out]; exact HR.out⟩
end Go.Proofs.YtmpopphjaggeoaaGreatDoor

/- Walks: a release of a log; advisories about a release; lists of numbers that are the same. -/
namespace Go.Proofs.YtmpopphjaggeoaaGreatDoor
open Go.RowKit Go.Shelf
set_option linter.unusedSimpArgs false
set_option linter.unusedVariables false

set_option maxRecDepth 100000 in
set_option maxHeartbeats 32000000 in
theorem release1_any (f : Fc) (p : FcP) (s : ByteArray) (v : Ver) (b1 b2 : Nat) (w : World) (h1 : w.heap[b1]? = some (.cells #[.string s] 9)) (h2 : w.heap[b2]? = some (.cells #[.int .i64 v.a, .int .i64 v.b, .int .i64 v.c] 23)) :
    Calls Tryz.prog 59 #[.agg (fcC f p).toArray, .pointer (some ⟨b1, 0, none⟩), .pointer (some ⟨b2, 0, none⟩)] w fun e w' => e = .returned (.bool (isRel s v f)) ∧ Below w.heap.size w w' := by
  obtain ⟨A, HA⟩ : ∃ c : Array Value, Hid (c = (fcC f p).toArray) := ⟨_, Lib.hid rfl⟩
  rw [← HA.out]
  have HQ0 : Hid (A[0]? = some (.int .i64 f.kind)) := Lib.hid (by rw [HA.out]; rfl)
  have HQ5 : Hid (A[5]? = some (.string f.rel.name)) := Lib.hid (by rw [HA.out]; rfl)
  have HQ6 : Hid (A[6]? = some (.int .i64 f.rel.ver.a)) := Lib.hid (by rw [HA.out]; rfl)
  have HQ7 : Hid (A[7]? = some (.int .i64 f.rel.ver.b)) := Lib.hid (by rw [HA.out]; rfl)
  have HQ8 : Hid (A[8]? = some (.int .i64 f.rel.ver.c)) := Lib.hid (by rw [HA.out]; rfl)
  have HX := Lib.hid (heap_alloc_new w (.cells A 37))
  have HB0 := Lib.hid (aB w (.cells A 37))
  have HS := Lib.hid (aC HB0.out h1)
  have HV := Lib.hid (aC HB0.out h2)
  have HE : Hid (isRel s v f = (decide (f.kind = 0) && decide (f.rel.name = s) && decide (f.rel.ver = v))) := Lib.hid rfl
  clear h1 h2 HA
  go_enter Tryz.func59, Tryz.ntmps59
  go_upto_region 1 with (fail)
  generalize w.alloc (.cells A 37) = W0 at *
  have x0 := cfA HX.out HQ0.out
  have x5 := cfA HX.out HQ5.out
  have x6 := cfA HX.out HQ6.out
  have x7 := cfA HX.out HQ7.out
  have x8 := cfA HX.out HQ8.out
  have y0 := cfA (k := 0) HS.out rfl
  obtain ⟨⟨z0, z1, z2⟩, -⟩ := bx3 HV.out
  generalize f.kind = k at *
  generalize f.rel.name = nm at *
  generalize f.rel.ver = vf at *
  have hveq := fun W => eqVer vf v W
  by_cases h1 : k = 0
  · subst h1
    by_cases h3 : nm = s
    · subst h3
      by_cases h4 : vf = v
      · clear hveq
        subst h4
        have hveq := fun W => eqVer vf vf W
        rw [decide_eq_true (rfl : vf = vf)] at hveq
        go_wp2_with fail
        go_ret
        exact ⟨aF (by rw [HE.out]; simp), HB0.out⟩
      · rw [decide_eq_false h4] at hveq
        go_wp2_with fail
        go_ret
        exact ⟨aF (by rw [HE.out, decide_eq_false h4]; simp), HB0.out⟩
    · have g3 : (nm.toList == s.toList) = false := cO h3
      go_wp2_with fail
      go_ret
      exact ⟨aF (by rw [HE.out, decide_eq_false h3]; simp), HB0.out⟩
  · have g1 : (k == 0) = false := beq_eq_false_iff_ne.2 h1
    go_wp2_with fail
    go_ret
    exact ⟨aF (by rw [HE.out, decide_eq_false h1]; simp), HB0.out⟩
def zeroRl : Array Value := #[.string ⟨#[]⟩, .int .i64 0, .int .i64 0, .int .i64 0, .string ⟨#[]⟩, .slice none 0 0, .slice none 0 0, .slice none 0 0, .string ⟨#[]⟩]
theorem oneRl : zeroRl.all (fun x => x.oneCell') = true := by simp [zeroRl, Value.oneCell']
theorem builtRl : Tryz.prog.built 28 [] = some zeroRl := by kernel_rfl
theorem results3Rl {fn : Func} {p q r : Tmp} (h : fn.results = #[.cell p 28, .tmp q, .tmp r]) (tmps : Array Value) (w : World) (g : Nat) (cs : Array Value) (v u : Value)
    (hp : tmps.getD p undef = .pointer (some ⟨g, 0, none⟩)) (hq : tmps.getD q undef = v) (hr : tmps.getD r undef = u) (hg : w.heap[g]? = some (.cells cs 28)) (hz : cs.size = 9) : (results fn tmps).run Tryz.prog w = .ok (.tuple #[.agg cs, v, u]) w := by
  have hp' : tmps[p]?.getD undef = .pointer (some ⟨g, 0, none⟩) := by simpa using hp
  have hq' : tmps[q]?.getD undef = v := by simpa using hq
  have hr' : tmps[r]?.getD undef = u := by simpa using hr
  simp [results, h, hp', hq', hr', asAddr, run_loadVar_row w g 28 28 cs (0, 0) _ hg Tryz.underlying28 rfl (by rw [hz]; kernel_rfl)]
structure RlsQ (l : List Fc) (s : ByteArray) (v : Ver) (N : Nat → Prop) (w : World) (e : Ending) (w' : World) : Prop where
  below : Below w.heap.size w w'
  none : releaseF l s v = none → e = .returned (.tuple #[.agg zeroRl, .int .i64 0, .bool false])
  some : ∀ i f, releaseF l s v = some i → l[i]? = some f → ∃ vn vf vp, e = .returned (.tuple #[.agg (rlC f.rel vn vf vp).toArray, .int .i64 (i : Int), .bool true]) ∧ RlV N w' f.rel vn vf vp
theorem rlC_one {r : Rl} {vn vf vp : Value} {N : Nat → Prop} {w : World} (h : RlV N w r vn vf vp) : (rlC r vn vf vp).toArray.all (fun x => x.oneCell') = true := by
  obtain ⟨a1, c1, rfl, -⟩ := h.needs
  obtain ⟨a2, c2, rfl, -⟩ := h.feats
  obtain ⟨a3, c3, rfl, -⟩ := h.plats
  simp [rlC, Value.oneCell']
theorem loadRM {ops : Array Oper} {rest : List Oper} {o : Oper} {a : Act} {w : World} {Q : Exit → Act → World → Prop} {x : Operand} (ho : o.op = .load 28 x) (hw : Region.wanted o (yielded ops a.tmps) = true)
    (b k : Nat) (hx : a.eval x = .pointer (some ⟨b, k, none⟩)) (cs : List Value) (A : Array Value) (hA : A = cs.toArray) (hg : w.rangeAt b k cs) (hsz : cs.length = 9)
    (h : wpList Tryz.prog ops Q rest (a.put o.dst (.agg A)) w) : wpList Tryz.prog ops Q (o :: rest) a w :=
  wpList_step fun K hK => by rw [if_pos hw]; subst hA; exact wp_load_mid _ x ho b k hx cs _ hg Tryz.underlying28 rfl (by rw [hsz]; kernel_rfl) (hK _ _ h)
theorem fc_rel {f : Fc} {p : FcP} {j : Nat} {u : Value} (h : (rlC f.rel p.vn p.vf p.vp)[j]? = some u) : (fcC f p)[5 + j]? = some u := by
  match j, h with
  | 0, h => exact h
  | 1, h => exact h
  | 2, h => exact h
  | 3, h => exact h
  | 4, h => exact h
  | 5, h => exact h
  | 6, h => exact h
  | 7, h => exact h
  | 8, h => exact h
  | j + 9, h => simp [rlC] at h
set_option maxRecDepth 100000 in
set_option maxHeartbeats 64000000 in
theorem frelease_any (l : List Fc) (s : ByteArray) (v : Ver) {N : Nat → Prop} {vl : Value} (w : World) (hl : aK 29 encFc N w vl l) (hlen : l.length ≤ 1000000) :
    Calls Tryz.prog 20 #[vl, .string s, .agg #[.int .i64 v.a, .int .i64 v.b, .int .i64 v.c]] w fun e w' => RlsQ l s v N w e w' := by
  obtain ⟨W0, HW0⟩ : ∃ W, Hid (W = ((w.alloc (.cells #[.string s] 9)).alloc (.cells #[.int .i64 v.a, .int .i64 v.b, .int .i64 v.c] 23)).alloc (.cells #[.string ⟨#[]⟩, .int .i64 0, .int .i64 0, .int .i64 0, .string ⟨#[]⟩, .slice none 0 0, .slice none 0 0, .slice none 0 0, .string ⟨#[]⟩] 28)) := ⟨_, Lib.hid rfl⟩
  have hb1 := aB w (.cells #[.string s] 9)
  have hb2 := aB (w.alloc (.cells #[.string s] 9)) (.cells #[.int .i64 v.a, .int .i64 v.b, .int .i64 v.c] 23)
  have hb3 := aB ((w.alloc (.cells #[.string s] 9)).alloc (.cells #[.int .i64 v.a, .int .i64 v.b, .int .i64 v.c] 23)) (.cells #[.string ⟨#[]⟩, .int .i64 0, .int .i64 0, .int .i64 0, .string ⟨#[]⟩, .slice none 0 0, .slice none 0 0, .slice none 0 0, .string ⟨#[]⟩] 28)
  have HB0 : Hid (Below w.heap.size w W0) := Lib.hid (by rw [HW0.out]; exact aA hb1 (aA hb2 hb3))
  have HS : Hid (W0.heap[w.heap.size]? = some (.cells #[.string s] 9)) := Lib.hid (by rw [HW0.out]; exact aC hb3 (aC hb2 (heap_alloc_new w _)))
  have HV : Hid (W0.heap[w.heap.size + 1]? = some (.cells #[.int .i64 v.a, .int .i64 v.b, .int .i64 v.c] 23)) := Lib.hid (by rw [HW0.out]; have h9 := aC hb3 (heap_alloc_new (w.alloc (.cells #[.string s] 9)) (.cells #[.int .i64 v.a, .int .i64 v.b, .int .i64 v.c] 23)); rw [show (w.alloc (.cells #[.string s] 9)).heap.size = w.heap.size + 1 by simp] at h9; exact h9)
  have HR : Hid (W0.heap[w.heap.size + 2]? = some (.cells zeroRl 28)) := Lib.hid (by rw [HW0.out]; have h9 := heap_alloc_new ((w.alloc (.cells #[.string s] 9)).alloc (.cells #[.int .i64 v.a, .int .i64 v.b, .int .i64 v.c] 23)) (.cells #[.string ⟨#[]⟩, .int .i64 0, .int .i64 0, .int .i64 0, .string ⟨#[]⟩, .slice none 0 0, .slice none 0 0, .slice none 0 0, .string ⟨#[]⟩] 28); rw [show ((w.alloc (.cells #[.string s] 9)).alloc (.cells #[.int .i64 v.a, .int .i64 v.b, .int .i64 v.c] 23)).heap.size = w.heap.size + 2 by simp] at h9; exact h9)
  have HI := Lib.hid (idx_fct (isRel s v) 59 #[.pointer (some ⟨w.heap.size, 0, none⟩), .pointer (some ⟨w.heap.size + 1, 0, none⟩)] (enters_of Tryz.func59 (by kernel_rfl) rfl) (hl.moves encFc_ok (aM.later HB0.out) (by decide)) (fun x _ W cs hW hx _ => by
    obtain ⟨p, rfl, -⟩ := hx
    exact release1_any x p s v _ _ W (aC hW HS.out) (aC hW HV.out)))
  obtain ⟨al, cl, rfl, la1, la2, HA0⟩ := hl.at
  have HA := Lib.hid HA0
  clear HA0 hl hb1 hb2 hb3 HS HV
  go_enter Tryz.func20, Tryz.ntmps20
  go_upto_region 1 with (fail)
  rw [← HW0.out]
  go_wp2_with fail
  go_at_call 58
  refine HI.out.mono ?_
  rintro e w1 ⟨rfl, hb⟩
  have HB1 := Lib.hid (aA HB0.out hb)
  have HR1 := Lib.hid (aC hb HR.out)
  clear hb HI HW0 HR
  cases hq : releaseF l s v with
  | none =>
    have hidx : fQ (isRel s v) l = -1 := idxOf_none hq
    have HQ := Lib.hid hq
    clear hq
    rw [hidx]
    clear hidx
    go_wp2_with (first | (refine wpList_buildTo rfl 28 #[] rfl (some 15) rfl zeroRl ?hf ?_; (case hf => exact builtRl)) | (refine wpList_store_rowTo rfl 28 (.tmp 6) (.tmp 15) rfl rfl (w.heap.size + 2) zeroRl rfl rfl 28 zeroRl ?hg (by kernel_rfl) rfl oneRl ?_; (case hg => exact HR1.out)))
    refine bodyPost_ret (v := .tuple #[.agg zeroRl, .int .i64 0, .bool false]) (results3Rl (p := 6) (q := 7) (r := 8) rfl _ _ (w.heap.size + 2) zeroRl _ _ rfl rfl rfl (setRow_heap _ _ _ _ _ _ HR1.out) rfl) rfl ?_
    exact ⟨below_setRow HB1.out (by omega) _, fun _ => rfl, fun i f h => by rw [HQ.out] at h; cases h⟩
  | some i =>
    have hidx : fQ (isRel s v) l = (i : Int) := idxOf_some hq
    obtain ⟨f, hf, -⟩ := release_at hq
    have hi : i < l.length := (List.getElem?_eq_some_iff.1 hf).1
    have HQ := Lib.hid hq
    have HF := Lib.hid hf
    obtain ⟨b, o, rfl, -, cs, ⟨p, rfl, hv⟩, -, hj⟩ := HA.out i f hf
    have hq0 : (0 : Int) ≤ (i : Int) ∧ (i : Int) < (l.length : Int) := by omega
    obtain ⟨A, HAc⟩ : ∃ c : Array Value, Hid (c = (rlC f.rel p.vn p.vf p.vp).toArray) := ⟨_, Lib.hid rfl⟩
    have HZA : Hid (A.size = 9) := Lib.hid (by rw [HAc.out]; rfl)
    have HOA : Hid (A.all (fun x => x.oneCell') = true) := Lib.hid (by rw [HAc.out]; exact rlC_one hv.rel)
    have HRg : Hid (w1.rangeAt b (o + i * 29 + 5) (rlC f.rel p.vn p.vf p.vp)) := Lib.hid (fun j u hu => by rw [Nat.add_assoc]; exact aD HB1.out (hj (5 + j) u (fc_rel hu)))
    have HRl := Lib.hid hv.rel
    clear hq hf hj hv
    rw [hidx]
    clear hidx
    have hn0 : ¬ (i : Int) < 0 := by omega
    go_wp2_with (first | (refine loadRM (x := .tmp 19) rfl (by kernel_rfl) b (o + i * 29 + 5) rfl (rlC f.rel p.vn p.vf p.vp) A HAc.out HRg.out rfl ?_) | (refine wpList_store_rowTo rfl 28 (.tmp 6) (.tmp 20) rfl rfl (w.heap.size + 2) A rfl rfl 28 zeroRl ?hg (by rw [HZA.out]; kernel_rfl) (by rw [HZA.out]; rfl) HOA.out ?_; (case hg => exact HR1.out)))
    refine bodyPost_ret (v := .tuple #[.agg A, .int .i64 (i : Int), .bool true]) (results3Rl (p := 6) (q := 7) (r := 8) rfl _ _ (w.heap.size + 2) A _ _ rfl rfl rfl (setRow_heap _ _ _ _ _ _ HR1.out) HZA.out) rfl ?_
    refine ⟨below_setRow HB1.out (by omega) _, fun h => (by rw [HQ.out] at h; cases h), fun j g h1 h2 => ?_⟩
    rw [HQ.out] at h1
    cases h1
    rw [HF.out] at h2
    cases h2
    exact ⟨p.vn, p.vf, p.vp, by rw [HAc.out], HRl.out.later (below_setRow HB1.out (by omega) _)⟩
end Go.Proofs.YtmpopphjaggeoaaGreatDoor
