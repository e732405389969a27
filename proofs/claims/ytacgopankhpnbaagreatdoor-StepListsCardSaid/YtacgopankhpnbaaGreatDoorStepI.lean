/- Walks of package step: write. -/
import Derived.Test.YtacgopankhpnbaaGreatDoorStepH
import Derived.Deep.RegionHeld3
import Derived.Test.YtacgopankhpnbaaGreatDoorDoSpec
namespace Go.Proofs.YtacgopankhpnbaaGreatDoor
open Go.RowKit

theorem join_any (l : List ByteArray) (v : Value) (w : World) (hv : Strs w v l) (hlen : (Lib.join (l.map (·.data.toList)) []).length ≤ 140737488355328) (hl : l.length ≤ 140737488355328) :
    Calls Tryz.prog 79 #[v, .string ⟨#[]⟩] w fun e w' => e = .returned (.string (joinB l)) ∧ Below w.heap.size w w' := by
  rcases hv.cases with ⟨rfl, a, c, rfl⟩ | ⟨b, o, c, rfl, h0, h1, h2, hb, hc⟩
  · refine (Tryz.strings_Join_none a c ⟨#[]⟩ w).mono ?_
    rintro e w' ⟨rfl, rfl⟩
    exact ⟨rfl, Below.refl _ _⟩
  · exact Tryz.strings_Join b o c l ⟨#[]⟩ w (fun j x hx => (hc j x hx).1) hb hl h1 hlen

set_option maxHeartbeats 1000000 in
theorem write_join (b : Nat) (saw : List ByteArray) (vs clk ord nxt : Value) (u0 u1 kind : Int) (vf : Value) (tn : ByteArray) (sorted : Bool) (w : World) (hs : Sbx w b vs clk ord nxt u0 u1) (hsaw : Strs w vs saw)
    (hk : kind = 0 ∨ kind = 1) (hf : ∃ a n c, vf = .slice a n c) (hlen : (Lib.join (saw.map (·.data.toList)) []).length ≤ 140737488355328) (hl : saw.length ≤ 140737488355328) :
    Calls Tryz.prog 52 #[.pointer (some ⟨b, 0, none⟩), .agg #[.int .i64 kind, vf, .string tn, .bool sorted]] w fun e w' =>
      e = .returned (.tuple #[.string (joinB saw), .int .i64 0]) ∧ Sbx w' b vs clk ord nxt u0 u1 ∧ Only b w w' := by
  obtain ⟨a, n, c, rfl⟩ := hf
  have c0 := hs.cell 0
  have hbl := hs.lt
  simp only [List.getElem?_toArray, List.getElem?_cons_zero] at c0
  have HS := Lib.hid hs; clear hs
  have HJ : Hid (∀ W, Below w.heap.size w W → Calls Tryz.prog 79 #[vs, .string ⟨#[]⟩] W fun e w' => e = .returned (.string (joinB saw)) ∧ Below W.heap.size W w') := Lib.hid fun W hb => join_any saw vs W (hsaw.later hb) hlen hl
  obtain ⟨a1, c1, hv1, -⟩ := id hsaw
  clear hsaw hlen hl
  subst hv1
  rcases hk with rfl | rfl
  all_goals
    go_enter Tryz.func52, Tryz.ntmps52
    go_wp2_with fail
    refine (HJ.out _ (below_alloc _ _)).mono ?_
    rintro e w' ⟨rfl, hb⟩
    have hb2 := below_trans (below_alloc _ _) hb
    go_wp2_with fail
    go_ret2
    exact ⟨rfl, HS.out.later hb2, Only.of_below hb2⟩

set_option maxHeartbeats 1000000 in
theorem write_sort (b : Nat) (text : ByteArray) (vs clk ord nxt : Value) (u0 u1 : Int) (vf : Value) (tn : ByteArray) (sorted : Bool) (w : World) (hG : Glob w) (hs : Sbx w b vs clk ord nxt u0 u1) (hsaw : Strs w vs [text])
    (hf : ∃ a n c, vf = .slice a n c) (ht : text.size ≤ 1000000) (hlen : (rowsL (sortedLines text)).length ≤ 140737488355328) :
    Calls Tryz.prog 52 #[.pointer (some ⟨b, 0, none⟩), .agg #[.int .i64 3, vf, .string tn, .bool sorted]] w fun e w' =>
      e = .returned (.tuple #[.string (rowsB (sortedLines text)), .int .i64 0]) ∧ Sbx w' b vs clk ord nxt u0 u1 ∧ Only b w w' := by
  obtain ⟨a, n, c, rfl⟩ := hf
  have c0 := hs.cell 0
  have hbl := hs.lt
  simp only [List.getElem?_toArray, List.getElem?_cons_zero] at c0
  have HS := Lib.hid hs; clear hs
  rcases hsaw.cases with ⟨h, -⟩ | ⟨bl, o, c1, rfl, h0, h1, h2, hb, hc⟩
  · cases h
  have c2 := (hc 0 text rfl).1
  simp only [Nat.add_zero, List.length_cons, List.length_nil, Nat.zero_add] at c2 c0 h1 ⊢
  have hb2 : bl < w.heap.size := hb
  have HSo : Hid (∀ W, Below w.heap.size w W → Calls Tryz.prog 81 #[.string text] W fun e w' => ∃ v, e = .returned v ∧ Strs w' v (sortedLines text) ∧ Below W.heap.size W w') := Lib.hid fun W hb => sorted_any text W (hG.later hb) ht
  have HR : Hid (∀ W v, Strs W v (sortedLines text) → Calls Tryz.prog 80 #[v] W fun e w' => e = .returned (.string (rowsB (sortedLines text))) ∧ Below W.heap.size W w') := Lib.hid fun W v h => rows_any _ v W h hlen
  clear hsaw hc hG hb hlen
  go_enter Tryz.func52, Tryz.ntmps52
  go_wp2_with fail
  refine (HSo.out _ (below_alloc _ _)).mono ?_
  rintro e w1 ⟨v, rfl, hv, hb1⟩
  have HV := Lib.hid hv
  obtain ⟨a3, c3, hv3, -⟩ := hv
  subst hv3
  go_wp2_with fail
  refine (HR.out _ _ HV.out).mono ?_
  rintro e w2 ⟨rfl, hb2⟩
  have hbb := below_trans (below_trans (below_alloc _ _) hb1) hb2
  go_wp2_with fail
  go_ret2
  exact ⟨rfl, HS.out.later hbb, Only.of_below hbb⟩

theorem Sbx.saw0 {w : World} {b : Nat} {saw clk ord nxt : Value} {u0 u1 : Int} (h : Sbx w b saw clk ord nxt u0 u1) (x : Value) : Sbx (w.setCell ⟨b, 0, none⟩ x) b x clk ord nxt u0 u1 := by
  unfold Sbx at h ⊢
  simp [World.setCell, Array.getElem?_modify, h]
theorem strs_setCell {w : World} {b o : Nat} {x v : Value} {l : List ByteArray} (h : Strs w v l) (hb : ∀ a n c, v = .slice (some a) n c → a.block ≠ b) : Strs (w.setCell ⟨b, o, none⟩ x) v l := by
  obtain ⟨a, c, hv, h1, h2, h3⟩ := h
  refine ⟨a, c, hv, h1, h2, fun hne => ?_⟩
  obtain ⟨b', o', ha, hc⟩ := h3 hne
  refine ⟨b', o', ha, fun i x' hx => ?_⟩
  obtain ⟨cs, e, hl, hj⟩ := hc i x' hx
  have hbb := hb ⟨b', o', none⟩ l.length c (by rw [hv, ha])
  exact ⟨cs, e, hl, fun j u hu => (World.cell?_of_block (w := w) (Below.heap_setCell _ _ _ _ hbb)).trans (hj j u hu)⟩

set_option maxHeartbeats 1000000 in
theorem write_list (b : Nat) (out : List ByteArray) (vs clk ord nxt : Value) (u0 u u' : Int) (vf : Value) (tn : ByteArray) (sorted : Bool) (w : World) (hs : Sbx w b vs clk ord nxt u0 u)
    (hf : ∃ a n c, vf = .slice a n c)
    (hlist : ∀ W, Below w.heap.size w W → Calls Tryz.prog 87 #[.pointer (some ⟨b, 0, none⟩), vf, .bool sorted] W fun e w' => ∃ v, e = .returned v ∧ Strs w' v out ∧ (∀ a n c, v = .slice (some a) n c → W.heap.size ≤ a.block) ∧ Sbx w' b vs clk ord nxt u0 u' ∧ Only b W w')
    (hlen : (rowsL out).length ≤ 140737488355328) :
    Calls Tryz.prog 52 #[.pointer (some ⟨b, 0, none⟩), .agg #[.int .i64 2, vf, .string tn, .bool sorted]] w fun e w' =>
      e = .returned (.tuple #[.string (rowsB out), .int .i64 0]) ∧ Sbx w' b (.slice none 0 0) clk ord nxt u0 u' ∧ Only b w w' := by
  obtain ⟨a, n, c, rfl⟩ := hf
  have hbl := hs.lt
  have HL := Lib.hid hlist
  have HR : Hid (∀ W v, Strs W v out → Calls Tryz.prog 80 #[v] W fun e w' => e = .returned (.string (rowsB out)) ∧ Below W.heap.size W w') := Lib.hid fun W v h => rows_any _ v W h hlen
  clear hlist hs hlen
  go_enter Tryz.func52, Tryz.ntmps52
  go_wp2_with fail
  refine (HL.out _ (below_alloc _ _)).mono ?_
  rintro e w1 ⟨v, rfl, hv, hvb, hsb, hon⟩
  have HV := Lib.hid hv; have HSB := Lib.hid hsb; have HVB := Lib.hid hvb
  have c0 := hsb.cell 0
  have f0 := hsb.frozen 0
  simp only [List.getElem?_toArray, List.getElem?_cons_zero] at c0
  obtain ⟨a3, c3, hv3, -⟩ := id hv
  subst hv3
  clear hv hsb hvb
  go_wp2_with fail
  refine (HR.out _ _ (strs_setCell HV.out (fun a n c e => by have := HVB.out a n c e; simp at this; omega))).mono ?_
  rintro e w2 ⟨rfl, hb2⟩
  go_wp2_with fail
  go_ret2
  refine ⟨rfl, (HSB.out.saw0 _).later hb2, ?_⟩
  exact ((Only.of_below (below_alloc _ _)).trans hon).trans ((Only.setCell w1).trans (Only.of_below hb2))

theorem wireInt_size (n : Int) (h0 : -9223372036854775808 ≤ n) (h1 : n ≤ 9223372036854775807) : (wireInt n).size ≤ 100 := by
  have := Lib.itoa_length_le n h0 h1
  show (Lib.itoa n ++ [59]).toArray.size ≤ 100
  simp; omega

set_option maxRecDepth 100000 in
set_option maxHeartbeats 2000000 in
theorem write_stamp (b : Nat) (text : ByteArray) (clock : List Int) (vs clk ord nxt : Value) (u0 u1 : Int) (vf : Value) (tn : ByteArray) (sorted : Bool) (w : World) (hG : Glob w) (hs : Sbx w b vs clk ord nxt u0 u1) (hsaw : Strs w vs [text])
    (hsb : ∀ a n c, vs = .slice (some a) n c → a.block ≠ b) (hclk : Ints w clk clock) (hf : ∃ a n c, vf = .slice a n c) (ht : text.size ≤ 1000000) (hu0 : 0 ≤ u0) (hu1 : u0 ≤ 4611686018427387904) (hgb : 11 ≤ b)
    (hw : ∀ x, x ∈ clock → (Lit.int .i64 x).wf = true) :
    Calls Tryz.prog 52 #[.pointer (some ⟨b, 0, none⟩), .agg #[.int .i64 4, vf, .string tn, .bool sorted]] w fun e w' =>
      e = .returned (.tuple #[.string (stampB text (clock.getD u0.toNat 0)), .int .i64 0]) ∧ Sbx w' b vs clk ord nxt (u0 + 1) u1 ∧ Only b w w' := by
  obtain ⟨a, n, c, rfl⟩ := hf
  have c0 := hs.cell 0
  have c1 := hs.cell 1
  have hbl := hs.lt
  simp only [List.getElem?_toArray, List.getElem?_cons_zero, List.getElem?_cons_succ] at c0 c1
  rcases hsaw.cases with ⟨h, -⟩ | ⟨bl, o, cc, rfl, h0, h1, h2, hb, hc⟩
  · cases h
  have hblb : bl ≠ b := hsb ⟨bl, o, none⟩ _ _ rfl
  have c2 := (hc 0 text rfl).1
  simp only [Nat.add_zero, List.length_cons, List.length_nil, Nat.zero_add] at c2 c0 h1
  have hb0 : Below w.heap.size w (w.alloc (.cells #[.int .i64 4, .slice a n c, .string tn, .bool sorted] 24)) := below_alloc _ _
  have HS0 := Lib.hid (hs.later hb0)
  have HC0 := Lib.hid (hclk.later hb0)
  have HG0 := Lib.hid (hG.later hb0)
  have HO0 := Lib.hid (Only.of_below (b := b) hb0)
  have d0 := cell_later hb0 c0
  have d1 := cell_later hb0 c1
  have d2 := cell_later hb0 c2
  have hwx : (Lit.int .i64 (clock.getD u0.toNat 0)).wf = true := by
    rw [List.getD_eq_getElem?_getD]
    cases hh : clock[u0.toNat]? with
    | none => rfl
    | some y => exact hw y (List.mem_of_getElem? hh)
  obtain ⟨hx0, hx1⟩ := i64_bounds hwx
  obtain ⟨ak, ck, hvk, -⟩ := id hclk
  subst hvk
  have HN : Hid (∀ W, Sbx W b (.slice (some ⟨bl, o, none⟩) 1 cc) (.slice ak clock.length ck) ord nxt u0 u1 → Ints W (.slice ak clock.length ck) clock → Calls Tryz.prog 83 #[.pointer (some ⟨b, 0, none⟩), .slice ak clock.length ck, .int .i64 0] W fun e w' => e = .returned (.int .i64 (clock.getD u0.toNat 0)) ∧ Sbx w' b (.slice (some ⟨bl, o, none⟩) 1 cc) (.slice ak clock.length ck) ord nxt (u0 + 1) u1 ∧ Only b W w') :=
    Lib.hid fun W h1 h2 => next0_any b _ _ _ _ u0 u1 clock _ W h1 h2 hu0 hu1
  generalize clock.getD u0.toNat 0 = X at HN hwx hx0 hx1 ⊢
  have hwz : (wireInt X).size ≤ 100 := wireInt_size X hx0 hx1
  have hwz2 : (text ++ wireInt X).size ≤ 1000100 := by rw [ByteArray.size_append]; omega
  have hn1 : ¬ 9223372036854775807 < text.size + (wireInt X).size := by omega
  have hn2 : ¬ 9223372036854775807 < text.size + (wireInt X).size + 1 := by omega
  clear hc hsaw hclk hs hG c0 c1 c2 hw hwx hb
  go_enter Tryz.func52, Tryz.ntmps52
  go_wp2_with fail
  generalize hW0 : w.alloc (.cells #[.int .i64 4, .slice a n c, .string tn, .bool sorted] 24) = W0 at *
  clear hW0
  go_region_held3 (fun W => W.cell? ⟨b, 0, none⟩ = some (.slice (some ⟨bl, o, none⟩) 1 cc) ∧ W.cell? ⟨b, 1, none⟩ = some (.slice ak clock.length ck) ∧ W.cell? ⟨bl, o, none⟩ = some (.string text))
    (first | exact ⟨j0, j1, j2⟩ | exact ⟨k0, k1, k2⟩ | exact ⟨d0, d1, d2⟩ | go_keep)
    (first | (go_at_call 83; refine (HN.out _ (by exact HS0.out) (by exact HC0.out)).mono ?_; rintro e w1 ⟨rfl, hsb1, hon1⟩; have HSB1 := Lib.hid hsb1; have HON1 := Lib.hid hon1; have k0 : w1.cell? ⟨b, 0, none⟩ = some (.slice (some ⟨bl, o, none⟩) 1 cc) := hsb1.cell 0; have k1 : w1.cell? ⟨b, 1, none⟩ = some (.slice ak clock.length ck) := hsb1.cell 1; have k2 : w1.cell? ⟨bl, o, none⟩ = some (.string text) := hon1.cell hblb (by exact d2); clear hsb1 hon1) | (go_at_call 82; refine (wireInt_any _ _ (by exact (HG0.out.later (Below.refl _ _).drew).only HON1.out hgb) hx0 hx1).mono ?_; rintro e w2 ⟨rfl, hb2⟩; have j0 := cell_later hb2 k0; have j1 := cell_later hb2 k1; have j2 := cell_later hb2 k2))
  go_wp2_with fail
  go_ret2
  exact ⟨rfl, HSB1.out.later hb2, (HO0.out.drew.trans HON1.out).trans (Only.of_below hb2)⟩
end Go.Proofs.YtacgopankhpnbaaGreatDoor
