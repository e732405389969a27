/- Texts of this seat, joined: StepI, StepJ, DoA, DoB, DoC, BuildI, BuildJ, BuildK. -/
import Derived.Test.YtacgopankhpnbaaGreatDoorJRefusesTopD
import Derived.Deep.RegionHeld3
import Derived.Test.YtacgopankhpnbaaGreatDoorJRefusesTopC
import Derived.Deep.AppendLies
/- Walks of package step: write. -/
namespace Go.Proofs.YtacgopankhpnbaaGreatDoor
open Go.RowKit

theorem join_any (l : List ByteArray) (v : Value) (w : World) (hv : Strs w v l) (hlen : (Lib.join (l.map (·.data.toList)) []).length ≤ 140737488355328) (hl : l.length ≤ 140737488355328) :
    Calls Tryz.prog 79 #[v, .string ⟨#[]⟩] w fun e w' => e = .returned (.string (joinB l)) ∧ Below w.heap.size w w' := by
  rcases hv.cases with ⟨rfl, a, c, rfl⟩ | ⟨b, o, c, rfl, h0, h1, h2, hb, hc⟩
  · refine (Tryz.strings_Join_none a c ⟨#[]⟩ w).mono ?_
    rintro e w' ⟨rfl, rfl⟩
    exact ⟨rfl, Below.refl _ _⟩
  · exact Tryz.strings_Join b o c l ⟨#[]⟩ w (fun j x hx => (hc j x hx).1) hb hl h1 hlen

set_option maxHeartbeats 1000000 in
theorem write_join (b : Nat) (saw : List ByteArray) (vs clk ord nxt : Value) (u0 u1 kind : Int) (vf : Value) (tn : ByteArray) (sorted : Bool) (w : World) (hs : Sbx w b vs clk ord nxt u0 u1) (hsaw : Strs w vs saw)
    (hk : kind = 0 ∨ kind = 1) (hf : ∃ a n c, vf = .slice a n c) (hlen : (Lib.join (saw.map (·.data.toList)) []).length ≤ 140737488355328) (hl : saw.length ≤ 140737488355328) :
    Calls Tryz.prog 52 #[.pointer (some ⟨b, 0, none⟩), .agg #[.int .i64 kind, vf, .string tn, .bool sorted]] w fun e w' =>
      e = .returned (.tuple #[.string (joinB saw), .int .i64 0]) ∧ Sbx w' b vs clk ord nxt u0 u1 ∧ Only b w w' := by
  obtain ⟨a, n, c, rfl⟩ := hf
  have c0 := hs.cell 0
  have hbl := hs.lt
  simp only [List.getElem?_toArray, List.getElem?_cons_zero] at c0
  have HS := Lib.hid hs; clear hs
  have HJ : Hid (∀ W, Below w.heap.size w W → Calls Tryz.prog 79 #[vs, .string ⟨#[]⟩] W fun e w' => e = .returned (.string (joinB saw)) ∧ Below W.heap.size W w') := Lib.hid fun W hb => join_any saw vs W (hsaw.later hb) hlen hl
  obtain ⟨a1, c1, hv1, -⟩ := id hsaw
  clear hsaw hlen hl
  subst hv1
  rcases hk with rfl | rfl
  all_goals
    go_enter Tryz.func52, Tryz.ntmps52
    go_wp2_with fail
    refine (HJ.out _ (below_alloc _ _)).mono ?_
    rintro e w' ⟨rfl, hb⟩
    have hb2 := below_trans (below_alloc _ _) hb
    go_wp2_with fail
    go_ret2
    exact ⟨rfl, HS.out.later hb2, Only.of_below hb2⟩

set_option maxHeartbeats 1000000 in
theorem write_sort (b : Nat) (text : ByteArray) (vs clk ord nxt : Value) (u0 u1 : Int) (vf : Value) (tn : ByteArray) (sorted : Bool) (w : World) (hG : Glob w) (hs : Sbx w b vs clk ord nxt u0 u1) (hsaw : Strs w vs [text])
    (hf : ∃ a n c, vf = .slice a n c) (ht : text.size ≤ 1000000) (hlen : (rowsL (sortedLines text)).length ≤ 140737488355328) :
    Calls Tryz.prog 52 #[.pointer (some ⟨b, 0, none⟩), .agg #[.int .i64 3, vf, .string tn, .bool sorted]] w fun e w' =>
      e = .returned (.tuple #[.string (rowsB (sortedLines text)), .int .i64 0]) ∧ Sbx w' b vs clk ord nxt u0 u1 ∧ Only b w w' := by
  obtain ⟨a, n, c, rfl⟩ := hf
  have c0 := hs.cell 0
  have hbl := hs.lt
  simp only [List.getElem?_toArray, List.getElem?_cons_zero] at c0
  have HS := Lib.hid hs; clear hs
  rcases hsaw.cases with ⟨h, -⟩ | ⟨bl, o, c1, rfl, h0, h1, h2, hb, hc⟩
  · cases h
  have c2 := (hc 0 text rfl).1
  simp only [Nat.add_zero, List.length_cons, List.length_nil, Nat.zero_add] at c2 c0 h1 ⊢
  have hb2 : bl < w.heap.size := hb
  have HSo : Hid (∀ W, Below w.heap.size w W → Calls Tryz.prog 81 #[.string text] W fun e w' => ∃ v, e = .returned v ∧ Strs w' v (sortedLines text) ∧ Below W.heap.size W w') := Lib.hid fun W hb => sorted_any text W (hG.later hb) ht
  have HR : Hid (∀ W v, Strs W v (sortedLines text) → Calls Tryz.prog 80 #[v] W fun e w' => e = .returned (.string (rowsB (sortedLines text))) ∧ Below W.heap.size W w') := Lib.hid fun W v h => rows_any _ v W h hlen
  clear hsaw hc hG hb hlen
  go_enter Tryz.func52, Tryz.ntmps52
  go_wp2_with fail
  refine (HSo.out _ (below_alloc _ _)).mono ?_
  rintro e w1 ⟨v, rfl, hv, hb1⟩
  have HV := Lib.hid hv
  obtain ⟨a3, c3, hv3, -⟩ := hv
  subst hv3
  go_wp2_with fail
  refine (HR.out _ _ HV.out).mono ?_
  rintro e w2 ⟨rfl, hb2⟩
  have hbb := below_trans (below_trans (below_alloc _ _) hb1) hb2
  go_wp2_with fail
  go_ret2
  exact ⟨rfl, HS.out.later hbb, Only.of_below hbb⟩

theorem Sbx.saw0 {w : World} {b : Nat} {saw clk ord nxt : Value} {u0 u1 : Int} (h : Sbx w b saw clk ord nxt u0 u1) (x : Value) : Sbx (w.setCell ⟨b, 0, none⟩ x) b x clk ord nxt u0 u1 := by
  unfold Sbx at h ⊢
  simp [World.setCell, Array.getElem?_modify, h]
theorem strs_setCell {w : World} {b o : Nat} {x v : Value} {l : List ByteArray} (h : Strs w v l) (hb : ∀ a n c, v = .slice (some a) n c → a.block ≠ b) : Strs (w.setCell ⟨b, o, none⟩ x) v l := by
  obtain ⟨a, c, hv, h1, h2, h3⟩ := h
  refine ⟨a, c, hv, h1, h2, fun hne => ?_⟩
  obtain ⟨b', o', ha, hc⟩ := h3 hne
  refine ⟨b', o', ha, fun i x' hx => ?_⟩
  obtain ⟨cs, e, hl, hj⟩ := hc i x' hx
  have hbb := hb ⟨b', o', none⟩ l.length c (by rw [hv, ha])
  exact ⟨cs, e, hl, fun j u hu => (World.cell?_of_block (w := w) (Below.heap_setCell _ _ _ _ hbb)).trans (hj j u hu)⟩

set_option maxHeartbeats 1000000 in
theorem write_list (b : Nat) (out : List ByteArray) (vs clk ord nxt : Value) (u0 u u' : Int) (vf : Value) (tn : ByteArray) (sorted : Bool) (w : World) (hs : Sbx w b vs clk ord nxt u0 u)
    (hf : ∃ a n c, vf = .slice a n c)
    (hlist : ∀ W, Below w.heap.size w W → Calls Tryz.prog 87 #[.pointer (some ⟨b, 0, none⟩), vf, .bool sorted] W fun e w' => ∃ v, e = .returned v ∧ Strs w' v out ∧ (∀ a n c, v = .slice (some a) n c → W.heap.size ≤ a.block) ∧ Sbx w' b vs clk ord nxt u0 u' ∧ Only b W w')
    (hlen : (rowsL out).length ≤ 140737488355328) :
    Calls Tryz.prog 52 #[.pointer (some ⟨b, 0, none⟩), .agg #[.int .i64 2, vf, .string tn, .bool sorted]] w fun e w' =>
      e = .returned (.tuple #[.string (rowsB out), .int .i64 0]) ∧ Sbx w' b (.slice none 0 0) clk ord nxt u0 u' ∧ Only b w w' := by
  obtain ⟨a, n, c, rfl⟩ := hf
  have hbl := hs.lt
  have HL := Lib.hid hlist
  have HR : Hid (∀ W v, Strs W v out → Calls Tryz.prog 80 #[v] W fun e w' => e = .returned (.string (rowsB out)) ∧ Below W.heap.size W w') := Lib.hid fun W v h => rows_any _ v W h hlen
  clear hlist hs hlen
  go_enter Tryz.func52, Tryz.ntmps52
  go_wp2_with fail
  refine (HL.out _ (below_alloc _ _)).mono ?_
  rintro e w1 ⟨v, rfl, hv, hvb, hsb, hon⟩
  have HV := Lib.hid hv; have HSB := Lib.hid hsb; have HVB := Lib.hid hvb
  have c0 := hsb.cell 0
  have f0 := hsb.frozen 0
  simp only [List.getElem?_toArray, List.getElem?_cons_zero] at c0
  obtain ⟨a3, c3, hv3, -⟩ := id hv
  subst hv3
  clear hv hsb hvb
  go_wp2_with fail
  refine (HR.out _ _ (strs_setCell HV.out (fun a n c e => by have := HVB.out a n c e; simp at this; omega))).mono ?_
  rintro e w2 ⟨rfl, hb2⟩
  go_wp2_with fail
  go_ret2
  refine ⟨rfl, (HSB.out.saw0 _).later hb2, ?_⟩
  exact ((Only.of_below (below_alloc _ _)).trans hon).trans ((Only.setCell w1).trans (Only.of_below hb2))

theorem wireInt_size (n : Int) (h0 : -9223372036854775808 ≤ n) (h1 : n ≤ 9223372036854775807) : (wireInt n).size ≤ 100 := by
  have := Lib.itoa_length_le n h0 h1
  show (Lib.itoa n ++ [59]).toArray.size ≤ 100
  simp; omega

set_option maxRecDepth 100000 in
set_option maxHeartbeats 2000000 in
theorem write_stamp (b : Nat) (text : ByteArray) (clock : List Int) (vs clk ord nxt : Value) (u0 u1 : Int) (vf : Value) (tn : ByteArray) (sorted : Bool) (w : World) (hG : Glob w) (hs : Sbx w b vs clk ord nxt u0 u1) (hsaw : Strs w vs [text])
    (hsb : ∀ a n c, vs = .slice (some a) n c → a.block ≠ b) (hclk : Ints w clk clock) (hf : ∃ a n c, vf = .slice a n c) (ht : text.size ≤ 1000000) (hu0 : 0 ≤ u0) (hu1 : u0 ≤ 4611686018427387904) (hgb : 11 ≤ b)
    (hw : ∀ x, x ∈ clock → (Lit.int .i64 x).wf = true) :
    Calls Tryz.prog 52 #[.pointer (some ⟨b, 0, none⟩), .agg #[.int .i64 4, vf, .string tn, .bool sorted]] w fun e w' =>
      e = .returned (.tuple #[.string (stampB text (clock.getD u0.toNat 0)), .int .i64 0]) ∧ Sbx w' b vs clk ord nxt (u0 + 1) u1 ∧ Only b w w' := by
  obtain ⟨a, n, c, rfl⟩ := hf
  have c0 := hs.cell 0
  have c1 := hs.cell 1
  have hbl := hs.lt
  simp only [List.getElem?_toArray, List.getElem?_cons_zero, List.getElem?_cons_succ] at c0 c1
  rcases hsaw.cases with ⟨h, -⟩ | ⟨bl, o, cc, rfl, h0, h1, h2, hb, hc⟩
  · cases h
  have hblb : bl ≠ b := hsb ⟨bl, o, none⟩ _ _ rfl
  have c2 := (hc 0 text rfl).1
  simp only [Nat.add_zero, List.length_cons, List.length_nil, Nat.zero_add] at c2 c0 h1
  have hb0 : Below w.heap.size w (w.alloc (.cells #[.int .i64 4, .slice a n c, .string tn, .bool sorted] 24)) := below_alloc _ _
  have HS0 := Lib.hid (hs.later hb0)
  have HC0 := Lib.hid (hclk.later hb0)
  have HG0 := Lib.hid (hG.later hb0)
  have HO0 := Lib.hid (Only.of_below (b := b) hb0)
  have d0 := cell_later hb0 c0
  have d1 := cell_later hb0 c1
  have d2 := cell_later hb0 c2
  have hwx : (Lit.int .i64 (clock.getD u0.toNat 0)).wf = true := by
    rw [List.getD_eq_getElem?_getD]
    cases hh : clock[u0.toNat]? with
    | none => rfl
    | some y => exact hw y (List.mem_of_getElem? hh)
  obtain ⟨hx0, hx1⟩ := i64_bounds hwx
  obtain ⟨ak, ck, hvk, -⟩ := id hclk
  subst hvk
  have HN : Hid (∀ W, Sbx W b (.slice (some ⟨bl, o, none⟩) 1 cc) (.slice ak clock.length ck) ord nxt u0 u1 → Ints W (.slice ak clock.length ck) clock → Calls Tryz.prog 83 #[.pointer (some ⟨b, 0, none⟩), .slice ak clock.length ck, .int .i64 0] W fun e w' => e = .returned (.int .i64 (clock.getD u0.toNat 0)) ∧ Sbx w' b (.slice (some ⟨bl, o, none⟩) 1 cc) (.slice ak clock.length ck) ord nxt (u0 + 1) u1 ∧ Only b W w') :=
    Lib.hid fun W h1 h2 => next0_any b _ _ _ _ u0 u1 clock _ W h1 h2 hu0 hu1
  generalize clock.getD u0.toNat 0 = X at HN hwx hx0 hx1 ⊢
  have hwz : (wireInt X).size ≤ 100 := wireInt_size X hx0 hx1
  have hwz2 : (text ++ wireInt X).size ≤ 1000100 := by rw [ByteArray.size_append]; omega
  have hn1 : ¬ 9223372036854775807 < text.size + (wireInt X).size := by omega
  have hn2 : ¬ 9223372036854775807 < text.size + (wireInt X).size + 1 := by omega
  clear hc hsaw hclk hs hG c0 c1 c2 hw hwx hb
  go_enter Tryz.func52, Tryz.ntmps52
  go_wp2_with fail
  generalize hW0 : w.alloc (.cells #[.int .i64 4, .slice a n c, .string tn, .bool sorted] 24) = W0 at *
  clear hW0
  go_region_held3 (fun W => W.cell? ⟨b, 0, none⟩ = some (.slice (some ⟨bl, o, none⟩) 1 cc) ∧ W.cell? ⟨b, 1, none⟩ = some (.slice ak clock.length ck) ∧ W.cell? ⟨bl, o, none⟩ = some (.string text))
    (first | exact ⟨j0, j1, j2⟩ | exact ⟨k0, k1, k2⟩ | exact ⟨d0, d1, d2⟩ | go_keep)
    (first | (go_at_call 83; refine (HN.out _ (by exact HS0.out) (by exact HC0.out)).mono ?_; rintro e w1 ⟨rfl, hsb1, hon1⟩; have HSB1 := Lib.hid hsb1; have HON1 := Lib.hid hon1; have k0 : w1.cell? ⟨b, 0, none⟩ = some (.slice (some ⟨bl, o, none⟩) 1 cc) := hsb1.cell 0; have k1 : w1.cell? ⟨b, 1, none⟩ = some (.slice ak clock.length ck) := hsb1.cell 1; have k2 : w1.cell? ⟨bl, o, none⟩ = some (.string text) := hon1.cell hblb (by exact d2); clear hsb1 hon1) | (go_at_call 82; refine (wireInt_any _ _ (by exact (HG0.out.later (Below.refl _ _).drew).only HON1.out hgb) hx0 hx1).mono ?_; rintro e w2 ⟨rfl, hb2⟩; have j0 := cell_later hb2 k0; have j1 := cell_later hb2 k1; have j2 := cell_later hb2 k2))
  go_wp2_with fail
  go_ret2
  exact ⟨rfl, HSB1.out.later hb2, (HO0.out.drew.trans HON1.out).trans (Only.of_below hb2)⟩
end Go.Proofs.YtacgopankhpnbaaGreatDoor
/- Walks of package step: write, all kinds but StCompile in one contract. -/
namespace Go.Proofs.YtacgopankhpnbaaGreatDoor
open Go.RowKit

theorem rowsL_length (l : List ByteArray) (B : Nat) (h : ∀ x, x ∈ l → x.size ≤ B) : (rowsL l).length ≤ l.length * (B + 1) := by
  induction l with
  | nil => simp [rowsL]
  | cons x l ih =>
    have h1 := ih (fun y hy => h y (List.mem_cons_of_mem _ hy))
    have h2 := h x (List.mem_cons_self ..)
    have e : rowsL (x :: l) = x.data.toList ++ [10] ++ rowsL l := by simp [rowsL]
    rw [e]
    have : x.data.toList.length = x.size := by simp
    simp only [List.length_append, this, List.length_cons, List.length_nil]
    rw [Nat.add_mul]; omega
theorem join_length (l : List ByteArray) (B : Nat) (h : ∀ x, x ∈ l → x.size ≤ B) : (Lib.join (l.map (·.data.toList)) []).length ≤ l.length * B := by
  have : Lib.join (l.map (·.data.toList)) [] = (l.map (·.data.toList)).flatten := by
    unfold Lib.join
    induction l.map (·.data.toList) with
    | nil => rfl
    | cons x r ih => cases r <;> simp_all [List.intercalate, List.intersperse]
  rw [this]
  clear this
  induction l with
  | nil => simp
  | cons x l ih =>
    have h1 := ih (fun y hy => h y (List.mem_cons_of_mem _ hy))
    have h2 := h x (List.mem_cons_self ..)
    have : x.data.toList.length = x.size := by simp
    simp only [List.map_cons, List.flatten_cons, List.length_append, this, List.length_cons]
    rw [Nat.add_mul]; omega

theorem pickAll_length (order : List Int) : ∀ (f u : Nat) (l : List ByteArray), (pickAll order f u l).length ≤ f
  | 0, _, _ => by simp [pickAll]
  | f + 1, u, l => by
    rw [pickAll]
    split
    · simp
    · have := pickAll_length order f (u + 1) (l.eraseIdx (pickIdx (order.getD u 0) l.length))
      rw [List.length_cons]; omega
theorem isName_size {s : ByteArray} (h : isName s = true) : s.size ≤ 20 := by
  simp [isName] at h; exact h.2
theorem sortedLines_rows (t : ByteArray) (ht : t.size ≤ 65536) : (rowsL (sortedLines t)).length ≤ 140737488355328 := by
  unfold sortedLines
  split
  · simp [rowsL]
  · have hle := trim_size t
    have hcnt := Lib.countB_le nl (by decide) t.size _ hle
    have hl := linesOf_length t
    have h := rowsL_length (sortB (linesOf t)) 65536 (fun x hx => by
      have := splitB_size nl _ _ x (mem_sortB hx)
      omega)
    rw [sortB_length] at h
    have : (linesOf t).length * (65536 + 1) ≤ 65537 * 65537 := Nat.mul_le_mul (by omega) (by omega)
    omega

/-- Strs in a block behind block b. -/
def StrsOff (b : Nat) (w : World) (v : Value) (l : List ByteArray) : Prop := Strs w v l ∧ ∀ a n c, v = .slice (some a) n c → l ≠ [] → b < a.block
theorem StrsOff.only {b : Nat} {w w' : World} {v : Value} {l : List ByteArray} (h : StrsOff b w v l) (ho : Only b w w') : StrsOff b w' v l := by
  refine ⟨?_, h.2⟩
  obtain ⟨a, c, hv, h1, h2, h3⟩ := h.1
  refine ⟨a, c, hv, h1, h2, fun hne => ?_⟩
  obtain ⟨b', o', ha, hc⟩ := h3 hne
  refine ⟨b', o', ha, fun i x' hx => ?_⟩
  obtain ⟨cs, e, hl, hj⟩ := hc i x' hx
  exact ⟨cs, e, hl, fun j u hu => ho.cell (Nat.ne_of_gt (h.2 ⟨b', o', none⟩ l.length c (by rw [hv, ha]) hne)) (hj j u hu)⟩
def IntsOff (b : Nat) (w : World) (v : Value) (l : List Int) : Prop := Ints w v l ∧ ∀ a n c, v = .slice (some a) n c → l ≠ [] → a.block ≠ b
theorem IntsOff.only {b : Nat} {w w' : World} {v : Value} {l : List Int} (h : IntsOff b w v l) (ho : Only b w w') : IntsOff b w' v l := by
  refine ⟨?_, h.2⟩
  obtain ⟨a, c, hv, h1, h2, h3⟩ := h.1
  refine ⟨a, c, hv, h1, h2, fun hne => ?_⟩
  obtain ⟨b', o', ha, hc⟩ := h3 hne
  refine ⟨b', o', ha, fun i x' hx => ?_⟩
  obtain ⟨cs, e, hl, hj⟩ := hc i x' hx
  exact ⟨cs, e, hl, fun j u hu => ho.cell (h.2 ⟨b', o', none⟩ l.length c (by rw [hv, ha]) hne) (hj j u hu)⟩

theorem stepRight_parts {s : Stp} (h : stepRight s = true) : (∀ x, x ∈ s.src → isName x = true) ∧ isName s.out = true ∧ s.src.length ≤ 60 ∧
    (s.kind = 2 ∨ s.kind = 1 ∧ s.sorted = false ∨ (s.kind = 0 ∨ s.kind = 3 ∨ s.kind = 4 ∨ s.kind = 5) ∧ s.src.length = 1 ∧ s.sorted = false) := by
  unfold stepRight at h
  split at h
  · cases h
  · rename_i h0
    have h0' : isName s.out = true ∧ ∀ x, x ∈ s.src → isName x = true := by
      simp at h0; exact ⟨h0.1, fun x hx => by simpa using h0.2 x hx⟩
    refine ⟨h0'.2, h0'.1, ?_⟩
    split at h
    · rename_i h2; simp at h; exact ⟨h, .inl h2⟩
    · split at h
      · rename_i h1; simp at h; exact ⟨h.1, .inr (.inl ⟨h1, h.2⟩)⟩
      · split at h
        · rename_i h3; simp at h; exact ⟨by omega, .inr (.inr ⟨h3, h.1, h.2⟩)⟩
        · cases h

/-- What is asked of a sandbox and what a step hands in. -/
structure WriteIn (s : Stp) (saw : List ByteArray) (clock order : List Int) (b : Nat) (vs clk ord nxt vf : Value) (u0 u1 : Int) (w : World) : Prop where
  hglob : Glob w
  hb : 11 ≤ b
  hsbx : Sbx w b vs clk ord nxt u0 u1
  hsaw : StrsOff b w vs saw
  hclk : IntsOff b w clk clock
  hord : IntsOff b w ord order
  hsrc : Strs w vf s.src
  hright : stepRight s = true
  htexts : ∀ x, x ∈ saw → x.size ≤ 65536
  hlen : saw.length = s.src.length
  hu0 : 0 ≤ u0 ∧ u0 ≤ 1152921504606846976
  hu1 : 0 ≤ u1 ∧ u1 ≤ 1152921504606846976
  hcwf : ∀ x, x ∈ clock → (Lit.int .i64 x).wf = true
  howf : ∀ x, x ∈ order → (Lit.int .i64 x).wf = true

theorem write_any (s : Stp) (saw : List ByteArray) (clock order : List Int) (b : Nat) (vs clk ord nxt vf : Value) (u0 u1 : Int) (w : World) (h : WriteIn s saw clock order b vs clk ord nxt vf u0 u1 w) (h5 : s.kind ≠ 5) :
    Calls Tryz.prog 52 #[.pointer (some ⟨b, 0, none⟩), .agg #[.int .i64 s.kind, vf, .string s.out, .bool s.sorted]] w fun e w' => ∃ vs',
      e = .returned (.tuple #[.string (writeStep s saw clock order u0 u1).1, .int .i64 0]) ∧ Sbx w' b vs' clk ord nxt (writeStep s saw clock order u0 u1).2.2.1 (writeStep s saw clock order u0 u1).2.2.2 ∧
      StrsOff b w' vs' (writeStep s saw clock order u0 u1).2.1 ∧ Only b w w' := by
  obtain ⟨hn, hout, hl, hk⟩ := stepRight_parts h.hright
  have hf : ∃ a n c, vf = .slice a n c := by obtain ⟨a, c, hv, -⟩ := h.hsrc; exact ⟨a, _, c, hv⟩
  obtain ⟨kind, src, out, sorted⟩ := s
  simp only at hn hout hl hk h5 hf ⊢
  by_cases k01 : kind = 0 ∨ kind = 1
  · have e : writeStep ⟨kind, src, out, sorted⟩ saw clock order u0 u1 = (joinB saw, saw, u0, u1) := by simp [writeStep, k01]
    rw [e]
    have hj := join_length saw 65536 h.htexts
    have hlen : saw.length ≤ 60 := by have := h.hlen; simp only at this; omega
    refine (write_join b saw vs clk ord nxt u0 u1 kind vf out sorted w h.hsbx h.hsaw.1 k01 hf (Nat.le_trans hj (by omega)) (by omega)).mono ?_
    rintro e w' ⟨rfl, hs, ho⟩
    exact ⟨vs, rfl, hs, h.hsaw.only ho, ho⟩
  by_cases k3 : kind = 3
  · subst k3
    have e : writeStep ⟨3, src, out, sorted⟩ saw clock order u0 u1 = (rowsB (sortedLines (saw.headD ByteArray.empty)), saw, u0, u1) := by simp [writeStep]
    rw [e]
    obtain ⟨t, rfl⟩ : ∃ t, saw = [t] := by
      have := h.hlen; simp only at this
      have h1 : saw.length = 1 := by omega
      exact List.length_eq_one_iff.1 h1
    have ht := h.htexts t (by simp)
    refine (write_sort b t vs clk ord nxt u0 u1 vf out sorted w h.hglob h.hsbx h.hsaw.1 hf (by omega) (sortedLines_rows t ht)).mono ?_
    rintro e w' ⟨rfl, hs, ho⟩
    exact ⟨vs, rfl, hs, h.hsaw.only ho, ho⟩
  by_cases k4 : kind = 4
  · subst k4
    have e : writeStep ⟨4, src, out, sorted⟩ saw clock order u0 u1 = (stampB (saw.headD ByteArray.empty) (clock.getD u0.toNat 0), saw, u0 + 1, u1) := by simp [writeStep]
    rw [e]
    obtain ⟨t, rfl⟩ : ∃ t, saw = [t] := by
      have := h.hlen; simp only at this
      have h1 : saw.length = 1 := by omega
      exact List.length_eq_one_iff.1 h1
    have ht := h.htexts t (by simp)
    refine (write_stamp b t clock vs clk ord nxt u0 u1 vf out sorted w h.hglob h.hsbx h.hsaw.1 (fun a n c e => Nat.ne_of_gt (h.hsaw.2 a n c e (by simp))) h.hclk.1 hf (by omega) h.hu0.1 (by have := h.hu0.2; omega) h.hb h.hcwf).mono ?_
    rintro e w' ⟨rfl, hs, ho⟩
    exact ⟨vs, rfl, hs, h.hsaw.only ho, ho⟩
  · have k2 : kind = 2 := by omega
    subst k2
    have hsz : ∀ x, x ∈ src → x.size ≤ 20 := fun x hx => isName_size (hn x hx)
    have hsrc : Strs w vf src := h.hsrc
    cases sorted with
    | true =>
      have e : writeStep ⟨2, src, out, true⟩ saw clock order u0 u1 = (rowsB (sortB src), [], u0, u1) := by simp [writeStep]
      rw [e]
      have hr := rowsL_length (sortB src) 20 (fun x hx => hsz x (mem_sortB hx))
      rw [sortB_length] at hr
      refine (write_list b (sortB src) vs clk ord nxt u0 u1 u1 vf out true w h.hsbx hf (fun W hb => ?_) (by omega)).mono ?_
      · refine (list_sorted b src vf W (hsrc.later hb) (by omega)).mono ?_
        rintro e w' ⟨v, rfl, h1, h2, h3⟩
        exact ⟨v, rfl, h1, h2, (h.hsbx.later hb).later h3, Only.of_below h3⟩
      · rintro e w' ⟨rfl, hs, ho⟩
        exact ⟨_, rfl, hs, ⟨⟨none, 0, rfl, by simp, by simp, fun h => absurd rfl h⟩, fun a n c e _ => by simp at e⟩, ho⟩
    | false =>
      have e : writeStep ⟨2, src, out, false⟩ saw clock order u0 u1 = (rowsB (pickAll order src.length u1.toNat (sortB src)), [], u0, u1 + src.length) := by simp [writeStep]
      rw [e]
      have hr := rowsL_length (pickAll order src.length u1.toNat (sortB src)) 20 (fun x hx => hsz x (mem_sortB (pickAll_mem hx)))
      have hpl := pickAll_length order src.length u1.toNat (sortB src)
      have hmul : (pickAll order src.length u1.toNat (sortB src)).length * (20 + 1) ≤ 60 * 21 := Nat.mul_le_mul (by omega) (by omega)
      have hu := h.hu1
      refine (write_list b (pickAll order src.length u1.toNat (sortB src)) vs clk ord nxt u0 u1 (u1 + src.length) vf out false w h.hsbx hf (fun W hb => ?_) (by omega)).mono ?_
      · have hsb : Sbx W b vs clk ord nxt u0 ((u1.toNat : Nat) : Int) := (h.hsbx.later hb).cast (by omega)
        refine (list_picks b vs clk nxt ord u0 u1.toNat order src vf W hsb (fun W' ho => (h.hord.only ((Only.of_below hb).trans ho)).1) (hsrc.later hb) (by omega) (by omega) h.howf).mono ?_
        rintro e w' ⟨v, rfl, h1, h2, h3, h4⟩
        exact ⟨v, rfl, h1, h2, h3.cast (by omega), h4⟩
      · rintro e w' ⟨rfl, hs, ho⟩
        exact ⟨_, rfl, hs, ⟨⟨none, 0, rfl, by simp, by simp, fun h => absurd rfl h⟩, fun a n c e _ => by simp at e⟩, ho⟩
end Go.Proofs.YtacgopankhpnbaaGreatDoor
/- Walks of package step: Do, the early errors. -/
namespace Go.Proofs.YtacgopankhpnbaaGreatDoor
open Go.RowKit

theorem res_cells {w : World} {b : Nat} {u v x y : Value} (h0 : w.cell? ⟨b, 0, none⟩ = some x) (h1 : w.cell? ⟨b, 1, none⟩ = some y) :
    ((w.setCell ⟨b, 0, none⟩ u).setCell ⟨b, 1, none⟩ v).drew.cell? ⟨b, 0, none⟩ = some u ∧ ((w.setCell ⟨b, 0, none⟩ u).setCell ⟨b, 1, none⟩ v).drew.cell? ⟨b, 1, none⟩ = some v := by
  obtain ⟨c, e, fr, hb, hc0⟩ := Sort.cells_of_cell? h0
  obtain ⟨c', e', fr', hb', hc1⟩ := Sort.cells_of_cell? h1
  rw [hb] at hb'; cases hb'
  have i0 : 0 < c.size := by rcases Nat.lt_or_ge 0 c.size with h | h; exact h; rw [Array.getElem?_eq_none h] at hc0; cases hc0
  have i1 : 1 < c.size := by rcases Nat.lt_or_ge 1 c.size with h | h; exact h; rw [Array.getElem?_eq_none h] at hc1; cases hc1
  have hH : ((w.setCell ⟨b, 0, none⟩ u).setCell ⟨b, 1, none⟩ v).drew.heap[b]? = some (.cells ((c.setIfInBounds 0 u).setIfInBounds 1 v) e fr) := by
    show ((w.setCell ⟨b, 0, none⟩ u).setCell ⟨b, 1, none⟩ v).heap[b]? = _
    simp [World.setCell, Array.getElem?_modify, hb]
  constructor
  · simp only [World.cell?, hH]; simp [i0]
  · simp only [World.cell?, hH]; simp [i1]
/-- What is handed to Do. -/
structure DoIn (s : Stp) (files : List Fil) (clock order : List Int) (vf vl vc vo vn : Value) (u0 u1 : Int) (w : World) : Prop where
  hglob : Glob w
  hsrc : Strs w vf s.src
  hout : s.out.size ≤ 140737488355328
  hfil : Fils w vl files
  hclk : Ints w vc clock
  hord : Ints w vo order
  hnxt : ∃ a n c, vn = .slice a n c
  hu0 : -9223372036854775808 ≤ u0 ∧ u0 ≤ 1152921504606846976
  hu1 : -9223372036854775808 ≤ u1 ∧ u1 ≤ 1152921504606846976
  hcwf : ∀ x, x ∈ clock → (Lit.int .i64 x).wf = true
  howf : ∀ x, x ∈ order → (Lit.int .i64 x).wf = true

/-- Do's arguments. -/
abbrev doArgs (s : Stp) (vf vl vc vo vn : Value) (u0 u1 : Int) : Array Value :=
  #[.agg #[.int .i64 s.kind, vf, .string s.out, .bool s.sorted], vl, .agg #[vc, vo, vn], .agg #[.int .i64 u0, .int .i64 u1]]

/-- What Do returns with an error. -/
abbrev doErr (u0 u1 e : Int) : Value := .tuple #[.slice none 0 0, .slice none 0 0, .agg #[.int .i64 u0, .int .i64 u1], .int .i64 e]

theorem value_slices {s : Stp} {files : List Fil} {clock order : List Int} {vf vl vc vo vn : Value} {u0 u1 : Int} {w : World} (h : DoIn s files clock order vf vl vc vo vn u0 u1 w) :
    (∃ a c, vf = .slice a s.src.length c) ∧ (∃ a c, vl = .slice a files.length c) ∧ (∃ a n c, vc = .slice a n c) ∧ (∃ a n c, vo = .slice a n c) ∧ (∃ a n c, vn = .slice a n c) := by
  obtain ⟨a1, c1, h1, -⟩ := h.hsrc
  obtain ⟨a2, c2, h2, -⟩ := h.hfil
  obtain ⟨a3, c3, h3, -⟩ := h.hclk
  obtain ⟨a4, c4, h4, -⟩ := h.hord
  exact ⟨⟨a1, c1, h1⟩, ⟨a2, c2, h2⟩, ⟨a3, _, c3, h3⟩, ⟨a4, _, c4, h4⟩, h.hnxt⟩

/-- The four boxes that Do lays first, in a later world. -/
structure DoBoxes (w W : World) (kind : Int) (vf : Value) (out : ByteArray) (sorted : Bool) (vc vo vn : Value) (u0 u1 : Int) : Prop where
  bs : W.heap[w.heap.size]? = some (.cells #[.int .i64 kind, vf, .string out, .bool sorted] 24 (0, 0))
  bw : W.heap[w.heap.size + 1]? = some (.cells #[vc, vo, vn] 28 (0, 0))
  bu : W.heap[w.heap.size + 1 + 1]? = some (.cells #[.int .i64 u0, .int .i64 u1] 31 (0, 0))
  br : W.heap[w.heap.size + 1 + 1 + 1]? = some (.cells #[.int .i64 0, .int .i64 0] 31 (0, 0))
  below : Below w.heap.size w W
theorem heap_lt {W : World} {k : Nat} {o : Obj} (h : W.heap[k]? = some o) : k < W.heap.size := (Array.getElem?_eq_some_iff.1 h).1
theorem DoBoxes.made (w : World) (kind : Int) (vf : Value) (out : ByteArray) (sorted : Bool) (vc vo vn : Value) (u0 u1 : Int) :
    DoBoxes w ((((w.alloc (.cells #[.int .i64 kind, vf, .string out, .bool sorted] 24)).alloc (.cells #[vc, vo, vn] 28)).alloc (.cells #[.int .i64 u0, .int .i64 u1] 31)).alloc (.cells #[.int .i64 0, .int .i64 0] 31)) kind vf out sorted vc vo vn u0 u1 := by
  refine ⟨?_, ?_, ?_, ?_, ((((Below.refl _ w).alloc (Nat.le_refl _) _).alloc (by simp) _).alloc (by simp; omega) _).alloc (by simp; omega) _⟩
  · rw [Below.heap_alloc _ _ _ (by simp; omega), Below.heap_alloc _ _ _ (by simp; omega), Below.heap_alloc _ _ _ (by simp), alloc_self]
  · rw [Below.heap_alloc _ _ _ (by simp), Below.heap_alloc _ _ _ (by simp)]
    have h := alloc_self (w.alloc (.cells #[.int .i64 kind, vf, .string out, .bool sorted] 24)) (.cells #[vc, vo, vn] 28)
    simpa only [World.size_alloc] using h
  · rw [Below.heap_alloc _ _ _ (by simp)]
    have h := alloc_self ((w.alloc (.cells #[.int .i64 kind, vf, .string out, .bool sorted] 24)).alloc (.cells #[vc, vo, vn] 28)) (.cells #[.int .i64 u0, .int .i64 u1] 31)
    simpa only [World.size_alloc] using h
  · have h := alloc_self (((w.alloc (.cells #[.int .i64 kind, vf, .string out, .bool sorted] 24)).alloc (.cells #[vc, vo, vn] 28)).alloc (.cells #[.int .i64 u0, .int .i64 u1] 31)) (.cells #[.int .i64 0, .int .i64 0] 31)
    simpa only [World.size_alloc] using h
section
variable {w W W' : World} {kind : Int} {vf : Value} {out : ByteArray} {sorted : Bool} {vc vo vn : Value} {u0 u1 : Int}
theorem DoBoxes.later (h : DoBoxes w W kind vf out sorted vc vo vn u0 u1) (hb : Below W.heap.size W W') : DoBoxes w W' kind vf out sorted vc vo vn u0 u1 :=
  ⟨(hb.block _ (heap_lt h.bs)).trans h.bs, (hb.block _ (heap_lt h.bw)).trans h.bw, (hb.block _ (heap_lt h.bu)).trans h.bu, (hb.block _ (heap_lt h.br)).trans h.br, below_trans h.below hb⟩
theorem DoBoxes.only {b : Nat} (h : DoBoxes w W kind vf out sorted vc vo vn u0 u1) (hb : Only b W W') (hbb : w.heap.size + 1 + 1 + 1 < b) : DoBoxes w W' kind vf out sorted vc vo vn u0 u1 :=
  ⟨(hb.block _ (heap_lt h.bs) (by omega)).trans h.bs, (hb.block _ (heap_lt h.bw) (by omega)).trans h.bw, (hb.block _ (heap_lt h.bu) (by omega)).trans h.bu, (hb.block _ (heap_lt h.br) (by omega)).trans h.br, hb.below h.below (by omega) (by have := heap_lt h.bs; omega)⟩
theorem DoBoxes.cells (h : DoBoxes w W kind vf out sorted vc vo vn u0 u1) :
    W.cell? ⟨w.heap.size, 0, none⟩ = some (.int .i64 kind) ∧ W.cell? ⟨w.heap.size, 1, none⟩ = some vf ∧ W.cell? ⟨w.heap.size, 2, none⟩ = some (.string out) ∧ W.cell? ⟨w.heap.size, 3, none⟩ = some (.bool sorted) ∧
    W.cell? ⟨w.heap.size + 1, 0, none⟩ = some vc ∧ W.cell? ⟨w.heap.size + 1, 1, none⟩ = some vo ∧ W.cell? ⟨w.heap.size + 1, 2, none⟩ = some vn ∧
    W.cell? ⟨w.heap.size + 1 + 1, 0, none⟩ = some (.int .i64 u0) ∧ W.cell? ⟨w.heap.size + 1 + 1, 1, none⟩ = some (.int .i64 u1) ∧
    W.cell? ⟨w.heap.size + 1 + 1 + 1, 0, none⟩ = some (.int .i64 0) ∧ W.cell? ⟨w.heap.size + 1 + 1 + 1, 1, none⟩ = some (.int .i64 0) ∧
    W.frozen? ⟨w.heap.size + 1 + 1 + 1, 0, none⟩ = false ∧ W.frozen? ⟨w.heap.size + 1 + 1 + 1, 1, none⟩ = false := by
  obtain ⟨h1, h2, h3, h4, -⟩ := h
  refine ⟨?_, ?_, ?_, ?_, ?_, ?_, ?_, ?_, ?_, ?_, ?_, ?_, ?_⟩ <;> simp [World.cell?, World.frozen?, h1, h2, h3, h4]
/-- The end of a call that returns an error. -/
theorem DoBoxes.err {e : Int} {a : Act} (h : DoBoxes w W kind vf out sorted vc vo vn u0 u1) (h8 : a.tmps[8]?.getD undef = .slice none 0 0) (h9 : a.tmps[9]?.getD undef = .slice none 0 0) (h10 : a.tmps[10]?.getD undef = .pointer (some ⟨w.heap.size + 1 + 1 + 1, 0, none⟩)) (h11 : a.tmps[11]?.getD undef = .int .i64 e) (hd : a.defers = []) {R : Ending → World → Prop}
    (hR : ∀ W', Below w.heap.size w W' → R (.returned (doErr u0 u1 e)) W') :
    bodyPost Tryz.prog Tryz.f17 R .ret a ((W.setCell ⟨w.heap.size + 1 + 1 + 1, 0, none⟩ (.int .i64 u0)).setCell ⟨w.heap.size + 1 + 1 + 1, 1, none⟩ (.int .i64 u1)).drew := by
  obtain ⟨-, -, -, -, -, -, -, -, -, r0, r1, -, -⟩ := h.cells
  have hr := res_cells (w := W) (b := w.heap.size + 1 + 1 + 1) (u := .int .i64 u0) (v := .int .i64 u1) r0 r1
  refine bodyPost_ret (v := doErr u0 u1 e) (by simp [results, Tryz.results17, go_sem, hr.1, hr.2, h8, h9, h10, h11]) hd (hR _ ?_)
  exact ((h.below.setCell (by simp; omega) _).setCell (by simp; omega) _).drew
end
set_option maxHeartbeats 1000000 in
set_option maxRecDepth 100000 in
theorem do_arg (s : Stp) (files : List Fil) (clock order : List Int) (vf vl vc vo vn : Value) (u0 u1 : Int) (w : World) (h : DoIn s files clock order vf vl vc vo vn u0 u1 w)
    (hbad : stepRight s = false ∨ rightFiles files = false ∨ min u0 u1 < 0) :
    Calls Tryz.prog 17 (doArgs s vf vl vc vo vn u0 u1) w fun e w' => e = .returned (doErr u0 u1 1) ∧ Below w.heap.size w w' := by
  obtain ⟨⟨a1, c1, e1⟩, ⟨a2, c2, e2⟩, ⟨a3, n3, c3, e3⟩, ⟨a4, n4, c4, e4⟩, ⟨a5, n5, c5, e5⟩⟩ := value_slices h
  have HR : Hid (∀ W, Below w.heap.size w W → Calls Tryz.prog 24 #[.agg #[.int .i64 s.kind, vf, .string s.out, .bool s.sorted]] W fun e w' => e = .returned (.bool (stepRight s)) ∧ Below W.heap.size W w') :=
    Lib.hid fun W hb => stepRight_any s vf W (h.hsrc.later hb) h.hout
  have HF : Hid (∀ W, Below w.heap.size w W → Calls Tryz.prog 51 #[vl] W fun e w' => e = .returned (.bool (rightFiles files)) ∧ Below W.heap.size W w') :=
    Lib.hid fun W hb => rightFiles_any files vl W (h.hfil.later hb)
  obtain ⟨kind, src, out, sorted⟩ := s
  have hu0 := h.hu0
  have hu1 := h.hu1
  clear h
  simp only at e1
  subst e1 e2 e3 e4 e5
  unfold doArgs
  simp only at HR HF ⊢
  generalize stepRight ⟨kind, src, out, sorted⟩ = r1 at HR hbad
  generalize rightFiles files = r2 at HF hbad
  have hm0 := DoBoxes.made w kind (.slice a1 src.length c1) out sorted (.slice a3 n3 c3) (.slice a4 n4 c4) (.slice a5 n5 c5) u0 u1
  have HB0 := Lib.hid hm0; clear hm0
  cases r1 with
  | false =>
    clear hbad HF
    go_enter Tryz.func17, Tryz.ntmps17
    go_wp2_with fail
    refine (HR.out _ HB0.out.below).mono ?_
    rintro e w1 ⟨rfl, hb1⟩
    have HB1 := Lib.hid (HB0.out.later hb1); clear HB0 hb1
    obtain ⟨-, -, -, -, -, -, -, x0, x1, r0, r1, f0, f1⟩ := HB1.out.cells
    go_wp2_with fail
    go_region
    go_wp2_with fail
    exact HB1.out.err rfl rfl rfl rfl rfl fun W' hW => ⟨rfl, hW⟩
  | true =>
    cases r2 with
    | false =>
      clear hbad
      go_enter Tryz.func17, Tryz.ntmps17
      go_wp2_with fail
      refine (HR.out _ HB0.out.below).mono ?_
      rintro e w1 ⟨rfl, hb1⟩
      have HB1 := Lib.hid (HB0.out.later hb1); clear HB0 hb1
      go_wp2_with fail
      refine (HF.out _ HB1.out.below).mono ?_
      rintro e w2 ⟨rfl, hb2⟩
      have HB2 := Lib.hid (HB1.out.later hb2); clear HB1 hb2
      obtain ⟨-, -, -, -, -, -, -, x0, x1, r0, r1, f0, f1⟩ := HB2.out.cells
      go_wp2_with fail
      go_region
      go_wp2_with fail
      exact HB2.out.err rfl rfl rfl rfl rfl fun W' hW => ⟨rfl, hW⟩
    | true =>
      have hmin : min u0 u1 < 0 := by simpa using hbad
      clear hbad
      go_enter Tryz.func17, Tryz.ntmps17
      go_wp2_with fail
      refine (HR.out _ HB0.out.below).mono ?_
      rintro e w1 ⟨rfl, hb1⟩
      have HB1 := Lib.hid (HB0.out.later hb1); clear HB0 hb1
      go_wp2_with fail
      refine (HF.out _ HB1.out.below).mono ?_
      rintro e w2 ⟨rfl, hb2⟩
      have HB2 := Lib.hid (HB1.out.later hb2); clear HB1 hb2
      obtain ⟨-, -, -, -, -, -, -, x0, x1, r0, r1, f0, f1⟩ := HB2.out.cells
      go_wp2_with fail
      go_region
      go_wp2_with fail
      exact HB2.out.err rfl rfl rfl rfl rfl fun W' hW => ⟨rfl, hW⟩

set_option maxHeartbeats 1000000 in
set_option maxRecDepth 100000 in
theorem do_twice (s : Stp) (files : List Fil) (clock order : List Int) (vf vl vc vo vn : Value) (u0 u1 : Int) (w : World) (h : DoIn s files clock order vf vl vc vo vn u0 u1 w)
    (hr1 : stepRight s = true) (hr2 : rightFiles files = true) (hmin : ¬ min u0 u1 < 0) (t : ByteArray) (ht : findFile files s.out = some t) :
    Calls Tryz.prog 17 (doArgs s vf vl vc vo vn u0 u1) w fun e w' => e = .returned (doErr u0 u1 5) ∧ Below w.heap.size w w' := by
  have HT := Lib.hid (show findV files s.out = .tuple #[.string t, .bool true] by unfold findV; rw [ht]); clear ht
  obtain ⟨⟨a1, c1, e1⟩, ⟨a2, c2, e2⟩, ⟨a3, n3, c3, e3⟩, ⟨a4, n4, c4, e4⟩, ⟨a5, n5, c5, e5⟩⟩ := value_slices h
  have HR : Hid (∀ W, Below w.heap.size w W → Calls Tryz.prog 24 #[.agg #[.int .i64 s.kind, vf, .string s.out, .bool s.sorted]] W fun e w' => e = .returned (.bool true) ∧ Below W.heap.size W w') :=
    Lib.hid fun W hb => hr1 ▸ stepRight_any s vf W (h.hsrc.later hb) h.hout
  have HF : Hid (∀ W, Below w.heap.size w W → Calls Tryz.prog 51 #[vl] W fun e w' => e = .returned (.bool true) ∧ Below W.heap.size W w') :=
    Lib.hid fun W hb => hr2 ▸ rightFiles_any files vl W (h.hfil.later hb)
  have HFd : Hid (∀ W x, Below w.heap.size w W → Calls Tryz.prog 21 #[vl, .string x] W fun e w' => e = .returned (findV files x) ∧ Below W.heap.size W w') :=
    Lib.hid fun W x hb => find_any files vl x W (h.hfil.later hb)
  have HIn := Lib.hid h
  obtain ⟨kind, src, out, sorted⟩ := s
  have hu0 := h.hu0
  have hu1 := h.hu1
  clear h
  simp only at e1
  subst e1 e2 e3 e4 e5
  unfold doArgs
  simp only at HR HF ⊢
  have hm0 := DoBoxes.made w kind (.slice a1 src.length c1) out sorted (.slice a3 n3 c3) (.slice a4 n4 c4) (.slice a5 n5 c5) u0 u1
  have HB0 := Lib.hid hm0; clear hm0 hr1 hr2
  simp only at HT
  go_enter Tryz.func17, Tryz.ntmps17
  go_wp2_with fail
  refine (HR.out _ HB0.out.below).mono ?_
  rintro e w1 ⟨rfl, hb1⟩
  have HB1 := Lib.hid (HB0.out.later hb1); clear HB0 hb1
  go_wp2_with fail
  refine (HF.out _ HB1.out.below).mono ?_
  rintro e w2 ⟨rfl, hb2⟩
  have HB2 := Lib.hid (HB1.out.later hb2); clear HB1 hb2
  obtain ⟨s0, s1, s2, s3, y0, y1, y2, x0, x1, r0, r1, f0, f1⟩ := HB2.out.cells
  go_wp2_with fail
  refine (HFd.out _ _ HB2.out.below).mono ?_
  rw [HT.out]
  rintro e w3 ⟨rfl, hb3⟩
  have HB3 := Lib.hid (HB2.out.later hb3); clear HB2 hb3 s0 s1 s2 s3 y0 y1 y2 x0 x1 r0 r1 f0 f1
  obtain ⟨s0, s1, s2, s3, y0, y1, y2, x0, x1, r0, r1, f0, f1⟩ := HB3.out.cells
  go_wp2_with fail
  go_region
  go_wp2_with fail
  exact HB3.out.err rfl rfl rfl rfl rfl fun W' hW => ⟨rfl, hW⟩

set_option maxHeartbeats 1000000 in
set_option maxRecDepth 100000 in
theorem do_full (s : Stp) (files : List Fil) (clock order : List Int) (vf vl vc vo vn : Value) (u0 u1 : Int) (w : World) (h : DoIn s files clock order vf vl vc vo vn u0 u1 w)
    (hr1 : stepRight s = true) (hr2 : rightFiles files = true) (hmin : ¬ min u0 u1 < 0) (ht : findFile files s.out = none) (hfull : 60 ≤ files.length) :
    Calls Tryz.prog 17 (doArgs s vf vl vc vo vn u0 u1) w fun e w' => e = .returned (doErr u0 u1 6) ∧ Below w.heap.size w w' := by
  have HT := Lib.hid (show findV files s.out = .tuple #[.string ByteArray.empty, .bool false] by unfold findV; rw [ht]); clear ht
  obtain ⟨⟨a1, c1, e1⟩, ⟨a2, c2, e2⟩, ⟨a3, n3, c3, e3⟩, ⟨a4, n4, c4, e4⟩, ⟨a5, n5, c5, e5⟩⟩ := value_slices h
  have HR : Hid (∀ W, Below w.heap.size w W → Calls Tryz.prog 24 #[.agg #[.int .i64 s.kind, vf, .string s.out, .bool s.sorted]] W fun e w' => e = .returned (.bool true) ∧ Below W.heap.size W w') :=
    Lib.hid fun W hb => hr1 ▸ stepRight_any s vf W (h.hsrc.later hb) h.hout
  have HF : Hid (∀ W, Below w.heap.size w W → Calls Tryz.prog 51 #[vl] W fun e w' => e = .returned (.bool true) ∧ Below W.heap.size W w') :=
    Lib.hid fun W hb => hr2 ▸ rightFiles_any files vl W (h.hfil.later hb)
  have HFd : Hid (∀ W x, Below w.heap.size w W → Calls Tryz.prog 21 #[vl, .string x] W fun e w' => e = .returned (findV files x) ∧ Below W.heap.size W w') :=
    Lib.hid fun W x hb => find_any files vl x W (h.hfil.later hb)
  have HIn := Lib.hid h
  obtain ⟨kind, src, out, sorted⟩ := s
  have hu0 := h.hu0
  have hu1 := h.hu1
  clear h
  simp only at e1
  subst e1 e2 e3 e4 e5
  unfold doArgs
  simp only at HR HF ⊢
  have hm0 := DoBoxes.made w kind (.slice a1 src.length c1) out sorted (.slice a3 n3 c3) (.slice a4 n4 c4) (.slice a5 n5 c5) u0 u1
  have HB0 := Lib.hid hm0; clear hm0 hr1 hr2
  simp only at HT
  go_enter Tryz.func17, Tryz.ntmps17
  go_wp2_with fail
  refine (HR.out _ HB0.out.below).mono ?_
  rintro e w1 ⟨rfl, hb1⟩
  have HB1 := Lib.hid (HB0.out.later hb1); clear HB0 hb1
  go_wp2_with fail
  refine (HF.out _ HB1.out.below).mono ?_
  rintro e w2 ⟨rfl, hb2⟩
  have HB2 := Lib.hid (HB1.out.later hb2); clear HB1 hb2
  obtain ⟨s0, s1, s2, s3, y0, y1, y2, x0, x1, r0, r1, f0, f1⟩ := HB2.out.cells
  go_wp2_with fail
  refine (HFd.out _ _ HB2.out.below).mono ?_
  rw [HT.out]
  rintro e w3 ⟨rfl, hb3⟩
  have HB3 := Lib.hid (HB2.out.later hb3); clear HB2 hb3 s0 s1 s2 s3 y0 y1 y2 x0 x1 r0 r1 f0 f1
  obtain ⟨s0, s1, s2, s3, y0, y1, y2, x0, x1, r0, r1, f0, f1⟩ := HB3.out.cells
  go_wp2_with fail
  go_region
  go_wp2_with fail
  exact HB3.out.err rfl rfl rfl rfl rfl fun W' hW => ⟨rfl, hW⟩
end Go.Proofs.YtacgopankhpnbaaGreatDoor
/- Walks of package step: Do, the loop and what follows. -/
namespace Go.Proofs.YtacgopankhpnbaaGreatDoor
open Go.RowKit

/-- What is known in Do's loop: k files have been seen. -/
structure DoLoop (w W0 wr : World) (bx k : Nat) (files : List Fil) (kind : Int) (src : List ByteArray) (vf : Value) (out : ByteArray) (sorted : Bool) (vc vo vn vs : Value) (u0 u1 : Int) (saw : List ByteArray) : Prop where
  boxes : DoBoxes w wr kind vf out sorted vc vo vn u0 u1
  sbx : Sbx wr bx vs vc vo vn u0 u1
  own : wr.ownsRow (bx + 1) 9 1 vs saw.length (saw.map Value.string)
  only : Only bx W0 wr
  found : (src.take k).map (findFile files) = saw.map some

theorem found_snoc {files : List Fil} {src saw : List ByteArray} {k : Nat} {x t : ByteArray} (hx : src[k]? = some x) (ht : findFile files x = some t) (h : (src.take k).map (findFile files) = saw.map some) :
    (src.take (k + 1)).map (findFile files) = (saw ++ [t]).map some := by
  rw [List.take_add_one, hx]; simp [h, ht]
theorem sawOf_some {files : List Fil} : ∀ {src saw : List ByteArray}, src.map (findFile files) = saw.map some → sawOf files src = some saw
  | [], [], _ => rfl
  | [], _ :: _, h => by simp at h
  | _ :: _, [], h => by simp at h
  | x :: r, t :: l, h => by
    simp at h
    rw [sawOf, h.1, sawOf_some h.2]
theorem sawOf_none {files : List Fil} {x : ByteArray} : ∀ {src : List ByteArray}, x ∈ src → findFile files x = none → sawOf files src = none
  | y :: r, h, hn => by
    rw [sawOf]
    rcases List.mem_cons.1 h with rfl | h
    · rw [hn]
    · rw [sawOf_none h hn]; cases findFile files y <;> rfl
theorem findFile_mem {files : List Fil} {x t : ByteArray} (h : findFile files x = some t) : ∃ f, f ∈ files ∧ f.text = t := by
  unfold findFile at h
  rw [Option.map_eq_some_iff] at h
  obtain ⟨f, hf, rfl⟩ := h
  exact ⟨f, List.mem_of_find?_eq_some hf, rfl⟩
theorem rightFrom_text : ∀ {l : List Fil} {known : List ByteArray}, rightFrom l known = true → ∀ f, f ∈ l → f.text.size ≤ 65536
  | [], _, _, _, h => by cases h
  | g :: r, known, h, f, hf => by
    rw [rightFrom] at h
    split at h
    · cases h
    · rename_i hh
      rcases List.mem_cons.1 hf with rfl | hf
      · simp at hh; exact hh.2
      · exact rightFrom_text h f hf
theorem rightFiles_text {l : List Fil} (h : rightFiles l = true) : ∀ f, f ∈ l → f.text.size ≤ 65536 := by
  simp [rightFiles] at h; exact rightFrom_text h.1

theorem cell_set {w : World} {b b' o o' : Nat} {v x : Value} (hne : b ≠ b') (h : w.cell? ⟨b, o, none⟩ = some x) : (w.setCell ⟨b', o', none⟩ v).cell? ⟨b, o, none⟩ = some x :=
  (World.cell?_of_block (w := w) (Below.heap_setCell _ _ _ _ hne)).trans h
/-- Two blocks' numbers differ. -/
def Apart (a b : Nat) : Prop := a ≠ b
theorem Apart.of {a b : Nat} (h : a ≠ b) : Apart a b := h
theorem cell_set2 {w : World} {b b' o o' o'' : Nat} {v v' x : Value} (hne : Apart b b') (h : w.cell? ⟨b, o, none⟩ = some x) : ((w.setCell ⟨b', o', none⟩ v).setCell ⟨b', o'', none⟩ v').cell? ⟨b, o, none⟩ = some x := cell_set hne (cell_set hne h)
theorem cell_set2a {w : World} {b o o' o'' : Nat} {v v' x : Value} (h : w.cell? ⟨b, o, none⟩ = some x) : ((w.setCell ⟨b + 1 + 1 + 1, o', none⟩ v).setCell ⟨b + 1 + 1 + 1, o'', none⟩ v').cell? ⟨b, o, none⟩ = some x := cell_set2 (Apart.of (by omega)) h
theorem cell_set2b {w : World} {b b' o o' o'' : Nat} {v v' x : Value} (hlt : b' < b) (h : w.cell? ⟨b, o, none⟩ = some x) : ((w.setCell ⟨b', o', none⟩ v).setCell ⟨b', o'', none⟩ v').cell? ⟨b, o, none⟩ = some x := cell_set2 (Apart.of (by omega)) h
theorem res_cells' {w : World} {b : Nat} {u v x y : Value} (h0 : w.cell? ⟨b, 0, none⟩ = some x) (h1 : w.cell? ⟨b, 1, none⟩ = some y) :
    ((w.setCell ⟨b, 0, none⟩ u).setCell ⟨b, 1, none⟩ v).cell? ⟨b, 0, none⟩ = some u ∧ ((w.setCell ⟨b, 0, none⟩ u).setCell ⟨b, 1, none⟩ v).cell? ⟨b, 1, none⟩ = some v := res_cells h0 h1
theorem block_grown {w4 w5 w6 : World} {e : TypeId} {size n : Nat} {v : Value} {xs : List Value} {o : Obj} (hb : Below w4.heap.size w4 w5) (hO : w5.ownsRow w4.heap.size e size v n xs) (hg : (w5.alloc o).grownBy w6 v.ownBlock) {j : Nat} (hj : j < w4.heap.size) : w6.heap[j]? = w4.heap[j]? := by
  have h5 := hb.size
  rw [hg.block j (by simp; omega) (fun e => by have := (hO.lt j e.symm).1; omega), Below.heap_alloc _ _ _ (by omega)]
  exact hb.block j hj
theorem cell_grown {w4 w5 w6 : World} {e : TypeId} {size n : Nat} {v : Value} {xs : List Value} {o : Obj} (hb : Below w4.heap.size w4 w5) (hO : w5.ownsRow w4.heap.size e size v n xs) (hg : (w5.alloc o).grownBy w6 v.ownBlock) {b j : Nat} {x : Value} (h : w4.cell? ⟨b, j, none⟩ = some x) : w6.cell? ⟨b, j, none⟩ = some x :=
  (World.cell?_of_block (w := w4) (block_grown hb hO hg (cell_lt h))).trans h
theorem frozen_grown {w4 w5 w6 : World} {e : TypeId} {size n : Nat} {v : Value} {xs : List Value} {o : Obj} (hb : Below w4.heap.size w4 w5) (hO : w5.ownsRow w4.heap.size e size v n xs) (hg : (w5.alloc o).grownBy w6 v.ownBlock) {b j : Nat} {x : Value} (h : w4.cell? ⟨b, j, none⟩ = some x) (hf : w4.frozen? ⟨b, j, none⟩ = false) : w6.frozen? ⟨b, j, none⟩ = false :=
  (World.frozen?_of_block (w := w4) (block_grown hb hO hg (cell_lt h))).trans hf
theorem below_grown {w4 w5 w6 : World} {e : TypeId} {size n : Nat} {v : Value} {xs : List Value} {o : Obj} (hb : Below w4.heap.size w4 w5) (hO : w5.ownsRow w4.heap.size e size v n xs) (hg : (w5.alloc o).grownBy w6 v.ownBlock) : Below w4.heap.size w4 w6 :=
  ⟨hg.os.trans hb.os, hg.tape.trans hb.tape, hg.output.trans hb.output, by have h1 := hb.size; have h2 := hg.size; simp at h2; omega, fun _ hj => block_grown hb hO hg hj⟩
theorem below_grown' {w4 w5 w6 : World} {e : TypeId} {size n : Nat} {v : Value} {xs : List Value} (hb : Below w4.heap.size w4 w5) (hO : w5.ownsRow (w4.heap.size + 1) e size v n xs) (hg : w5.grownBy w6 v.ownBlock) : Below w4.heap.size w4 w6 :=
  ⟨hg.os.trans hb.os, hg.tape.trans hb.tape, hg.output.trans hb.output, Nat.le_trans hb.size hg.size, fun j hj => by
    have h5 := hb.size
    rw [hg.block j (by omega) (fun e => by have := (hO.lt j e.symm).1; omega)]
    exact hb.block j hj⟩
theorem cloned_late {w4 w5 : World} {o : Obj} {e : TypeId} {size n : Nat} {v : Value} {xs : List Value} (hown : w5.ownsRow (w4.alloc o).drew.heap.size e size v n xs) (hb : Below (w4.alloc o).drew.heap.size (w4.alloc o).drew w5) :
    Below w4.heap.size w4 w5 ∧ w5.heap[w4.heap.size]? = some o ∧ w5.ownsRow (w4.heap.size + 1) e size v n xs := by
  have hz : (w4.alloc o).drew.heap.size = w4.heap.size + 1 := by show (w4.alloc o).heap.size = _; simp
  rw [hz] at hown hb
  exact ⟨(below_alloc w4 o).drew.trans (hb.mono (by omega)), (hb.block _ (by omega)).trans (alloc_self w4 o), hown⟩
theorem frozen_later {w w' : World} (hb : Below w.heap.size w w') {b o : Nat} {v : Value} (h : w.cell? ⟨b, o, none⟩ = some v) (hf : w.frozen? ⟨b, o, none⟩ = false) : w'.frozen? ⟨b, o, none⟩ = false :=
  (hb.frozen (p := ⟨b, o, none⟩) (cell_lt h)).trans hf
theorem ownsRow_base {w : World} {base base' : Nat} {e : TypeId} {size : Nat} {v : Value} {n : Nat} {xs : List Value} (h : w.ownsRow base e size v n xs) (hb : base' ≤ base) : w.ownsRow base' e size v n xs := by
  obtain ⟨h1, h2⟩ := h
  refine ⟨h1, ?_⟩
  rcases h2 with h2 | ⟨g, cap, cur, hv, hg, r⟩
  · exact .inl h2
  · exact .inr ⟨g, cap, cur, hv, Nat.le_trans hb hg, r⟩
theorem fils_of_owns {w : World} {base : Nat} {e : TypeId} {v : Value} {l : List Fil} (h : w.ownsRow base e 2 v l.length (filCells l)) (hz : ∀ f, f ∈ l → f.name.size ≤ 140737488355328 ∧ f.text.size ≤ 140737488355328) : Fils w v l := by
  rcases h.2 with ⟨rfl, h0⟩ | ⟨g, cap, cur, rfl, hg, hgb, r1, r2, r3, r4⟩
  · have := List.eq_nil_of_length_eq_zero h0
    subst this
    exact ⟨none, 0, rfl, by simp, by simp, fun h => absurd rfl h⟩
  · refine ⟨_, cap, rfl, r1, r2, fun _ => ⟨g, 0, rfl, fun i f hf => ⟨[.string f.name, .string f.text], ⟨rfl, hz f (List.mem_of_getElem? hf)⟩, rfl, fun j u hu => ?_⟩⟩⟩
    have hi : i < l.length := (List.getElem?_eq_some_iff.1 hf).1
    obtain ⟨c1, c2⟩ := filCells_at l i f hf
    rw [← r4, List.getElem?_take, if_pos (by omega)] at c1
    rw [← r4, List.getElem?_take, if_pos (by omega)] at c2
    match j, hu with
    | 0, hu => cases hu; simp only [World.cell?, hgb]; simpa using c1
    | 1, hu => cases hu; simp only [World.cell?, hgb]; simpa using c2
theorem fils_size {w : World} {v : Value} {l : List Fil} (h : Fils w v l) {f : Fil} (hf : f ∈ l) : f.name.size ≤ 140737488355328 ∧ f.text.size ≤ 140737488355328 := by
  rcases h.cases with ⟨rfl, -⟩ | ⟨b, o, c, -, -, -, -, -, hc⟩
  · cases hf
  · obtain ⟨i, hi⟩ := List.getElem?_of_mem hf
    exact (hc i f hi).2.2
theorem filCells_snoc (l : List Fil) (f : Fil) : filCells l ++ [.string f.name, .string f.text] = filCells (l ++ [f]) := by simp [filCells]
theorem strs_only {b : Nat} {w w' : World} {v : Value} {l : List ByteArray} (h : Strs w v l) (ho : Only b w w') (hb : ∀ a n c, v = .slice (some a) n c → l ≠ [] → a.block ≠ b) : Strs w' v l := by
  obtain ⟨a, c, hv, h1, h2, h3⟩ := h
  refine ⟨a, c, hv, h1, h2, fun hne => ?_⟩
  obtain ⟨b', o', ha, hc⟩ := h3 hne
  refine ⟨b', o', ha, fun i x' hx => ?_⟩
  obtain ⟨cs, e, hl, hj⟩ := hc i x' hx
  exact ⟨cs, e, hl, fun j u hu => ho.cell (hb ⟨b', o', none⟩ l.length c (by rw [hv, ha]) hne) (hj j u hu)⟩
theorem ints_off {w : World} {v : Value} {l : List Int} (h : Ints w v l) {b : Nat} (hb : w.heap.size ≤ b) : ∀ a n c, v = .slice (some a) n c → l ≠ [] → a.block ≠ b := by
  intro a n c e hne
  rcases h.cases with ⟨h0, -⟩ | ⟨bl, o, c', he, -, -, -, hlt, -⟩
  · exact absurd h0 hne
  · rw [e] at he; cases he; simp; omega
theorem saw_text {files : List Fil} {src saw : List ByteArray} {k : Nat} (h : (src.take k).map (findFile files) = saw.map some) (ht : ∀ f, f ∈ files → f.text.size ≤ 65536) : ∀ x, x ∈ saw → x.size ≤ 65536 := by
  intro x hx
  have : some x ∈ saw.map some := List.mem_map_of_mem hx
  rw [← h] at this
  obtain ⟨y, -, hy⟩ := List.mem_map.1 this
  obtain ⟨f, hf, rfl⟩ := findFile_mem hy
  exact ht f hf

/-- A slice whose block was made behind w. -/
def FarFrom (w : World) (v : Value) : Prop := ∀ a n c, v = .slice (some a) n c → w.heap.size ≤ a.block
set_option maxHeartbeats 2000000 in
set_option maxRecDepth 100000 in
theorem do_main (s : Stp) (files : List Fil) (clock order : List Int) (vf vl vc vo vn : Value) (u0 u1 : Int) (w : World) (h : DoIn s files clock order vf vl vc vo vn u0 u1 w)
    (hr1 : stepRight s = true) (hr2 : rightFiles files = true) (hmin : ¬ min u0 u1 < 0) (ht : findFile files s.out = none) (hfull : ¬ 60 ≤ files.length) (R : Ending → World → Prop)
    (hnone : sawOf files s.src = none → ∀ W', Below w.heap.size w W' → R (.returned (doErr u0 u1 4)) W')
    (WP : List ByteArray → ByteArray → Int → List ByteArray → Int → Int → Prop)
    (hwrite : ∀ saw, sawOf files s.src = some saw → ∀ bx vs W, WriteIn s saw clock order bx vs vc vo vn vf u0 u1 W → Calls Tryz.prog 52 #[.pointer (some ⟨bx, 0, none⟩), .agg #[.int .i64 s.kind, vf, .string s.out, .bool s.sorted]] W fun e w' =>
      ∃ vs' text err saw' a b, e = .returned (.tuple #[.string text, .int .i64 err]) ∧ Sbx w' bx vs' vc vo vn a b ∧ StrsOff bx w' vs' saw' ∧ Only bx W w' ∧ WP saw text err saw' a b)
    (hend : ∀ saw, sawOf files s.src = some saw → ∀ text err saw' a b, WP saw text err saw' a b → text.size ≤ 140737488355328 ∧ (err ≠ 0 → ∀ W', Below w.heap.size w W' → R (.returned (doErr u0 u1 err)) W') ∧
      (err = 0 → 65536 < text.size → ∀ W', Below w.heap.size w W' → R (.returned (doErr u0 u1 6)) W') ∧
      (err = 0 → ¬ 65536 < text.size → ∀ W' vfl vsaw, Below w.heap.size w W' → Fils W' vfl (doFiles s files text) → Strs W' vsaw saw' → FarFrom w vfl → (saw' ≠ [] → FarFrom w vsaw) → R (.returned (.tuple #[vfl, vsaw, .agg #[.int .i64 a, .int .i64 b], .int .i64 0])) W')) :
    Calls Tryz.prog 17 (doArgs s vf vl vc vo vn u0 u1) w R := by
  have HT := Lib.hid (show findV files s.out = .tuple #[.string ByteArray.empty, .bool false] by unfold findV; rw [ht]); clear ht
  have HRT := Lib.hid (rightFiles_text hr2)
  have HR1 := Lib.hid hr1
  have HNo := Lib.hid hnone; clear hnone
  have HWr := Lib.hid hwrite; clear hwrite
  have HEn := Lib.hid hend; clear hend
  obtain ⟨i0, hi, hz0, hz1, hz2⟩ := info_parts strInfo
  have hminb : decide (min u0 u1 < 0) = false := decide_eq_false hmin
  obtain ⟨⟨a1, c1, e1⟩, ⟨a2, c2, e2⟩, ⟨a3, n3, c3, e3⟩, ⟨a4, n4, c4, e4⟩, ⟨a5, n5, c5, e5⟩⟩ := value_slices h
  have HR : Hid (∀ W, Below w.heap.size w W → Calls Tryz.prog 24 #[.agg #[.int .i64 s.kind, vf, .string s.out, .bool s.sorted]] W fun e w' => e = .returned (.bool true) ∧ Below W.heap.size W w') :=
    Lib.hid fun W hb => hr1 ▸ stepRight_any s vf W (h.hsrc.later hb) h.hout
  have HF : Hid (∀ W, Below w.heap.size w W → Calls Tryz.prog 51 #[vl] W fun e w' => e = .returned (.bool true) ∧ Below W.heap.size W w') :=
    Lib.hid fun W hb => hr2 ▸ rightFiles_any files vl W (h.hfil.later hb)
  have HFd : Hid (∀ W x, Below w.heap.size w W → Calls Tryz.prog 21 #[vl, .string x] W fun e w' => e = .returned (findV files x) ∧ Below W.heap.size W w') :=
    Lib.hid fun W x hb => find_any files vl x W (h.hfil.later hb)
  have HIn := Lib.hid h
  obtain ⟨kind, src, out, sorted⟩ := s
  have hu0 := h.hu0
  have hu1 := h.hu1
  clear h
  simp only at e1
  subst e1 e2 e3 e4 e5
  unfold doArgs
  simp only at HR HF ⊢
  have hm0 := DoBoxes.made w kind (.slice a1 src.length c1) out sorted (.slice a3 n3 c3) (.slice a4 n4 c4) (.slice a5 n5 c5) u0 u1
  have HB0 := Lib.hid hm0; clear hm0 hr1 hr2
  simp only at HT HNo HWr HEn
  go_enter Tryz.func17, Tryz.ntmps17
  go_wp2_with fail
  refine (HR.out _ HB0.out.below).mono ?_
  rintro e w1 ⟨rfl, hb1⟩
  have HB1 := Lib.hid (HB0.out.later hb1); clear HB0 hb1
  go_wp2_with fail
  refine (HF.out _ HB1.out.below).mono ?_
  rintro e w2 ⟨rfl, hb2⟩
  have HB2 := Lib.hid (HB1.out.later hb2); clear HB1 hb2
  obtain ⟨s0, s1, s2, s3, y0, y1, y2, x0, x1, r0, r1, f0, f1⟩ := HB2.out.cells
  go_wp2_with fail
  refine (HFd.out _ _ HB2.out.below).mono ?_
  rw [HT.out]
  rintro e w3 ⟨rfl, hb3⟩
  have HB3 := Lib.hid (HB2.out.later hb3); clear HB2 hb3 s0 s1 s2 s3 y0 y1 y2 x0 x1 r0 r1 f0 f1
  obtain ⟨s0, s1, s2, s3, y0, y1, y2, x0, x1, r0, r1, f0, f1⟩ := HB3.out.cells
  have hsl := (stepRight_parts HR1.out).2.2.1
  simp only at hsl
  have g0 := heap_lt HB3.out.bs
  have g1 := heap_lt HB3.out.bw
  have g2 := heap_lt HB3.out.bu
  have g3 := heap_lt HB3.out.br
  have hfullb : decide (60 ≤ (files.length : Int)) = false := decide_eq_false (by omega)
  go_wp2_with fail
  have hW0 : DoLoop w (w3.alloc (.cells #[.slice none 0 0, .slice a3 n3 c3, .slice a4 n4 c4, .slice a5 n5 c5, .int .i64 u0, .int .i64 u1] 87)) (w3.alloc (.cells #[.slice none 0 0, .slice a3 n3 c3, .slice a4 n4 c4, .slice a5 n5 c5, .int .i64 u0, .int .i64 u1] 87)) w3.heap.size 0 files kind src (.slice a1 src.length c1) out sorted (.slice a3 n3 c3) (.slice a4 n4 c4) (.slice a5 n5 c5) (.slice none 0 0) u0 u1 [] :=
    ⟨HB3.out.later (below_alloc _ _), alloc_self _ _, World.ownsRow_nil _ _ _ _, Only.refl _ _, rfl⟩
  have hbx : w.heap.size + 1 + 1 + 1 < w3.heap.size := g3
  have hW0s : (w3.alloc (.cells #[.slice none 0 0, .slice a3 n3 c3, .slice a4 n4 c4, .slice a5 n5 c5, .int .i64 u0, .int .i64 u1] 87)).heap.size = w3.heap.size + 1 := by simp
  clear s0 s1 s2 s3 y0 y1 y2 x0 x1 r0 r1 f0 f1 g0 g1 g2 g3 HB3 HR HF HT
  generalize w3.alloc (.cells #[.slice none 0 0, .slice a3 n3 c3, .slice a4 n4 c4, .slice a5 n5 c5, .int .i64 u0, .int .i64 u1] 87) = W0 at hW0 hW0s ⊢
  generalize w3.heap.size = bx at hW0 hW0s hbx ⊢
  have HW0 := Lib.hid hW0; clear hW0
  have HWs := Lib.hid hW0s; clear hW0s
  go_loopw [58] (fun i wr => ∃ (k : Nat) (vs : Value) (saw : List ByteArray), k ≤ src.length ∧ i = .int .i64 k ∧ DoLoop w W0 wr bx k files kind src (.slice a1 src.length c1) out sorted (.slice a3 n3 c3) (.slice a4 n4 c4) (.slice a5 n5 c5) vs u0 u1 saw) (fun i _ => src.length - (intOf i).toNat)
  case atStart => exact ⟨0, _, [], Nat.zero_le _, rfl, HW0.out⟩
  case round =>
    clear HW0
    obtain ⟨k, vs, saw, hk, rfl, hL⟩ := hrel
    have HL := Lib.hid hL
    obtain ⟨hB, hS, hO, hOn, hFo⟩ := hL
    have HO := Lib.hid hO; have HFo := Lib.hid hFo
    obtain ⟨s0, s1, s2, s3, y0, y1, y2, x0, x1, r0, r1, f0, f1⟩ := hB.cells
    have c0 := hS.cell 0
    have q0 := hS.frozen 0
    simp only [List.getElem?_toArray, List.getElem?_cons_zero] at c0
    have HBw := Lib.hid hB.below
    have hlw := hB.below.size
    have hbl := hS.lt
    have HB := Lib.hid hB; have HS := Lib.hid hS
    clear hB hS hO hFo
    by_cases hlt : k < src.length
    · rcases HIn.out.hsrc.cases with ⟨h0, -⟩ | ⟨bl, ol, cl, he, -, -, -, -, hcs⟩
      · simp only at h0; rw [h0] at hlt; simp at hlt
      · simp only at he hcs
        injection he with he1 he2 he3
        subst he1 he3
        obtain ⟨x, hx, hxm⟩ := getElem?_of_lt hlt
        have hcell := cell_later HBw.out (hcs k x hx).1
        have HX := Lib.hid hx
        clear hcs hx he2
        cases hf : findFile files x with
        | none =>
          have HFv := Lib.hid (show findV files x = .tuple #[.string ByteArray.empty, .bool false] by unfold findV; rw [hf])
          have HFN := Lib.hid (sawOf_none hxm hf)
          clear hf hxm
          go_wp2_with fail
          refine (HFd.out _ _ HBw.out).mono ?_
          rw [HFv.out]
          rintro e w4 ⟨rfl, hb4⟩
          clear s0 s1 s2 s3 y0 y1 y2 x0 x1 r0 r1 f0 f1 c0 q0
          have HB4 := Lib.hid (HB.out.later hb4)
          obtain ⟨s0, s1, s2, s3, y0, y1, y2, x0, x1, r0, r1, f0, f1⟩ := HB4.out.cells
          go_wp2_with fail
          go_region
          go_wp2_with fail
          exact HB4.out.err rfl rfl rfl rfl rfl (HNo.out HFN.out)
        | some t =>
          have HFv := Lib.hid (show findV files x = .tuple #[.string t, .bool true] by unfold findV; rw [hf])
          have HFs := Lib.hid (found_snoc HX.out hf HFo.out)
          clear hf hxm
          go_wp2_with fail
          refine (HFd.out _ _ HBw.out).mono ?_
          rw [HFv.out]
          rintro e w4 ⟨rfl, hb4⟩
          have hbl4 := hb4.size
          have HS4 := Lib.hid (HS.out.later hb4)
          have HO4 := Lib.hid (HO.out.kept (row := none) ⟨hb4.os, hb4.tape, hb4.output, hb4.size, fun k hk _ => hb4.block k hk⟩ (Classical.em _))
          have HB4 := Lib.hid (HB.out.later hb4)
          have HOn4 := Lib.hid (hOn.trans (Only.of_below hb4))
          have hsawl : saw.length = k := by have := congrArg List.length HFo.out; simp at this; omega
          have hsl2 : saw.length ≤ 60 := by omega
          clear hsawl s0 s1 s2 s3 y0 y1 y2 x0 x1 r0 r1 f0 f1 c0 q0 hb4 hcell HS HO HB hOn
          have kk4 := HS4.out.cell 0
          have q4 := HS4.out.frozen 0
          simp only [List.getElem?_toArray, List.getElem?_cons_zero] at kk4
          have hbl4' : bx < w4.heap.size := HS4.out.lt
          go_wp2_with (at_builtin; refine wpList_append_own _ rfl _ _ 22 rfl (bx + 1) 9 i0 (.string ByteArray.empty) 1 16 Tryz.underlying22 hi hz0 hz1 hz2 rfl (by decide) _ _ _ rfl (HO4.out.alloc _) ⟨w4.heap.size, 0, none⟩ 1 1 [.string t] rfl rfl (cell_one_new _ _ _) (by simp [Value.oneCell']) (by unfold maxLen; omega) (by omega) (by simp; omega) ?_)
          intro v' w5 hown5 hgrow _
          have hz5 : w4.heap.size + 1 ≤ w5.heap.size := by have := hgrow.size; simpa using this
          have hrow : ∀ j, vs.ownBlock = some j → bx + 1 ≤ j := fun j e => (HO4.out.lt j e).1
          have hblk : ∀ j, j < w4.heap.size → j ≤ bx → w5.heap[j]? = w4.heap[j]? := fun j hj hjb => by
            rw [hgrow.block j (by simp; omega) (fun e => by have := hrow j e.symm; omega), Below.heap_alloc _ _ _ hj]
          have HS5 := Lib.hid (HS4.out.of_block (hblk bx hbl4' (Nat.le_refl _)))
          have kk5 := HS5.out.cell 0
          have q5 := HS5.out.frozen 0
          simp only [List.getElem?_toArray, List.getElem?_cons_zero] at kk5
          obtain ⟨g', cap', rfl⟩ := ownsRow_succ hown5
          have HO5 := Lib.hid hown5
          have hg5 := (hown5.lt g' rfl).1
          have HG5 := Lib.hid hgrow
          have HBk := Lib.hid hblk
          clear hown5 hgrow hblk hrow
          go_wp2_with fail
          go_roundw
          case rel =>
            refine ⟨k + 1, .slice (some ⟨g', 0, none⟩) (saw.length + 1) cap', saw ++ [t], by omega, by go_num, ?_⟩
            have hbz := heap_lt HB4.out.br
            have hOn5 : Only bx W0 (w5.setCell ⟨bx, 0, none⟩ (.slice (some ⟨g', 0, none⟩) (saw.length + 1) cap')) := by
              refine Only.trans ?_ (Only.setCell w5)
              have hw := HWs.out
              have h1 := HOn4.out
              refine ⟨HG5.out.os.trans h1.os, HG5.out.tape.trans h1.tape, HG5.out.output.trans h1.output, by have := h1.size; omega, fun j hj hne => ?_⟩
              rw [HBk.out j (by have := h1.size; omega) (by omega)]
              exact h1.block j hj hne
            refine ⟨⟨?_, ?_, ?_, ?_, ?_⟩, HS5.out.saw0 _, ?_, hOn5, HFs.out⟩
            · rw [Below.heap_setCell _ _ _ _ (by simp; omega), HBk.out _ (by omega) (by omega)]; exact HB4.out.bs
            · rw [Below.heap_setCell _ _ _ _ (by simp; omega), HBk.out _ (by omega) (by omega)]; exact HB4.out.bw
            · rw [Below.heap_setCell _ _ _ _ (by simp; omega), HBk.out _ (by omega) (by omega)]; exact HB4.out.bu
            · rw [Below.heap_setCell _ _ _ _ (by simp; omega), HBk.out _ (by omega) (by omega)]; exact HB4.out.br
            · have hb := HB4.out.below
              refine (Below.setCell ⟨HG5.out.os.trans hb.os, HG5.out.tape.trans hb.tape, HG5.out.output.trans hb.output, by have := hb.size; omega, fun j hj => ?_⟩ (by simp; omega) _)
              rw [HBk.out j (by omega) (by omega)]
              exact hb.block j hj
            · have := ownsRow_setCell_below HO5.out (a := ⟨bx, 0, none⟩) (by simp) (.slice (some ⟨g', 0, none⟩) (saw.length + 1) cap')
              simpa using this
          case measure => simp [intOf]; omega
    · have hkk : k = src.length := by omega
      have HFa := Lib.hid (sawOf_some (src := src) (saw := saw) (by have := HFo.out; rwa [List.take_of_length_le (by omega)] at this))
      have hsawl : saw.length = src.length := by have := congrArg List.length HFo.out; simp at this; omega
      have hbxw : ∀ {v : Value} {j : Nat}, j < w.heap.size → j ≠ bx := fun h e => by omega
      have hWI : WriteIn ⟨kind, src, out, sorted⟩ saw clock order bx vs (.slice a3 n3 c3) (.slice a4 n4 c4) (.slice a5 n5 c5) (.slice a1 src.length c1) u0 u1 wr := by
        have hD := HIn.out
        have hx := HRT.out
        refine ⟨hD.hglob.later HBw.out, by have := hD.hglob.big; omega, HS.out, ⟨strs_of_owns HO.out (fun x hx' => ?_), fun a n c e _ => ?_⟩, ⟨hD.hclk.later HBw.out, ints_off hD.hclk (by omega)⟩, ⟨hD.hord.later HBw.out, ints_off hD.hord (by omega)⟩, hD.hsrc.later HBw.out, HR1.out, fun x hx' => ?_, hsawl, ⟨by omega, hu0.2⟩, ⟨by omega, hu1.2⟩, hD.hcwf, hD.howf⟩
        · have := saw_text HFo.out hx x hx'; omega
        · have := owns_block HO.out (Nat.le_refl _) a n c e; omega
        · exact saw_text HFo.out hx x hx'
      have HWc := Lib.hid (HWr.out saw HFa.out bx vs wr hWI)
      have HEe := Lib.hid (HEn.out saw HFa.out)
      clear hWI hsawl HWr HEn HNo HFd hkk hbxw
      go_wp2_with fail
      refine HWc.out.mono ?_
      rintro e w4 ⟨vs', text, err, saw', ua, ub, rfl, hS4, hT4, hO4, hP⟩
      obtain ⟨ht47, he1, he2, he3⟩ := HEe.out text err saw' ua ub hP
      have HE1 := Lib.hid he1; have HE2 := Lib.hid he2; have HE3 := Lib.hid he3
      have HB4 := Lib.hid (HB.out.only hO4 hbx)
      have HS4 := Lib.hid hS4; have HT4 := Lib.hid hT4
      clear s0 s1 s2 s3 y0 y1 y2 x0 x1 r0 r1 f0 f1 c0 q0 he1 he2 he3 hS4 hT4 hO4 hP HEe HWc HB HS
      obtain ⟨s0, s1, s2, s3, y0, y1, y2, x0, x1, r0, r1, f0, f1⟩ := HB4.out.cells
      by_cases herr : err = 0
      · subst herr
        by_cases hbig : 65536 < text.size
        · go_wp2_with fail
          go_region
          go_wp2_with fail
          exact HB4.out.err rfl rfl rfl rfl rfl (HE2.out trivial hbig)
        · obtain ⟨m0, hmi, hm0, hm1, hm2⟩ := info_parts filInfo
          have v0 : w4.cell? ⟨bx, 0, none⟩ = some vs' := HS4.out.cell 0
          have v4 : w4.cell? ⟨bx, 4, none⟩ = some (.int .i64 ua) := HS4.out.cell 4
          have v5 : w4.cell? ⟨bx, 5, none⟩ = some (.int .i64 ub) := HS4.out.cell 5
          have hb4w := HB4.out.below
          have HFl := Lib.hid (HIn.out.hfil.later hb4w)
          have HFA : Hid (Fils (w4.alloc (.cells #[.string out, .string text] 40)).drew (.slice a2 files.length c2) files) := Lib.hid (HFl.out.later (below_alloc w4 _).drew)
          have hbx4 : bx < w4.heap.size := HS4.out.lt
          have HCl : Hid (∀ W, Fils W (.slice a2 files.length c2) files → Calls Tryz.prog 53 #[.slice a2 files.length c2] W fun e w' => ∃ v', e = .returned v' ∧ w'.ownsRow W.heap.size 40 2 v' files.length (filCells files) ∧ Below W.heap.size W w') := Lib.hid fun W hW => clone_any files _ W hW (by omega)
          have hfl : files.length ≤ 60 := by omega
          obtain ⟨va, vnn, vcc, hvs'⟩ : ∃ a n c, vs' = .slice a n c := by obtain ⟨a, c, e, -⟩ := HT4.out.1; exact ⟨a, _, c, e⟩
          subst hvs'
          clear HE1 HE2 s0 s1 s3 y0 y1 y2 x0 x1 hb4w
          go_wp2_with fail
          go_region_held3 (fun W => W.cell? ⟨w.heap.size, 2, none⟩ = some (.string out) ∧ W.cell? ⟨bx, 0, none⟩ = some (.slice va vnn vcc) ∧ W.cell? ⟨bx, 4, none⟩ = some (.int .i64 ua) ∧ W.cell? ⟨bx, 5, none⟩ = some (.int .i64 ub))
            (first | exact ⟨l0, l1, l2, l3⟩ | exact ⟨cell_later (below_alloc _ _) j0, cell_later (below_alloc _ _) j1, cell_later (below_alloc _ _) j2, cell_later (below_alloc _ _) j3⟩ | exact ⟨j0, j1, j2, j3⟩ | exact ⟨s2, v0, v4, v5⟩ | (refine ⟨cell_set2a ?_, cell_set2b hbx ?_, cell_set2b hbx ?_, cell_set2b hbx ?_⟩ <;> assumption) | go_keep)
            (first | (go_at_call 53; refine (HCl.out _ (by exact HFl.out)).mono ?_; rintro e w5 ⟨vcl, rfl, hown5, hb5⟩; have hbd : Below w4.heap.size w4 w5 := (Below.refl _ w4).drew.trans hb5; have j0 := cell_later hbd s2; have j1 := cell_later hbd v0; have j2 := cell_later hbd v4; have j3 := cell_later hbd v5; have HO5 := Lib.hid hown5; have HBd := Lib.hid hbd; clear hown5 hb5 hbd) | (have _g := HO5; show (if _ then _ else _); go_must (refine step_append_lies (w5.alloc (.cells #[.string out, .string text] 40)) ?y1 (.tmp 100) (.tmp 105) 25 ?y2 w4.heap.size 40 m0 (.agg #[.string ByteArray.empty, .string ByteArray.empty]) 2 32 Tryz.underlying25 hmi hm0 hm1 hm2 ?y8 ?y6 vcl files.length (filCells files) ?y3 ?z1 ⟨w5.heap.size, 0, none⟩ 1 1 [.string out, .string text] ?y4 ?y5 ?z2 ?z3 ?y7 ?z4 ?z5 ?z6 (w5.heap.size + 1) ?z7 ?z8); go_must (case y1 => rfl); go_must (case y2 => rfl); go_must (case y8 => rfl); go_must (case y3 => rfl); go_must (case y4 => rfl); go_must (case y5 => rfl); go_must (case y6 => omega); go_must (case y7 => omega); go_must (case z1 => exact HO5.out.alloc _); go_must (case z2 => exact World.news_of_block (cs := #[.string out, .string text]) (t := 40) (fr := (0, 0)) (heap_alloc_new w5 _)); go_must (case z3 => simp [Value.oneCell']); go_must (case z4 => (unfold maxLen; omega)); go_must (case z5 => omega); go_must (case z6 => (have := HBd.out.size; simp; omega)); go_must (case z7 => simp); go_must (intro gg cap w6 hown6 hgrow hat hlt6); go_must (have l0 := cell_grown HBd.out HO5.out hgrow s2); go_must (have l1 := cell_grown HBd.out HO5.out hgrow v0); go_must (have l2 := cell_grown HBd.out HO5.out hgrow v4); go_must (have l3 := cell_grown HBd.out HO5.out hgrow v5); go_must (have l4 := cell_grown HBd.out HO5.out hgrow r0); go_must (have l5 := cell_grown HBd.out HO5.out hgrow r1); go_must (have l6 := frozen_grown HBd.out HO5.out hgrow r0 f0); go_must (have l7 := frozen_grown HBd.out HO5.out hgrow r1 f1); have HO6 := Lib.hid hown6; have HB46 := Lib.hid (below_grown HBd.out HO5.out hgrow); clear hown6 hgrow hat) | (go_at_call 53; show Calls _ _ _ (World.drew (World.alloc w4 (.cells #[.string out, .string text] 40))) _; go_must (refine (HCl.out _ (HFA.out)).mono ?_); go_must (rintro e w5 ⟨vcl, rfl, hown5, hb5⟩); go_must (obtain ⟨hbd, HNB', HO5b'⟩ := cloned_late hown5 hb5); go_must (have j0 := cell_later hbd s2); go_must (have j1 := cell_later hbd v0); go_must (have j2 := cell_later hbd v4); go_must (have j3 := cell_later hbd v5); have HNB := Lib.hid HNB'; have HO5b := Lib.hid HO5b'; have HBd := Lib.hid hbd; clear hown5 hb5 hbd HNB' HO5b') | (have _g := HO5b; show (if _ then _ else _); go_must (refine step_append_lies w5 ?x1 (.tmp 100) (.tmp 105) 25 ?x2 (w4.heap.size + 1) 40 m0 (.agg #[.string ByteArray.empty, .string ByteArray.empty]) 2 32 Tryz.underlying25 hmi hm0 hm1 hm2 ?x8 ?x6 vcl files.length (filCells files) ?x3 ?x9 ⟨w4.heap.size, 0, none⟩ 1 1 [.string out, .string text] ?x4 ?x5 ?t2 ?t3 ?x7 ?t4 ?t5 ?t6 w5.heap.size ?t7 ?t8); go_must (case x1 => rfl); go_must (case x2 => rfl); go_must (case x8 => rfl); go_must (case x3 => rfl); go_must (case x4 => rfl); go_must (case x5 => rfl); go_must (case x6 => omega); go_must (case x7 => omega); go_must (case x9 => exact HO5b.out); go_must (case t2 => exact World.news_of_block (cs := #[.string out, .string text]) (t := 40) (fr := (0, 0)) HNB.out); go_must (case t3 => simp [Value.oneCell']); go_must (case t4 => (unfold maxLen; omega)); go_must (case t5 => omega); go_must (case t6 => (have := heap_lt HNB.out; omega)); go_must (case t7 => rfl); go_must (intro gg cap w6 hown6 hgrow hat hlt6); go_must (have hb46 := below_grown' HBd.out HO5b.out hgrow); go_must (have l0 := cell_later hb46 s2); go_must (have l1 := cell_later hb46 v0); go_must (have l2 := cell_later hb46 v4); go_must (have l3 := cell_later hb46 v5); go_must (have l4 := cell_later hb46 r0); go_must (have l5 := cell_later hb46 r1); go_must (have l6 := frozen_later hb46 r0 f0); go_must (have l7 := frozen_later hb46 r1 f1); have HO6 := Lib.hid (ownsRow_base hown6 (Nat.le_succ _)); have HB46 := Lib.hid hb46; clear hown6 hgrow hat hb46))
          all_goals
            go_wp2_with fail
            have hr := res_cells' (w := w6) (b := w.heap.size + 1 + 1 + 1) (u := .int .i64 ua) (v := .int .i64 ub) l4 l5
            refine bodyPost_ret (v := .tuple #[.slice (some ⟨gg, 0, none⟩) (files.length + 1) cap, .slice va vnn vcc, .agg #[.int .i64 ua, .int .i64 ub], .int .i64 0]) (by simp [results, Tryz.results17, go_sem, hr.1, hr.2]) rfl ?_
            have hb46 := HB46.out
            have hg6 := (HO6.out.lt gg rfl).1
            have hbz := heap_lt HB4.out.br
            have hset : Below w4.heap.size w4 w6 := hb46
            have hbw4 := HB4.out.below.size
            have hbxw := hbx
            refine HE3.out trivial (by omega) _ _ _ ?_ ?_ ?_ (fun a n c e => by cases e; exact Nat.le_trans hbw4 hg6) (fun hne a n c e => by have := HT4.out.2 a n c e hne; omega)
            · exact ((HB4.out.below.trans (hb46.mono (by have := HB4.out.below.size; omega))).setCell (by simp; omega) _).setCell (by simp; omega) _
            · have hown := ownsRow_setCell_below (ownsRow_setCell_below HO6.out (a := ⟨w.heap.size + 1 + 1 + 1, 0, none⟩) (by simp; omega) (.int .i64 ua)) (a := ⟨w.heap.size + 1 + 1 + 1, 1, none⟩) (by simp; omega) (.int .i64 ub)
              rw [filCells_snoc files ⟨out, text⟩] at hown
              refine fils_of_owns (l := doFiles ⟨kind, src, out, sorted⟩ files text) (by simpa [doFiles] using hown) (fun f hf => ?_)
              simp only [doFiles, List.mem_append, List.mem_singleton] at hf
              rcases hf with hf | rfl
              · exact fils_size HFl.out hf
              · exact ⟨HIn.out.hout, ht47⟩
            · have h4 := HT4.out.1.later hset
              exact strs_only h4 ((Only.setCell _).trans (Only.setCell _)) (fun a n c e hne => by have := HT4.out.2 a n c e hne; omega)
      · have hb0 : (err == 0) = false := beq_eq_false_iff_ne.2 herr
        have hb1 : (err != 0) = true := by rw [bne_iff_ne]; exact herr
        have HEr := Lib.hid herr
        clear herr
        go_wp2_with fail
        go_region
        go_wp2_with fail
        exact HB4.out.err rfl rfl rfl rfl rfl (HE1.out HEr.out)
end Go.Proofs.YtacgopankhpnbaaGreatDoor
/- step.Do in one contract, every kind but StCompile. -/
namespace Go.Proofs.YtacgopankhpnbaaGreatDoor
open Go.RowKit

/-- What Do comes to. -/
def DoPost (w : World) (s : Stp) (files : List Fil) (u0 u1 : Int) (r : DoRes) (e : Ending) (w' : World) : Prop :=
  Below w.heap.size w w' ∧ match r with
    | .error c => e = .returned (doErr u0 u1 c)
    | .ok (text, saw, a, b) => ∃ vfl vsaw, e = .returned (.tuple #[vfl, vsaw, .agg #[.int .i64 a, .int .i64 b], .int .i64 0]) ∧ Fils w' vfl (doFiles s files text) ∧ Strs w' vsaw saw

/-- The same, and where the new lists lie. -/
def DoFar (w : World) (s : Stp) (files : List Fil) (u0 u1 : Int) (r : DoRes) (e : Ending) (w' : World) : Prop :=
  Below w.heap.size w w' ∧ match r with
    | .error c => e = .returned (doErr u0 u1 c)
    | .ok (text, saw, a, b) => ∃ vfl vsaw, e = .returned (.tuple #[vfl, vsaw, .agg #[.int .i64 a, .int .i64 b], .int .i64 0]) ∧ Fils w' vfl (doFiles s files text) ∧ Strs w' vsaw saw ∧ FarFrom w vfl ∧ (saw ≠ [] → FarFrom w vsaw)

theorem sawOf_texts {files : List Fil} (ht : ∀ f, f ∈ files → f.text.size ≤ 65536) : ∀ {src saw : List ByteArray}, sawOf files src = some saw → (∀ x, x ∈ saw → x.size ≤ 65536) ∧ saw.length = src.length
  | [], saw, h => by cases h; simp
  | y :: r, saw, h => by
    rw [sawOf] at h
    split at h
    · rename_i t l hf hr
      cases h
      obtain ⟨h1, h2⟩ := sawOf_texts ht hr
      refine ⟨fun x hx => ?_, by simp [h2]⟩
      rcases List.mem_cons.1 hx with rfl | hx
      · obtain ⟨f, hfm, rfl⟩ := findFile_mem hf
        exact ht f hfm
      · exact h1 x hx
    · cases h

theorem size_toArray (l : List UInt8) : (⟨l.toArray⟩ : ByteArray).size = l.length := by show l.toArray.size = _; simp

theorem writeStep_size {s : Stp} {saw : List ByteArray} {clock order : List Int} {u0 u1 : Int} (hr : stepRight s = true) (ht : ∀ x, x ∈ saw → x.size ≤ 65536) (hl : saw.length = s.src.length) (hc : ∀ x, x ∈ clock → (Lit.int .i64 x).wf = true) :
    (writeStep s saw clock order u0 u1).1.size ≤ 140737488355328 := by
  obtain ⟨hn, hout, hlen, hk⟩ := stepRight_parts hr
  have hsz : ∀ x, x ∈ s.src → x.size ≤ 20 := fun x hx => isName_size (hn x hx)
  have hhead : (saw.headD ByteArray.empty).size ≤ 65536 := by
    cases saw with
    | nil => decide
    | cons x l => exact ht x (by simp)
  unfold writeStep
  split
  · have := join_length saw 65536 ht
    show (⟨(Lib.join _ []).toArray⟩ : ByteArray).size ≤ _
    rw [size_toArray]; refine Nat.le_trans this ?_
    have : saw.length * 65536 ≤ 60 * 65536 := Nat.mul_le_mul (by omega) (Nat.le_refl _)
    omega
  · split
    · show (⟨(rowsL _).toArray⟩ : ByteArray).size ≤ _
      rw [size_toArray]; exact sortedLines_rows _ hhead
    · split
      · show ((_ ++ _) ++ _ : ByteArray).size ≤ _
        have hwx : (Lit.int .i64 (clock.getD u0.toNat 0)).wf = true := by
          rw [List.getD_eq_getElem?_getD]
          cases hh : clock[u0.toNat]? with
          | none => rfl
          | some y => exact hc y (List.mem_of_getElem? hh)
        obtain ⟨b0, b1⟩ := i64_bounds hwx
        have := wireInt_size _ b0 b1
        rw [ByteArray.size_append, ByteArray.size_append]
        have h1 : (⟨#[10]⟩ : ByteArray).size = 1 := rfl
        omega
      · split
        · show (⟨(rowsL _).toArray⟩ : ByteArray).size ≤ _
          rw [size_toArray]
          have := rowsL_length (sortB s.src) 20 (fun x hx => hsz x (mem_sortB hx))
          rw [sortB_length] at this
          omega
        · show (⟨(rowsL _).toArray⟩ : ByteArray).size ≤ _
          rw [size_toArray]
          have h1 := rowsL_length (pickAll order s.src.length u1.toNat (sortB s.src)) 20 (fun x hx => hsz x (mem_sortB (pickAll_mem hx)))
          have h2 := pickAll_length order s.src.length u1.toNat (sortB s.src)
          have h3 : (pickAll order s.src.length u1.toNat (sortB s.src)).length * (20 + 1) ≤ 60 * 21 := Nat.mul_le_mul (by omega) (by omega)
          omega

theorem do_far (C : ByteArray → Int × ByteArray) (s : Stp) (files : List Fil) (clock order : List Int) (vf vl vc vo vn : Value) (u0 u1 : Int) (w : World) (h : DoIn s files clock order vf vl vc vo vn u0 u1 w) (h5 : s.kind ≠ 5) :
    Calls Tryz.prog 17 (doArgs s vf vl vc vo vn u0 u1) w (DoFar w s files u0 u1 (doStep C s files clock order u0 u1)) := by
  by_cases hbad : stepRight s = false ∨ rightFiles files = false ∨ min u0 u1 < 0
  · have e : doStep C s files clock order u0 u1 = .error 1 := by
      unfold doStep
      rw [if_pos]
      rcases hbad with h | h | h <;> simp [h]
    rw [e]
    refine (do_arg s files clock order vf vl vc vo vn u0 u1 w h hbad).mono ?_
    rintro e w' ⟨rfl, hb⟩
    exact ⟨hb, rfl⟩
  · have hr1 : stepRight s = true := by cases hh : stepRight s with | true => rfl | false => exact absurd (.inl hh) hbad
    have hr2 : rightFiles files = true := by cases hh : rightFiles files with | true => rfl | false => exact absurd (.inr (.inl hh)) hbad
    have hmin : ¬ min u0 u1 < 0 := fun hh => hbad (.inr (.inr hh))
    have e0 : doStep C s files clock order u0 u1 = if (findFile files s.out).isSome then .error 5 else if 60 ≤ files.length then .error 6
        else match sawOf files s.src with | none => .error 4 | some saw => if 65536 < (writeStep s saw clock order u0 u1).1.size then .error 6 else .ok (writeStep s saw clock order u0 u1) := by
      unfold doStep
      rw [if_neg (by simp [hr1, hr2, decide_eq_false hmin])]
      split
      · rfl
      · split
        · rfl
        · cases sawOf files s.src with
          | none => rfl
          | some saw => simp only
    rw [e0]
    cases hf : findFile files s.out with
    | some t =>
      simp only [Option.isSome_some, if_true]
      refine (do_twice s files clock order vf vl vc vo vn u0 u1 w h hr1 hr2 hmin t hf).mono ?_
      rintro e w' ⟨rfl, hb⟩
      exact ⟨hb, rfl⟩
    | none =>
      simp only [Option.isSome_none, Bool.false_eq_true, if_false]
      by_cases hfull : 60 ≤ files.length
      · rw [if_pos hfull]
        refine (do_full s files clock order vf vl vc vo vn u0 u1 w h hr1 hr2 hmin hf hfull).mono ?_
        rintro e w' ⟨rfl, hb⟩
        exact ⟨hb, rfl⟩
      · rw [if_neg hfull]
        refine do_main s files clock order vf vl vc vo vn u0 u1 w h hr1 hr2 hmin hf hfull _ (fun hs W' hW => ?_)
          (fun saw text err saw' a b => err = 0 ∧ (text, saw', a, b) = writeStep s saw clock order u0 u1) (fun saw hs bx vs W hWI => ?_) (fun saw hs text err saw' a b hP => ?_)
        · rw [hs]; exact ⟨hW, rfl⟩
        · refine (write_any s saw clock order bx vs vc vo vn vf u0 u1 W hWI h5).mono ?_
          rintro e w' ⟨vs', rfl, h1, h2, h3⟩
          exact ⟨vs', _, 0, _, _, _, rfl, h1, h2, h3, rfl, rfl⟩
        · obtain ⟨rfl, hw⟩ := hP
          obtain ⟨ht, hl⟩ := sawOf_texts (rightFiles_text hr2) hs
          have hsz := writeStep_size (order := order) (u0 := u0) (u1 := u1) hr1 ht hl h.hcwf
          rw [hs]
          simp only
          rw [← hw] at hsz ⊢
          refine ⟨hsz, fun h => absurd rfl h, fun _ hbig W' hW => ?_, fun _ hbig W' vfl vsaw hW h1 h2 h3 h4 => ?_⟩
          · rw [if_pos hbig]; exact ⟨hW, rfl⟩
          · rw [if_neg hbig]; exact ⟨hW, vfl, vsaw, rfl, h1, h2, h3, h4⟩
theorem do_any (C : ByteArray → Int × ByteArray) (s : Stp) (files : List Fil) (clock order : List Int) (vf vl vc vo vn : Value) (u0 u1 : Int) (w : World) (h : DoIn s files clock order vf vl vc vo vn u0 u1 w) (h5 : s.kind ≠ 5) :
    Calls Tryz.prog 17 (doArgs s vf vl vc vo vn u0 u1) w (DoPost w s files u0 u1 (doStep C s files clock order u0 u1)) := by
  refine (do_far C s files clock order vf vl vc vo vn u0 u1 w h h5).mono ?_
  rintro e w' ⟨hb, h1⟩
  refine ⟨hb, ?_⟩
  cases hr : doStep C s files clock order u0 u1 with
  | error c => rw [hr] at h1; exact h1
  | ok q =>
    obtain ⟨text, saw, a, b⟩ := q
    rw [hr] at h1
    obtain ⟨vfl, vsaw, h2, h3, h4, -⟩ := h1
    exact ⟨vfl, vsaw, h2, h3, h4⟩
end Go.Proofs.YtacgopankhpnbaaGreatDoor
/- Walks of package build: inspect, where the recipe's parts are valid. -/
namespace Go.Proofs.YtacgopankhpnbaaGreatDoor
open Go.RowKit

theorem inspectE_twice {r : Rcp} (h1 : (!rightFiles r.inputs || decide (60 < r.steps.length) || r.steps.any (fun s => !stepRight s)) = false) (h2 : twice r = true) : inspectE r = 5 := by
  unfold inspectE; rw [if_neg (by simp [h1]), if_pos h2]
theorem inspectE_full {r : Rcp} (h1 : (!rightFiles r.inputs || decide (60 < r.steps.length) || r.steps.any (fun s => !stepRight s)) = false) (h2 : twice r = false) (h3 : 60 < r.inputs.length + r.steps.length) : inspectE r = 6 := by
  unfold inspectE; rw [if_neg (by simp [h1]), if_neg (by simp [h2]), if_pos h3]
theorem inspectE_none {r : Rcp} (h1 : (!rightFiles r.inputs || decide (60 < r.steps.length) || r.steps.any (fun s => !stepRight s)) = false) (h2 : twice r = false) (h3 : ¬ 60 < r.inputs.length + r.steps.length)
    (h4 : (!known r r.output || r.steps.any (fun s => s.src.any fun x => !known r x)) = true) : inspectE r = 4 := by
  unfold inspectE; rw [if_neg (by simp [h1]), if_neg (by simp [h2]), if_neg h3, if_pos h4]
theorem inspectE_last {r : Rcp} (h1 : (!rightFiles r.inputs || decide (60 < r.steps.length) || r.steps.any (fun s => !stepRight s)) = false) (h2 : twice r = false) (h3 : ¬ 60 < r.inputs.length + r.steps.length)
    (h4 : (!known r r.output || r.steps.any (fun s => s.src.any fun x => !known r x)) = false) : inspectE r = if circle r.steps then 15 else 0 := by
  unfold inspectE; rw [if_neg (by simp [h1]), if_neg (by simp [h2]), if_neg h3, if_neg (by simp [h4])]

set_option maxRecDepth 100000 in
set_option maxHeartbeats 8000000 in
theorem inspect_good (r : Rcp) (L : List (Value × Stp)) (vi vs : Value) (w : World) (hin : Fils w vi r.inputs) (hst : Stps w vs L) (hL : L.map (·.2) = r.steps) (hout : r.output.size ≤ 140737488355328)
    (h1 : rightFiles r.inputs = true) (h2 : L.length ≤ 60) (h3 : (L.any fun y => !stepRight y.2) = false) :
    Calls Tryz.prog 63 #[rcpV vi vs r.output] w (InspPost vi vs r.output r w) := by
  have H1 : Hid ((!rightFiles r.inputs || decide (60 < r.steps.length) || r.steps.any (fun s => !stepRight s)) = false) := Lib.hid (by
    rw [h1, ← hL, List.any_map, List.length_map]
    have : (L.any ((fun s => !stepRight s) ∘ fun x => x.snd)) = false := h3
    rw [this]; simp; omega)
  have HI60 : r.inputs.length ≤ 60 := by
    unfold rightFiles at h1
    simp only [Bool.and_eq_true, decide_eq_true_eq] at h1
    exact h1.2
  obtain ⟨ai, ci, hvi, -⟩ := id hin
  obtain ⟨av, cv, hvs⟩ := stps_slice hst
  subst hvi hvs
  have HW := Lib.hid (InspW.first (.slice ai r.inputs.length ci) (.slice av L.length cv) r.output w)
  have HF := Lib.hid (rightFiles_any r.inputs _ _ (hin.later HW.out.below))
  rw [h1] at HF
  have HC : Hid (∀ W, Below w.heap.size w W → Calls Tryz.prog 90 #[.slice av L.length cv, .func (.func 91) #[] #[]] W fun e w' => e = .returned (.bool false) ∧ Below W.heap.size W w') :=
    Lib.hid fun W hb => by
      have := containsFunc_stp 91 #[] (fun y => !stepRight y.2) L (.slice av L.length cv) W (hst.later hb) enters_inspect1 (fun y hy W' hb' => inspect1_any y W' ((hst.src hy).1.later (below_trans hb hb')) (hst.src hy).2)
      rw [h3] at this
      exact this
  have hmm := @run_makeMap Tryz.prog
  have HIn := Lib.hid hin
  have HSt := Lib.hid hst
  have HL := Lib.hid hL
  have H3 := Lib.hid h3
  have hlen : r.steps.length = L.length := by rw [← hL]; simp
  have HLen := Lib.hid hlen
  clear hin hst hL h1 h3 hlen
  go_enter Tryz.func63, Tryz.ntmps63
  go_wp2_with fail
  refine HF.out.mono ?_
  rintro e w2 ⟨rfl, hb⟩
  replace HW := Lib.hid (HW.out.later hb)
  obtain ⟨r0, r1, r2⟩ := HW.out.rcells
  clear hmm hb HF
  go_wp2_with fail
  refine (HC.out _ HW.out.below).mono ?_
  rintro e w3 ⟨rfl, hb⟩
  replace HW := Lib.hid (HW.out.later hb)
  clear r0 r1 r2 hb HC
  obtain ⟨r0, r1, r2⟩ := HW.out.rcells
  go_wp2_with fail
  clear r0 r1 r2
  go_loopw [33] (fun i wr => ∃ k : Nat, k ≤ r.inputs.length ∧ i = .int .i64 k ∧ Hid (InspW (.slice ai r.inputs.length ci) (.slice av L.length cv) r.output w 0 k (fun _ => none) (iMap (r.inputs.take k)) wr)) (fun i _ => r.inputs.length - (intOf i).toNat)
  case atStart => exact ⟨0, Nat.zero_le _, rfl, HW⟩
  case round =>
    clear HW
    obtain ⟨k, hk, rfl, HW⟩ := hrel
    rename World => wr
    by_cases hlt : k < r.inputs.length
    · obtain ⟨f, hf, -⟩ := getElem?_of_lt hlt
      rcases HIn.out.cases with ⟨e, -⟩ | ⟨b, o, c, e, -, -, -, -, hc⟩
      · rw [e] at hlt; simp at hlt
      · obtain rfl : ai = some ⟨b, o, none⟩ := by injection e
        obtain ⟨c1, c2, s1, -⟩ := hc k f hf
        replace c1 := cell_later HW.out.below c1
        replace c2 := cell_later HW.out.below c2
        obtain ⟨-, -, -, -, g4⟩ := (HW.out.later (below_alloc wr (.cells #[.string f.name, .string f.text] 40))).gcells
        have hbz := HW.out.below.size
        have hmi := HW.out.mi.lt
        obtain ⟨w4, hrun, hm4, hg4⟩ := (HW.out.mi.alloc (.cells #[.string f.name, .string f.text] 40)).store Tryz.underlying99 (by unfold maxLen; omega) (x := f.name) (Nat.le_trans s1 maxLen_val) (y := true) trivial
        have hrun' : (Instr.mapUpdate 99 (.map (some (w.heap.size + 1 + 1 + 1))) (.string f.name) (.bool true)).run Tryz.prog (wr.alloc (.cells #[.string f.name, .string f.text] 40)) = .ok () w4 := hrun
        have HNew := Lib.hid ((HW.out.later (below_alloc wr (.cells #[.string f.name, .string f.text] 40))).setI hg4 (hm4.ext (fun z => @iMap_snoc _ _ _ hf z (Classical.propDecidable _))))
        clear hrun hm4 hg4 hc e hf s1 hmi
        go_wp2_with fail
        go_roundw
        case rel => exact ⟨k + 1, by omega, by go_num, HNew⟩
        case measure => simp [intOf]; omega
    · obtain rfl : k = r.inputs.length := by omega
      rw [List.take_length] at HW
      obtain ⟨r0, r1, r2⟩ := HW.out.rcells
      go_wp2_with fail
      clear r0 r1 r2
      go_loopw [45] (fun i wr => ∃ k : Nat, k ≤ L.length ∧ i = .int .i64 k ∧ Hid (InspW (.slice ai r.inputs.length ci) (.slice av L.length cv) r.output w k r.inputs.length (wMap (r.steps.take k)) (iMap r.inputs) wr) ∧ Hid (twice r = twiceFrom r k (L.length - k))) (fun i _ => L.length - (intOf i).toNat)
      case atStart => exact ⟨0, Nat.zero_le _, rfl, HW, Lib.hid (by unfold twice; rw [HLen.out]; rfl)⟩
      case round =>
        clear HW
        obtain ⟨k, hk, rfl, HW, HT⟩ := hrel
        rename World => wr
        by_cases hlt : k < L.length
        · obtain ⟨y, hy, hym⟩ := getElem?_of_lt hlt
          rcases HSt.out.cases with ⟨e, -⟩ | ⟨b, o, c, e, -, -, -, -, hc⟩
          · rw [e] at hlt; simp at hlt
          · obtain ⟨rfl, rfl⟩ : av = some ⟨b, o, none⟩ ∧ c = cv := by injection e with e1 e2 e3; exact ⟨e1, e3.symm⟩
            obtain ⟨c1, c2, c3, c4, hsr, ho⟩ := hc k y hy
            replace c1 := cell_later HW.out.below c1
            replace c2 := cell_later HW.out.below c2
            replace c3 := cell_later HW.out.below c3
            replace c4 := cell_later HW.out.below c4
            have hsk : r.steps[k]? = some y.2 := by rw [← HL.out, List.getElem?_map, hy]; rfl
            replace HT := Lib.hid (HT.out.trans (twiceFrom_at hlt hsk))
            have HKn := Lib.hid (known_any (.slice ai r.inputs.length ci) (.slice (some ⟨b, o, none⟩) L.length c) r.output y.2.out (w.heap.size + 1 + 1) (w.heap.size + 1 + 1 + 1) k r.inputs.length _ _ _ (HW.out.later (below_alloc wr (.cells #[.int .i64 y.2.kind, y.1, .string y.2.out, .bool y.2.sorted] 24))).mw (HW.out.later (below_alloc wr (.cells #[.int .i64 y.2.kind, y.1, .string y.2.out, .bool y.2.sorted] 24))).mi ho)
            rw [show ((wMap (r.steps.take k) y.2.out).isSome || (iMap r.inputs y.2.out).getD false) = knownTo r k y.2.out by rw [wMap_isSome, iMap_getD]; rfl] at HKn
            have HSk := Lib.hid hsk
            obtain ⟨v, kind, src, yo, sorted⟩ := y
            simp only at c1 c2 c3 c4 ho hsr HT HKn HSk
            obtain ⟨sa, cs, hvv⟩ := strs_slice hsr
            subst hvv
            have HO := Lib.hid ho
            replace HW := Lib.hid (HW.out.later (below_alloc wr (.cells #[.int .i64 kind, .slice sa src.length cs, .string yo, .bool sorted] 24)))
            obtain ⟨g0, g1, g2, g3, g4⟩ := HW.out.gcells
            have hbz := HW.out.below.size
            have hmi := HW.out.mi.lt
            clear hc e hy hym hsk hsr ho
            cases hkn : knownTo r k yo with
            | true =>
              rw [hkn] at HKn HT
              have HE := Lib.hid (inspectE_twice H1.out HT.out)
              go_wp2_with fail
              refine HKn.out.mono ?_
              rintro e w5 ⟨rfl, hb⟩
              replace HW := Lib.hid (HW.out.later hb)
              clear g0 g1 g2 g3 g4 hb hkn
              obtain ⟨g0, g1, g2, g3, g4⟩ := HW.out.gcells
              obtain ⟨⟨z0, z1, z2, z3, z4⟩, f0, f1, f2, f3, f4⟩ := HW.out.zcells
              go_wp2_with fail
              exact HW.out.ret rfl rfl rfl HE.out (fun h => absurd h (by decide))
            | false =>
              rw [hkn] at HKn HT
              have HWn := Lib.hid (show writerOf (r.steps.take k) yo = none by
                unfold knownTo at hkn
                rw [Bool.or_eq_false_iff] at hkn
                simpa using hkn.1)
              go_wp2_with fail
              refine HKn.out.mono ?_
              rintro e w5 ⟨rfl, hb⟩
              have hbx := heap_up hb (alloc_self wr (.cells #[.int .i64 kind, .slice sa src.length cs, .string yo, .bool sorted] 24))
              obtain ⟨-, -, x2, -⟩ := box4' hbx
              replace HW := Lib.hid (HW.out.later hb)
              clear g0 g1 g2 g3 g4 hb hkn hbx HKn
              obtain ⟨-, -, -, g3, -⟩ := HW.out.gcells
              obtain ⟨w6, hrun, hm6, hg6⟩ := HW.out.mw.store Tryz.underlying98 (by unfold maxLen; omega) (x := yo) (Nat.le_trans HO.out maxLen_val) (y := (k : Int)) (nat_wf (by omega))
              have hrun' : (Instr.mapUpdate 98 (.map (some (w.heap.size + 1 + 1))) (.string yo) (.int .i64 (k : Int))).run Tryz.prog w5 = .ok () w6 := hrun
              have HNew := Lib.hid (HW.out.setW hg6 (hm6.ext (fun z => @wMap_snoc _ _ _ HSk.out HWn.out z (Classical.propDecidable _))))
              clear hrun hm6 hg6
              go_wp2_with fail
              go_roundw
              case rel => exact ⟨k + 1, by omega, by go_num, HNew, Lib.hid HT.out⟩
              case measure => simp [intOf]; omega
        · obtain rfl : k = L.length := by omega
          replace HT := Lib.hid (show twice r = false by rw [HT.out, Nat.sub_self]; rfl)
          have hst : r.steps.take L.length = r.steps := by rw [← HLen.out, List.take_length]
          rw [hst] at HW
          clear hst
          obtain ⟨r0, r1, r2⟩ := HW.out.rcells
          by_cases h60 : 60 < r.inputs.length + L.length
          · have HE := Lib.hid (inspectE_full H1.out HT.out (by rw [HLen.out]; exact h60))
            obtain ⟨g0, g1, g2, g3, g4⟩ := HW.out.gcells
            obtain ⟨⟨z0, z1, z2, z3, z4⟩, f0, f1, f2, f3, f4⟩ := HW.out.zcells
            go_wp2_with fail
            exact HW.out.ret rfl rfl rfl HE.out (fun h => absurd h (by decide))
          · have H60 := Lib.hid (show ¬ 60 < r.inputs.length + r.steps.length by rw [HLen.out]; exact h60)
            have HFN := Lib.hid (below_alloc wr (.cells #[.func (.func 93) #[] #[.pointer (some ⟨w.heap.size + 1 + 1 + 1 + 1, 0, none⟩)]] 92))
            have HIp := Lib.hid (show Insp (.slice ai r.inputs.length ci) (.slice av L.length cv) r.output (w.heap.size + 1 + 1 + 1 + 1) wr.heap.size (w.heap.size + 1 + 1) (w.heap.size + 1 + 1 + 1) L.length r.inputs.length (wMap r.steps) (iMap r.inputs) _ from ⟨(HW.out.later HFN.out).bg, alloc_self wr _, (HW.out.later HFN.out).mw, (HW.out.later HFN.out).mi⟩)
            have hbz : w.heap.size + 1 + 1 + 1 + 1 < wr.heap.size := (Array.getElem?_eq_some_iff.1 HW.out.bg).1
            replace HW := Lib.hid (HW.out.later HFN.out)
            obtain ⟨s0, s1, s2⟩ := HW.out.rcells
            have HU := Lib.hid (inspect2_any (.slice ai r.inputs.length ci) (.slice av L.length cv) r.output r.output (w.heap.size + 1 + 1 + 1 + 1) (w.heap.size + 1 + 1) (w.heap.size + 1 + 1 + 1) L.length r.inputs.length (wMap r.steps) (iMap r.inputs) _ HIp.out.box HIp.out.wr HIp.out.inp hout)
            have hkr : ∀ x, ((wMap r.steps x).isSome || (iMap r.inputs x).getD false) = known r x := fun x => by rw [wMap_isSome, iMap_getD]; rfl
            rw [hkr] at HU
            have HKr := Lib.hid hkr
            clear hkr
            have eg := enters_inspect2
            cases hkn : known r r.output with
            | false =>
              rw [hkn] at HU
              have HE := Lib.hid (inspectE_none H1.out HT.out H60.out (by rw [hkn]; rfl))
              clear hkn
              go_wp2_with (go_at_fn 93; (with_reducible refine HU.out.mono ?_); rintro e w5 ⟨rfl, hb⟩; replace HW := Lib.hid (HW.out.later hb); obtain ⟨g0, g1, g2, g3, g4⟩ := HW.out.gcells; obtain ⟨⟨z0, z1, z2, z3, z4⟩, f0, f1, f2, f3, f4⟩ := HW.out.zcells; clear hb r0 r1 r2 s0 s1 s2)
              exact HW.out.ret rfl rfl rfl HE.out (fun h => absurd h (by decide))
            | true =>
              rw [hkn] at HU
              have HKn := Lib.hid hkn
              clear hkn
              have HC3 : Hid (∀ W, Below (wr.alloc (.cells #[.func (.func 93) #[] #[.pointer (some ⟨w.heap.size + 1 + 1 + 1 + 1, 0, none⟩)]] 92)).heap.size (wr.alloc (.cells #[.func (.func 93) #[] #[.pointer (some ⟨w.heap.size + 1 + 1 + 1 + 1, 0, none⟩)]] 92)) W → Below w.heap.size w W →
                  Calls Tryz.prog 90 #[.slice av L.length cv, .func (.func 94) #[] #[.pointer (some ⟨wr.heap.size, 0, none⟩)]] W fun e w' => e = .returned (.bool (r.steps.any fun s => s.src.any fun x => !known r x)) ∧ Below W.heap.size W w') :=
                Lib.hid fun W hb hbw => by
                  have hc := containsFunc_stp 94 #[.pointer (some ⟨wr.heap.size, 0, none⟩)] (fun y => y.2.src.any fun x => !((wMap r.steps x).isSome || (iMap r.inputs x).getD false)) L (.slice av L.length cv) W (HSt.out.later hbw) enters_inspect3
                    (fun y hy W' hb' => inspect3_any y _ _ _ _ _ _ _ _ _ _ _ W' ((HIp.out.later hb).later hb') ((HSt.out.src hy).1.later (below_trans hbw hb')))
                  have e : (L.any fun y => y.2.src.any fun x => !((wMap r.steps x).isSome || (iMap r.inputs x).getD false)) = r.steps.any fun s => s.src.any fun x => !known r x := by
                    rw [← HL.out, List.any_map]
                    congr 1
                    funext y
                    show _ = y.2.src.any _
                    congr 1
                    funext x
                    rw [HL.out, HKr.out]
                  rw [e] at hc
                  exact hc
              go_wp2_with (go_at_fn 93; (with_reducible refine HU.out.mono ?_); rintro e w5 ⟨rfl, hb⟩; replace HW := Lib.hid (HW.out.later hb); have HB5 := Lib.hid hb; clear hb r0 r1 r2 s0 s1 s2; obtain ⟨r0, r1, r2⟩ := HW.out.rcells)
              have HCall := Lib.hid (HC3.out w5 HB5.out HW.out.below)
              cases hun : (r.steps.any fun s => s.src.any fun x => !known r x) with
              | true =>
                rw [hun] at HCall
                have HE := Lib.hid (inspectE_none H1.out HT.out H60.out (by rw [hun, Bool.or_true]))
                clear hun
                refine HCall.out.mono ?_
                rintro e w6 ⟨rfl, hb⟩
                replace HW := Lib.hid (HW.out.later hb)
                clear hb r0 r1 r2
                obtain ⟨g0, g1, g2, g3, g4⟩ := HW.out.gcells
                obtain ⟨⟨z0, z1, z2, z3, z4⟩, f0, f1, f2, f3, f4⟩ := HW.out.zcells
                go_wp2_with fail
                exact HW.out.ret rfl rfl rfl HE.out (fun h => absurd h (by decide))
              | false =>
                rw [hun] at HCall
                have HE := Lib.hid (inspectE_last H1.out HT.out H60.out (by rw [hun, HKn.out]; rfl))
                clear hun
                refine HCall.out.mono ?_
                rintro e w6 ⟨rfl, hb⟩
                replace HW := Lib.hid (HW.out.later hb)
                clear hb r0 r1 r2
                obtain ⟨g0, g1, g2, g3, g4⟩ := HW.out.gcells
                have HCi := Lib.hid (circle_any L (.slice ai r.inputs.length ci) (.slice av L.length cv) r.output (w.heap.size + 1 + 1) (w.heap.size + 1 + 1 + 1) L.length w6 (HSt.out.later HW.out.below) (by rw [HL.out]; exact HW.out.mw) h2
                  (fun y hy => by
                    have h3 := H3.out
                    rw [List.any_eq_false] at h3
                    have := h3 y hy
                    have hr : stepRight y.2 = true := by simpa using this
                    have := (stepRight_parts hr).2.2.1
                    omega))
                rw [HL.out] at HCi
                cases hci : circle r.steps with
                | true =>
                  rw [hci] at HCi HE
                  clear hci
                  go_wp2_with fail
                  refine HCi.out.mono ?_
                  rintro e w7 ⟨rfl, hb⟩
                  replace HW := Lib.hid (HW.out.later hb)
                  clear hb g0 g1 g2 g3 g4
                  obtain ⟨g0, g1, g2, g3, g4⟩ := HW.out.gcells
                  obtain ⟨⟨z0, z1, z2, z3, z4⟩, f0, f1, f2, f3, f4⟩ := HW.out.zcells
                  go_wp2_with fail
                  exact HW.out.ret rfl rfl rfl HE.out (fun h => absurd h (by decide))
                | false =>
                  rw [hci] at HCi HE
                  clear hci
                  go_wp2_with fail
                  refine HCi.out.mono ?_
                  rintro e w7 ⟨rfl, hb⟩
                  replace HW := Lib.hid (HW.out.later hb)
                  clear hb g0 g1 g2 g3 g4
                  obtain ⟨g0, g1, g2, g3, g4⟩ := HW.out.gcells
                  obtain ⟨⟨z0, z1, z2, z3, z4⟩, f0, f1, f2, f3, f4⟩ := HW.out.zcells
                  go_wp2_with fail
                  exact HW.out.ret rfl rfl rfl HE.out (fun _ => ⟨rfl, rfl⟩)

theorem inspect_any (r : Rcp) (L : List (Value × Stp)) (vi vs : Value) (w : World) (hin : Fils w vi r.inputs) (hst : Stps w vs L) (hL : L.map (·.2) = r.steps) (hout : r.output.size ≤ 140737488355328) :
    Calls Tryz.prog 63 #[rcpV vi vs r.output] w (InspPost vi vs r.output r w) := by
  by_cases h : rightFiles r.inputs = false ∨ 60 < L.length ∨ (L.any fun y => !stepRight y.2) = true
  · exact inspect_arg r L vi vs w hin hst hL h
  · refine inspect_good r L vi vs w hin hst hL hout ?_ ?_ ?_
    · cases hh : rightFiles r.inputs with
      | true => rfl
      | false => exact absurd (.inl hh) h
    · have : ¬ 60 < L.length := fun hh => h (.inr (.inl hh))
      omega
    · cases hh : (L.any fun y => !stepRight y.2) with
      | false => rfl
      | true => exact absurd (.inr (.inr hh)) h
end Go.Proofs.YtacgopankhpnbaaGreatDoor
/- Walks of package build: Right; Order and Slice of a recipe that is refused; ready. -/
namespace Go.Proofs.YtacgopankhpnbaaGreatDoor
open Go.RowKit

/-- A recipe that is handed over. -/
structure RcpIn (r : Rcp) (L : List (Value × Stp)) (vi vs : Value) (w : World) : Prop where
  inp : Fils w vi r.inputs
  stp : Stps w vs L
  map : L.map (·.2) = r.steps
  out : r.output.size ≤ 140737488355328
section
variable {r : Rcp} {L : List (Value × Stp)} {vi vs : Value} {w w' : World}
theorem RcpIn.later (h : RcpIn r L vi vs w) (hb : Below w.heap.size w w') : RcpIn r L vi vs w' := ⟨h.inp.later hb, h.stp.later hb, h.map, h.out⟩
theorem RcpIn.onlyMap {b : Nat} (h : RcpIn r L vi vs w) (hm : IsMapAt w b) (ho : Only b w w') : RcpIn r L vi vs w' := ⟨h.inp.onlyMap hm ho, h.stp.onlyMap hm ho, h.map, h.out⟩
theorem RcpIn.slices (h : RcpIn r L vi vs w) : ∃ ai ci av cv, vi = .slice ai r.inputs.length ci ∧ vs = .slice av L.length cv := by
  obtain ⟨ai, ci, hvi, -⟩ := h.inp
  obtain ⟨av, cv, hvs⟩ := stps_slice h.stp
  exact ⟨ai, ci, av, cv, hvi, hvs⟩
theorem RcpIn.len (h : RcpIn r L vi vs w) : r.steps.length = L.length := by rw [← h.map]; simp
theorem RcpIn.inspect (h : RcpIn r L vi vs w) : Calls Tryz.prog 63 #[rcpV vi vs r.output] w (InspPost vi vs r.output r w) := inspect_any r L vi vs w h.inp h.stp h.map h.out
end

set_option maxRecDepth 100000 in
theorem right_any (r : Rcp) (L : List (Value × Stp)) (vi vs : Value) (w : World) (h : RcpIn r L vi vs w) :
    Calls Tryz.prog 35 #[rcpV vi vs r.output] w fun e w' => e = .returned (.int .i64 (inspectE r)) ∧ Below w.heap.size w w' := by
  have HI := Lib.hid (h.later (below_alloc w (rcpBox vi vs r.output))).inspect
  obtain ⟨ai, ci, av, cv, rfl, rfl⟩ := h.slices
  clear h
  go_enter Tryz.func35, Tryz.ntmps35
  go_wp2_with fail
  refine HI.out.mono ?_
  rintro e w2 ⟨rfl, hb, -⟩
  have HB := Lib.hid hb
  clear hb
  go_wp2_with fail
  go_ret
  exact ⟨rfl, below_trans (below_trans (below_alloc _ _) HB.out) (below_alloc _ _)⟩

set_option maxRecDepth 100000 in
theorem order_bad (r : Rcp) (L : List (Value × Stp)) (vi vs : Value) (w : World) (h : RcpIn r L vi vs w) (he : inspectE r ≠ 0) :
    Calls Tryz.prog 33 #[rcpV vi vs r.output] w fun e w' => e = .returned (.slice none 0 0) ∧ Below w.heap.size w w' := by
  have HI := Lib.hid (h.later (below_alloc w (rcpBox vi vs r.output))).inspect
  obtain ⟨ai, ci, av, cv, rfl, rfl⟩ := h.slices
  have h0 : (inspectE r == 0) = false := beq_eq_false_iff_ne.2 he
  have h1 : (inspectE r != 0) = true := by rw [bne_iff_ne]; exact he
  clear h he
  go_enter Tryz.func33, Tryz.ntmps33
  go_wp2_with fail
  refine HI.out.mono ?_
  rintro e w2 ⟨rfl, hb, -⟩
  generalize inspectE r = q at h0 h1
  have HB := Lib.hid hb
  clear hb
  go_wp2_with fail
  go_ret
  exact ⟨rfl, below_trans (below_trans (below_alloc _ _) HB.out) (below_alloc _ _)⟩

set_option maxRecDepth 100000 in
theorem slice_bad (r : Rcp) (L : List (Value × Stp)) (vi vs : Value) (w : World) (h : RcpIn r L vi vs w) (he : inspectE r ≠ 0) :
    Calls Tryz.prog 30 #[rcpV vi vs r.output] w fun e w' => e = .returned (.slice none 0 0) ∧ Below w.heap.size w w' := by
  have HI := Lib.hid (h.later (below_alloc w (rcpBox vi vs r.output))).inspect
  obtain ⟨ai, ci, av, cv, rfl, rfl⟩ := h.slices
  have h0 : (inspectE r == 0) = false := beq_eq_false_iff_ne.2 he
  have h1 : (inspectE r != 0) = true := by rw [bne_iff_ne]; exact he
  clear h he
  go_enter Tryz.func30, Tryz.ntmps30
  go_wp2_with fail
  refine HI.out.mono ?_
  rintro e w2 ⟨rfl, hb, -⟩
  generalize inspectE r = q at h0 h1
  have HB := Lib.hid hb
  clear hb
  go_wp2_with fail
  go_ret
  exact ⟨rfl, below_trans (below_trans (below_alloc _ _) HB.out) (below_alloc _ _)⟩

set_option maxRecDepth 100000 in
theorem pure_bad (r : Rcp) (L : List (Value × Stp)) (vi vs : Value) (w : World) (h : RcpIn r L vi vs w) (he : inspectE r ≠ 0) :
    Calls Tryz.prog 28 #[rcpV vi vs r.output] w fun e w' => e = .returned (.bool false) ∧ Below w.heap.size w w' := by
  have HI := Lib.hid (right_any r L vi vs _ (h.later (below_alloc w (rcpBox vi vs r.output))))
  obtain ⟨ai, ci, av, cv, rfl, rfl⟩ := h.slices
  have h0 : (inspectE r == 0) = false := beq_eq_false_iff_ne.2 he
  clear h he
  generalize inspectE r = q at h0 HI
  go_enter Tryz.func28, Tryz.ntmps28
  go_wp2_with fail
  refine HI.out.mono ?_
  rintro e w2 ⟨rfl, hb⟩
  have HB := Lib.hid hb
  clear hb
  go_wp2_with fail
  go_ret
  exact ⟨rfl, below_trans (below_alloc _ _) HB.out⟩
end Go.Proofs.YtacgopankhpnbaaGreatDoor
/- Walks of package build: ready. -/
namespace Go.Proofs.YtacgopankhpnbaaGreatDoor
open Go.RowKit

/-- What the graph's functions want: the recipe, the map of writers. -/
structure Grf (r : Rcp) (L : List (Value × Stp)) (vi vs : Value) (bw bi : Nat) (w : World) : Prop where
  rcp : RcpIn r L vi vs w
  wr : ∃ nw, MapIs kStr vInt w bw nw (wMap r.steps)
  few : L.length ≤ 60
  src : ∀ y, y ∈ L → y.2.src.length ≤ 1000000
section
variable {r : Rcp} {L : List (Value × Stp)} {vi vs : Value} {bw bi : Nat} {w w' : World}
theorem Grf.later (h : Grf r L vi vs bw bi w) (hb : Below w.heap.size w w') : Grf r L vi vs bw bi w' := by
  obtain ⟨nw, hw⟩ := h.wr
  exact ⟨h.rcp.later hb, ⟨nw, hw.later hb⟩, h.few, h.src⟩
theorem Grf.onlyMap {b : Nat} (h : Grf r L vi vs bw bi w) (hm : IsMapAt w b) (ho : Only b w w') (hne : bw ≠ b) : Grf r L vi vs bw bi w' := by
  obtain ⟨nw, hw⟩ := h.wr
  exact ⟨h.rcp.onlyMap hm ho, ⟨nw, hw.of_block (ho.block _ hw.lt hne)⟩, h.few, h.src⟩
theorem Grf.needs (h : Grf r L vi vs bw bi w) {i : Nat} (hi : i < L.length) : Calls Tryz.prog 67 #[grfV vi vs r.output bw bi, .int .i64 i] w (NeedsPost (needsAt r.steps i) w) := by
  obtain ⟨nw, hw⟩ := h.wr
  obtain ⟨y, hy, hym⟩ := getElem?_of_lt hi
  have e : needsAt r.steps i = needsOf r.steps y.2 := by rw [← h.rcp.map]; exact needsAt_of hy
  rw [e]
  exact needs_any r.steps vi vs r.output bw bi nw L i y w h.rcp.stp hy hw (h.src y hym)
end
/-- The map of what is done. -/
def DoneIs (w : World) (b : Nat) (done : Nat → Bool) : Prop := ∃ n m, MapIs kInt vBool w b n m ∧ n ≤ 1000 ∧ ∀ i : Nat, (m i).getD false = done i
theorem DoneIs.later {w w' : World} {b : Nat} {done : Nat → Bool} (h : DoneIs w b done) (hb : Below w.heap.size w w') : DoneIs w' b done := by
  obtain ⟨n, m, h1, h2, h3⟩ := h
  exact ⟨n, m, h1.later hb, h2, h3⟩
theorem DoneIs.look {w : World} {b : Nat} {done : Nat → Bool} (h : DoneIs w b done) {i : Nat} (hi : i < 9223372036854775808) : (Instr.lookup 104 (.map (some b)) (.int .i64 i) false).run Tryz.prog w = .ok (.bool (done i)) w := by
  obtain ⟨n, m, h1, -, h3⟩ := h
  have := h1.look Tryz.underlying104 (x := (i : Int)) (nat_wf hi)
  rw [show (m i).getD vBool.zero = done i from h3 i] at this
  exact this
/-- ready's closure: is it not done? -/
theorem ready1_any (k p b : Nat) (done : Nat → Bool) (w : World) (hp : w.cell? ⟨p, 0, none⟩ = some (.map (some b))) (hd : DoneIs w b done) (hk : k < 9223372036854775808) :
    Calls Tryz.prog 96 #[.int .i64 k, .pointer (some ⟨p, 0, none⟩)] w fun e w' => e = .returned (.bool (!done k)) ∧ w = w' := by
  have hl := hd.look hk
  generalize done k = q at hl ⊢
  clear hd
  go_enter Tryz.func96, Tryz.ntmps96
  go_wp2_with fail
  go_ret
  exact ⟨rfl, rfl⟩
theorem enters_ready1 : ∀ args w, (callFunc 96 args).run Tryz.prog w = .ok (.enter 96 args) w := enters_of Tryz.func96 (by kernel_rfl) rfl
theorem anyV_unit (p : Nat → Bool) : ∀ l : List Nat, anyV (fun (s : Unit) k => (s, p k)) () l = ((), l.any p)
  | [] => rfl
  | k :: r => by
    rw [anyV]
    cases h : p k with
    | true => simp [h]
    | false => rw [if_neg (by simp), anyV_unit p r]; simp [h]
/-- ContainsFunc at ints, with a plain test. -/
theorem containsFunc_plain (g : FuncId) (cap : Array Value) (p : Nat → Bool) (l : List Nat) (v : Value) (w : World) (hI : Ints w v (natInts l)) (eg : ∀ args w, (callFunc g args).run Tryz.prog w = .ok (.enter g args) w)
    (hp : ∀ x, x ∈ l → ∀ W, Below w.heap.size w W → Calls Tryz.prog g (#[.int .i64 (x : Int)] ++ cap) W fun e W' => e = .returned (.bool (p x)) ∧ Below W.heap.size W W') :
    Calls Tryz.prog 61 #[v, .func (.func g) #[] cap] w fun e w' => e = .returned (.bool (l.any p)) ∧ Below w.heap.size w w' := by
  refine (containsFunc_int g cap (fun (s : Unit) k => (s, p k)) l v (fun W _ => Below w.heap.size w W) w () (Below.refl _ _) ⟨fun W _ hb => hI.later hb, eg, fun x hx W s hb => ?_⟩).mono ?_
  · refine (hp x hx W hb).mono ?_
    rintro e W' ⟨rfl, h⟩
    exact ⟨rfl, below_trans hb h⟩
  · rw [anyV_unit]
    rintro e W' ⟨rfl, h⟩
    exact ⟨rfl, h⟩
end Go.Proofs.YtacgopankhpnbaaGreatDoor
