/- Walks of package step: write, all kinds but StCompile in one contract. -/
import Derived.Test.YtacgopankhpnbaaGreatDoorStepI
namespace Go.Proofs.YtacgopankhpnbaaGreatDoor
open Go.RowKit

theorem rowsL_length (l : List ByteArray) (B : Nat) (h : ∀ x, x ∈ l → x.size ≤ B) : (rowsL l).length ≤ l.length * (B + 1) := by
  induction l with
  | nil => simp [rowsL]
  | cons x l ih =>
    have h1 := ih (fun y hy => h y (List.mem_cons_of_mem _ hy))
    have h2 := h x (List.mem_cons_self ..)
    have e : rowsL (x :: l) = x.data.toList ++ [10] ++ rowsL l := by simp [rowsL]
    rw [e]
    have : x.data.toList.length = x.size := by simp
    simp only [List.length_append, this, List.length_cons, List.length_nil]
    rw [Nat.add_mul]; omega
theorem join_length (l : List ByteArray) (B : Nat) (h : ∀ x, x ∈ l → x.size ≤ B) : (Lib.join (l.map (·.data.toList)) []).length ≤ l.length * B := by
  have : Lib.join (l.map (·.data.toList)) [] = (l.map (·.data.toList)).flatten := by
    unfold Lib.join
    induction l.map (·.data.toList) with
    | nil => rfl
    | cons x r ih => cases r <;> simp_all [List.intercalate, List.intersperse]
  rw [this]
  clear this
  induction l with
  | nil => simp
  | cons x l ih =>
    have h1 := ih (fun y hy => h y (List.mem_cons_of_mem _ hy))
    have h2 := h x (List.mem_cons_self ..)
    have : x.data.toList.length = x.size := by simp
    simp only [List.map_cons, List.flatten_cons, List.length_append, this, List.length_cons]
    rw [Nat.add_mul]; omega

theorem pickAll_length (order : List Int) : ∀ (f u : Nat) (l : List ByteArray), (pickAll order f u l).length ≤ f
  | 0, _, _ => by simp [pickAll]
  | f + 1, u, l => by
    rw [pickAll]
    split
    · simp
    · have := pickAll_length order f (u + 1) (l.eraseIdx (pickIdx (order.getD u 0) l.length))
      rw [List.length_cons]; omega
theorem isName_size {s : ByteArray} (h : isName s = true) : s.size ≤ 20 := by
  simp [isName] at h; exact h.2
theorem sortedLines_rows (t : ByteArray) (ht : t.size ≤ 65536) : (rowsL (sortedLines t)).length ≤ 140737488355328 := by
  unfold sortedLines
  split
  · simp [rowsL]
  · have hle := trim_size t
    have hcnt := Lib.countB_le nl (by decide) t.size _ hle
    have hl := linesOf_length t
    have h := rowsL_length (sortB (linesOf t)) 65536 (fun x hx => by
      have := splitB_size nl _ _ x (mem_sortB hx)
      omega)
    rw [sortB_length] at h
    have : (linesOf t).length * (65536 + 1) ≤ 65537 * 65537 := Nat.mul_le_mul (by omega) (by omega)
    omega

/-- Strs in a block behind block b. -/
def StrsOff (b : Nat) (w : World) (v : Value) (l : List ByteArray) : Prop := Strs w v l ∧ ∀ a n c, v = .slice (some a) n c → l ≠ [] → b < a.block
theorem StrsOff.only {b : Nat} {w w' : World} {v : Value} {l : List ByteArray} (h : StrsOff b w v l) (ho : Only b w w') : StrsOff b w' v l := by
  refine ⟨?_, h.2⟩
  obtain ⟨a, c, hv, h1, h2, h3⟩ := h.1
  refine ⟨a, c, hv, h1, h2, fun hne => ?_⟩
  obtain ⟨b', o', ha, hc⟩ := h3 hne
  refine ⟨b', o', ha, fun i x' hx => ?_⟩
  obtain ⟨cs, e, hl, hj⟩ := hc i x' hx
  exact ⟨cs, e, hl, fun j u hu => ho.cell (Nat.ne_of_gt (h.2 ⟨b', o', none⟩ l.length c (by rw [hv, ha]) hne)) (hj j u hu)⟩
def IntsOff (b : Nat) (w : World) (v : Value) (l : List Int) : Prop := Ints w v l ∧ ∀ a n c, v = .slice (some a) n c → l ≠ [] → a.block ≠ b
theorem IntsOff.only {b : Nat} {w w' : World} {v : Value} {l : List Int} (h : IntsOff b w v l) (ho : Only b w w') : IntsOff b w' v l := by
  refine ⟨?_, h.2⟩
  obtain ⟨a, c, hv, h1, h2, h3⟩ := h.1
  refine ⟨a, c, hv, h1, h2, fun hne => ?_⟩
  obtain ⟨b', o', ha, hc⟩ := h3 hne
  refine ⟨b', o', ha, fun i x' hx => ?_⟩
  obtain ⟨cs, e, hl, hj⟩ := hc i x' hx
  exact ⟨cs, e, hl, fun j u hu => ho.cell (h.2 ⟨b', o', none⟩ l.length c (by rw [hv, ha]) hne) (hj j u hu)⟩

theorem stepRight_parts {s : Stp} (h : stepRight s = true) : (∀ x, x ∈ s.src → isName x = true) ∧ isName s.out = true ∧ s.src.length ≤ 60 ∧
    (s.kind = 2 ∨ s.kind = 1 ∧ s.sorted = false ∨ (s.kind = 0 ∨ s.kind = 3 ∨ s.kind = 4 ∨ s.kind = 5) ∧ s.src.length = 1 ∧ s.sorted = false) := by
  unfold stepRight at h
  split at h
  · cases h
  · rename_i h0
    have h0' : isName s.out = true ∧ ∀ x, x ∈ s.src → isName x = true := by
      simp at h0; exact ⟨h0.1, fun x hx => by simpa using h0.2 x hx⟩
    refine ⟨h0'.2, h0'.1, ?_⟩
    split at h
    · rename_i h2; simp at h; exact ⟨h, .inl h2⟩
    · split at h
      · rename_i h1; simp at h; exact ⟨h.1, .inr (.inl ⟨h1, h.2⟩)⟩
      · split at h
        · rename_i h3; simp at h; exact ⟨by omega, .inr (.inr ⟨h3, h.1, h.2⟩)⟩
        · cases h

/-- What is asked of a sandbox and what a step hands in. -/
structure WriteIn (s : Stp) (saw : List ByteArray) (clock order : List Int) (b : Nat) (vs clk ord nxt vf : Value) (u0 u1 : Int) (w : World) : Prop where
  hglob : Glob w
  hb : 11 ≤ b
  hsbx : Sbx w b vs clk ord nxt u0 u1
  hsaw : StrsOff b w vs saw
  hclk : IntsOff b w clk clock
  hord : IntsOff b w ord order
  hsrc : Strs w vf s.src
  hright : stepRight s = true
  htexts : ∀ x, x ∈ saw → x.size ≤ 65536
  hlen : saw.length = s.src.length
  hu0 : 0 ≤ u0 ∧ u0 ≤ 1152921504606846976
  hu1 : 0 ≤ u1 ∧ u1 ≤ 1152921504606846976
  hcwf : ∀ x, x ∈ clock → (Lit.int .i64 x).wf = true
  howf : ∀ x, x ∈ order → (Lit.int .i64 x).wf = true

theorem write_any (s : Stp) (saw : List ByteArray) (clock order : List Int) (b : Nat) (vs clk ord nxt vf : Value) (u0 u1 : Int) (w : World) (h : WriteIn s saw clock order b vs clk ord nxt vf u0 u1 w) (h5 : s.kind ≠ 5) :
    Calls Tryz.prog 52 #[.pointer (some ⟨b, 0, none⟩), .agg #[.int .i64 s.kind, vf, .string s.out, .bool s.sorted]] w fun e w' => ∃ vs',
      e = .returned (.tuple #[.string (writeStep s saw clock order u0 u1).1, .int .i64 0]) ∧ Sbx w' b vs' clk ord nxt (writeStep s saw clock order u0 u1).2.2.1 (writeStep s saw clock order u0 u1).2.2.2 ∧
      StrsOff b w' vs' (writeStep s saw clock order u0 u1).2.1 ∧ Only b w w' := by
  obtain ⟨hn, hout, hl, hk⟩ := stepRight_parts h.hright
  have hf : ∃ a n c, vf = .slice a n c := by obtain ⟨a, c, hv, -⟩ := h.hsrc; exact ⟨a, _, c, hv⟩
  obtain ⟨kind, src, out, sorted⟩ := s
  simp only at hn hout hl hk h5 hf ⊢
  by_cases k01 : kind = 0 ∨ kind = 1
  · have e : writeStep ⟨kind, src, out, sorted⟩ saw clock order u0 u1 = (joinB saw, saw, u0, u1) := by simp [writeStep, k01]
    rw [e]
    have hj := join_length saw 65536 h.htexts
    have hlen : saw.length ≤ 60 := by have := h.hlen; simp only at this; omega
    refine (write_join b saw vs clk ord nxt u0 u1 kind vf out sorted w h.hsbx h.hsaw.1 k01 hf (Nat.le_trans hj (by omega)) (by omega)).mono ?_
    rintro e w' ⟨rfl, hs, ho⟩
    exact ⟨vs, rfl, hs, h.hsaw.only ho, ho⟩
  by_cases k3 : kind = 3
  · subst k3
    have e : writeStep ⟨3, src, out, sorted⟩ saw clock order u0 u1 = (rowsB (sortedLines (saw.headD ByteArray.empty)), saw, u0, u1) := by simp [writeStep]
    rw [e]
    obtain ⟨t, rfl⟩ : ∃ t, saw = [t] := by
      have := h.hlen; simp only at this
      have h1 : saw.length = 1 := by omega
      exact List.length_eq_one_iff.1 h1
    have ht := h.htexts t (by simp)
    refine (write_sort b t vs clk ord nxt u0 u1 vf out sorted w h.hglob h.hsbx h.hsaw.1 hf (by omega) (sortedLines_rows t ht)).mono ?_
    rintro e w' ⟨rfl, hs, ho⟩
    exact ⟨vs, rfl, hs, h.hsaw.only ho, ho⟩
  by_cases k4 : kind = 4
  · subst k4
    have e : writeStep ⟨4, src, out, sorted⟩ saw clock order u0 u1 = (stampB (saw.headD ByteArray.empty) (clock.getD u0.toNat 0), saw, u0 + 1, u1) := by simp [writeStep]
    rw [e]
    obtain ⟨t, rfl⟩ : ∃ t, saw = [t] := by
      have := h.hlen; simp only at this
      have h1 : saw.length = 1 := by omega
      exact List.length_eq_one_iff.1 h1
    have ht := h.htexts t (by simp)
    refine (write_stamp b t clock vs clk ord nxt u0 u1 vf out sorted w h.hglob h.hsbx h.hsaw.1 (fun a n c e => Nat.ne_of_gt (h.hsaw.2 a n c e (by simp))) h.hclk.1 hf (by omega) h.hu0.1 (by have := h.hu0.2; omega) h.hb h.hcwf).mono ?_
    rintro e w' ⟨rfl, hs, ho⟩
    exact ⟨vs, rfl, hs, h.hsaw.only ho, ho⟩
  · have k2 : kind = 2 := by omega
    subst k2
    have hsz : ∀ x, x ∈ src → x.size ≤ 20 := fun x hx => isName_size (hn x hx)
    have hsrc : Strs w vf src := h.hsrc
    cases sorted with
    | true =>
      have e : writeStep ⟨2, src, out, true⟩ saw clock order u0 u1 = (rowsB (sortB src), [], u0, u1) := by simp [writeStep]
      rw [e]
      have hr := rowsL_length (sortB src) 20 (fun x hx => hsz x (mem_sortB hx))
      rw [sortB_length] at hr
      refine (write_list b (sortB src) vs clk ord nxt u0 u1 u1 vf out true w h.hsbx hf (fun W hb => ?_) (by omega)).mono ?_
      · refine (list_sorted b src vf W (hsrc.later hb) (by omega)).mono ?_
        rintro e w' ⟨v, rfl, h1, h2, h3⟩
        exact ⟨v, rfl, h1, h2, (h.hsbx.later hb).later h3, Only.of_below h3⟩
      · rintro e w' ⟨rfl, hs, ho⟩
        exact ⟨_, rfl, hs, ⟨⟨none, 0, rfl, by simp, by simp, fun h => absurd rfl h⟩, fun a n c e _ => by simp at e⟩, ho⟩
    | false =>
      have e : writeStep ⟨2, src, out, false⟩ saw clock order u0 u1 = (rowsB (pickAll order src.length u1.toNat (sortB src)), [], u0, u1 + src.length) := by simp [writeStep]
      rw [e]
      have hr := rowsL_length (pickAll order src.length u1.toNat (sortB src)) 20 (fun x hx => hsz x (mem_sortB (pickAll_mem hx)))
      have hpl := pickAll_length order src.length u1.toNat (sortB src)
      have hmul : (pickAll order src.length u1.toNat (sortB src)).length * (20 + 1) ≤ 60 * 21 := Nat.mul_le_mul (by omega) (by omega)
      have hu := h.hu1
      refine (write_list b (pickAll order src.length u1.toNat (sortB src)) vs clk ord nxt u0 u1 (u1 + src.length) vf out false w h.hsbx hf (fun W hb => ?_) (by omega)).mono ?_
      · have hsb : Sbx W b vs clk ord nxt u0 ((u1.toNat : Nat) : Int) := (h.hsbx.later hb).cast (by omega)
        refine (list_picks b vs clk nxt ord u0 u1.toNat order src vf W hsb (fun W' ho => (h.hord.only ((Only.of_below hb).trans ho)).1) (hsrc.later hb) (by omega) (by omega) h.howf).mono ?_
        rintro e w' ⟨v, rfl, h1, h2, h3, h4⟩
        exact ⟨v, rfl, h1, h2, h3.cast (by omega), h4⟩
      · rintro e w' ⟨rfl, hs, ho⟩
        exact ⟨_, rfl, hs, ⟨⟨none, 0, rfl, by simp, by simp, fun h => absurd rfl h⟩, fun a n c e _ => by simp at e⟩, ho⟩
end Go.Proofs.YtacgopankhpnbaaGreatDoor
