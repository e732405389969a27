/- Parts of slices, as something to be appended, and what comes of it. -/
import Derived.Test.YtiionicikdnnpaaGreatDoorAppAll
import Derived.Test.YtiionicikdnnpaaGreatDoorTopY
namespace Go.Proofs.YtiionicikdnnpaaGreatDoor
open Go.RowKit
set_option linter.unusedSimpArgs false
set_option linter.unusedVariables false

section
variable {α : Type} {k : Nat} {enc : (Nat → Prop) → World → α → List Value → Prop} {N : Nat → Prop} {w w' : World} {b o : Nat} {l : List α} {css : List (List Value)}
/-- The cells of a slice's elements. -/
def CssOf (k : Nat) (enc : (Nat → Prop) → World → α → List Value → Prop) (N : Nat → Prop) (w : World) (b o : Nat) (l : List α) (css : List (List Value)) : Prop :=
  css.length = l.length ∧ ∀ i x, l[i]? = some x → ∃ cs, css[i]? = some cs ∧ enc N w x cs ∧ cs.length = k ∧ ∀ j u, cs[j]? = some u → w.cell? ⟨b, o + i * k + j, none⟩ = some u
theorem aO.parts {c : Nat} (h : aO k enc N w (.slice (some ⟨b, o, none⟩) l.length c) l) : ∃ css, CssOf k enc N w b o l css := by
  obtain ⟨a, c', hv, h1, h2, h3⟩ := h
  cases hl : l with
  | nil => exact ⟨[], rfl, fun i x hx => by simp at hx⟩
  | cons y r =>
    rw [← hl]
    obtain ⟨b', o', ha, hn, hc⟩ := h3 (by rw [hl]; simp)
    rw [ha] at hv
    injection hv with hv
    injection hv with hv
    injection hv with e1 e2 e3
    subst e1 e2
    have each : ∀ i, i < l.length → ∃ cs, ∀ x, l[i]? = some x → enc N w x cs ∧ cs.length = k ∧ ∀ j u, cs[j]? = some u → w.cell? ⟨b, o + i * k + j, none⟩ = some u := fun i hi => by
      obtain ⟨cs, e, hl, hj⟩ := hc i _ (List.getElem?_eq_getElem hi)
      refine ⟨cs, fun x hx => ?_⟩
      rw [List.getElem?_eq_getElem hi] at hx
      cases hx
      exact ⟨e, hl, hj⟩
    refine ⟨(List.range l.length).map (fun i => if h : i < l.length then Classical.choose (each i h) else []), by simp, fun i x hx => ?_⟩
    have hi := (List.getElem?_eq_some_iff.1 hx).1
    refine ⟨Classical.choose (each i hi), by simp [List.getElem?_map, List.getElem?_range, hi], Classical.choose_spec (each i hi) x hx⟩
theorem CssOf.later (he : fM enc) (h : CssOf k enc N w b o l css) (hb : Below w.heap.size w w') : CssOf k enc N w' b o l css :=
  ⟨h.1, fun i x hx => by
    obtain ⟨cs, h1, h2, h3, h4⟩ := h.2 i x hx
    exact ⟨cs, h1, he _ _ _ _ _ _ (aQ.later hb) h2, h3, fun j u hu => aD hb (h4 j u hu)⟩⟩
theorem CssOf.at_ (h : CssOf k enc N w b o l css) {i : Nat} {c : List Value} (hc : css[i]? = some c) : ∃ x, l[i]? = some x ∧ enc N w x c ∧ c.length = k ∧ ∀ j u, c[j]? = some u → w.cell? ⟨b, o + i * k + j, none⟩ = some u := by
  have hi := (List.getElem?_eq_some_iff.1 hc).1
  rw [h.1] at hi
  obtain ⟨cs, h1, h2, h3, h4⟩ := h.2 i _ (List.getElem?_eq_getElem hi)
  rw [hc] at h1
  cases h1
  exact ⟨_, List.getElem?_eq_getElem hi, h2, h3, h4⟩
theorem CssOf.ks (h : CssOf k enc N w b o l css) : ∀ c ∈ css, c.length = k := fun c hc => by
  obtain ⟨i, hi⟩ := List.mem_iff_getElem?.1 hc
  obtain ⟨x, -, -, h3, -⟩ := h.at_ hi
  exact h3
theorem flatten_len : ∀ {css : List (List Value)}, (∀ c ∈ css, c.length = k) → css.flatten.length = css.length * k
  | [], _ => by simp
  | c :: r, h => by
    rw [List.flatten_cons, List.length_append, flatten_len (fun c hc => h c (by simp [hc])), h c (by simp), List.length_cons, Nat.succ_mul, Nat.add_comm]
theorem CssOf.src (h : CssOf k enc N w b o l css) (hk : 0 < k) (hone : ∀ x cs, enc N w x cs → ∀ u ∈ cs, u.oneCell' = true) {f t : Nat} (hft : f ≤ t) (htl : t ≤ l.length) (pa : Option Addr) (hpa : f < t → pa = some ⟨b, o + f * k, none⟩) (c : Nat) :
    Src w (.slice pa (t - f) c) (t - f) k ((css.drop f).take (t - f)).flatten := by
  by_cases e : f = t
  · subst e
    exact .inl ⟨Nat.sub_self _, by simp, _, _, by rw [Nat.sub_self]⟩
  · have hlt : f < t := by omega
    rw [hpa hlt]
    have hks : ∀ c ∈ (css.drop f).take (t - f), c.length = k := fun c hc => h.ks c (List.mem_of_mem_drop (List.mem_of_mem_take hc))
    have hlen : ((css.drop f).take (t - f)).length = t - f := by simp [h.1]; omega
    have hat : ∀ i, i < t - f → ∃ cs, ((css.drop f).take (t - f))[i]? = some cs ∧ css[f + i]? = some cs := fun i hi => by
      have hi' : f + i < css.length := by rw [h.1]; omega
      refine ⟨_, ?_, List.getElem?_eq_getElem hi'⟩
      rw [List.getElem?_take, if_pos hi, List.getElem?_drop, List.getElem?_eq_getElem hi']
    refine .inr ⟨by omega, _, _, rfl, by rw [flatten_len hks, hlen], fun j u hu => ?_, fun u hu => ?_⟩
    · have hj : j < (t - f) * k := by
        have := (List.getElem?_eq_some_iff.1 hu).1
        rw [flatten_len hks, hlen] at this
        exact this
      have hi : j / k < t - f := Nat.div_lt_of_lt_mul (by rw [Nat.mul_comm]; exact hj)
      have hr : j % k < k := Nat.mod_lt _ hk
      have hjj : j / k * k + j % k = j := Nat.div_add_mod' j k
      obtain ⟨cs, h1, h2⟩ := hat _ hi
      have hf := flatten_at _ hks (j / k) cs (j % k) h1 hr
      rw [hjj, hu] at hf
      obtain ⟨x, -, -, -, h5⟩ := h.at_ h2
      have h6 := h5 (j % k) u hf.symm
      rw [Addr.add_lit]
      rw [← h6]
      congr 2
      rw [Nat.add_mul]
      omega
    · obtain ⟨cs, hcs, hu2⟩ := List.mem_flatten.1 hu
      obtain ⟨i, hi⟩ := List.mem_iff_getElem?.1 (List.mem_of_mem_drop (List.mem_of_mem_take hcs))
      obtain ⟨x, -, h3, -, -⟩ := h.at_ hi
      exact hone x cs h3 u hu2
theorem aO.of_owns {T : TypeId} {B n : Nat} {v : Value} (h : w.ownsRow B T k v n css.flatten) (hn : n = l.length) (hlen : css.length = l.length) (hks : ∀ c ∈ css, c.length = k) (he : ∀ (i : Nat) (x : α) (c : List Value), l[i]? = some x → css[i]? = some c → enc (fun _ => True) w x c) :
    aO k enc (fun _ => True) w v l := by
  subst hn
  rcases h.2 with ⟨rfl, h0⟩ | ⟨g, cap, cur, rfl, hg, hgb, r1, r2, r3, r4⟩
  · have := List.eq_nil_of_length_eq_zero h0
    subst this
    exact aO.nil _ _ _ _
  · refine ⟨_, cap, rfl, r1, by unfold maxLen at r2; omega, fun _ => ⟨g, 0, rfl, trivial, fun i x hx => ?_⟩⟩
    have hi := (List.getElem?_eq_some_iff.1 hx).1
    obtain ⟨c, hc⟩ : ∃ c, css[i]? = some c := ⟨_, List.getElem?_eq_getElem (by rw [hlen]; exact hi)⟩
    have hck := hks c (List.mem_of_getElem? hc)
    refine ⟨c, he i x c hx hc, hck, fun j u hu => ?_⟩
    have hj : j < k := by rw [← hck]; exact (List.getElem?_eq_some_iff.1 hu).1
    have hlt : i * k + j < l.length * k := by
      have : (i + 1) * k ≤ l.length * k := Nat.mul_le_mul_right _ hi
      rw [Nat.succ_mul] at this; omega
    have := congrArg (fun t : List Value => t[i * k + j]?) r4
    simp only [List.getElem?_take, if_pos hlt, flatten_at css hks i c j hc hj, hu] at this
    have h2 : cur[i * k + j]? = some u := by simpa using this
    simp [World.cell?, hgb, h2]
/-- Without a part in the middle. -/
theorem CssOf.cut (h : CssOf k enc N w b o l css) (f t : Nat) : ∀ (i : Nat) (x : α) (c : List Value), (l.take f ++ l.drop t)[i]? = some x → (css.take f ++ css.drop t)[i]? = some c → enc N w x c := fun i x c hx hc => by
  have hl := h.1
  by_cases hi : i < min f l.length
  · rw [List.getElem?_append_left (by simpa using hi), List.getElem?_take, if_pos (by omega)] at hx
    rw [List.getElem?_append_left (by rw [List.length_take, hl]; exact hi), List.getElem?_take, if_pos (by omega)] at hc
    obtain ⟨y, h1, h2, -⟩ := h.at_ hc
    rw [hx] at h1
    cases h1
    exact h2
  · rw [List.getElem?_append_right (by simpa using hi), List.getElem?_drop, List.length_take] at hx
    rw [List.getElem?_append_right (by rw [List.length_take, hl]; omega), List.getElem?_drop, List.length_take, hl] at hc
    obtain ⟨y, h1, h2, -⟩ := h.at_ hc
    rw [hx] at h1
    cases h1
    exact h2
theorem CssOf.less (he : fM enc) (h : CssOf k enc N w b o l css) {f B : Nat} (hf : f < l.length) {T : TypeId} {v : Value} {x : World} (hb : Below w.heap.size w x)
    (hown : x.ownsRow B T k v (f + (l.length - (f + 1))) ((css.take f).flatten ++ (css.drop (f + 1)).flatten)) : aO k enc (fun _ => True) x v (l.take f ++ l.drop (f + 1)) := by
  rw [← List.flatten_append] at hown
  refine aO.of_owns hown (by simp; omega) (by simp [h.1]) (fun c hc => ?_) (fun i y c hy hc => ?_)
  · rcases List.mem_append.1 hc with hc | hc
    · exact h.ks c (List.mem_of_mem_take hc)
    · exact h.ks c (List.mem_of_mem_drop hc)
  · exact he _ _ _ _ _ _ (fun b _ _ => ⟨trivial, fun o v h => aD hb h⟩) (h.cut f (f + 1) i y c hy hc)
theorem CssOf.one (he : fM enc) (h : CssOf k enc N w b o l css) {f c : Nat} {y : α} (hf : l[f]? = some y) (hc : 1 ≤ c) (hc2 : c ≤ 9223372036854775807) : aO k enc (fun _ => True) w (.slice (some ⟨b, o + f * k, none⟩) 1 c) [y] := by
  obtain ⟨cs, h1, h2, h3, h4⟩ := h.2 f y hf
  refine ⟨_, c, rfl, by simpa using hc, hc2, fun _ => ⟨b, o + f * k, rfl, trivial, fun i x hx => ?_⟩⟩
  cases i with
  | succ i => simp at hx
  | zero =>
    simp at hx
    subst hx
    exact ⟨cs, he _ _ _ _ _ _ (fun b _ _ => ⟨trivial, fun o v h => h⟩) h2, h3, fun j u hu => by rw [Nat.zero_mul, Nat.add_zero]; exact h4 j u hu⟩
end
theorem grown_newB {w before x : World} {g : Nat} (hb : Below w.heap.size w before) (hg : before.grownBy x (some g)) (hw : w.heap.size ≤ g) : Below w.heap.size w x :=
  ⟨hg.os.trans hb.os, hg.tape.trans hb.tape, hg.output.trans hb.output, by have := hg.size; have := hb.size; omega, fun j hj => (hg.block j (by have := hb.size; omega) (fun e => by cases e; omega)).trans (hb.block j hj)⟩
theorem oneCell_fn {N : Nat → Prop} {w : World} (f : Fnc) (cs : List Value) (h : iU N w f cs) : ∀ u ∈ cs, u.oneCell' = true := by
  obtain ⟨vp, k, vf, op, n, s, m, vn, va, rfl, -, hp, ht, he⟩ := h
  obtain ⟨a1, c1, rfl, -⟩ := hp.at
  obtain ⟨kz, a2, l2, c2, ez⟩ := fP ht
  cases ez
  obtain ⟨oz, nz, sz, mz, a3, l3, c3, a4, l4, c4, ez⟩ := jB he
  cases ez
  simp [Value.oneCell']
theorem oneCell_tok {N : Nat → Prop} {w : World} (t : Tok) (cs : List Value) (h : encTok N w t cs) : ∀ u ∈ cs, u.oneCell' = true := by
  obtain ⟨rfl, -⟩ := h
  simp [tokCells, Value.oneCell']
end Go.Proofs.YtiionicikdnnpaaGreatDoor
