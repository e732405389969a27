/- What SyntaxParentheses comes to. No program in sight. -/
import Derived.Test.YtiionicikdnnpaaGreatDoorTopY
import Derived.Test.YtiionicikdnnpaaGreatDoorTxt
namespace Go.Proofs.YtiionicikdnnpaaGreatDoor
set_option linter.unusedSimpArgs false
set_option linter.unusedVariables false

theorem wordsT_app (a b : List Tok) : wordsT (a ++ b) = wordsT a ++ wordsT b := by unfold wordsT; rw [List.filter_append, List.map_append]
theorem wordsT_is : ∀ (l : List Tok) (ts : List ByteArray), l.length = ts.length → (∀ (k : Nat) t, ts[k]? = some t → ∃ tok, l[k]? = some tok ∧ TokIs tok t) → wordsT l = ts
  | [], [], _, _ => rfl
  | [], _ :: _, h, _ => by simp at h
  | _ :: _, [], h, _ => by simp at h
  | x :: l, t :: ts, h, hk => by
    obtain ⟨tok, h1, h2⟩ := hk 0 t rfl
    simp at h1
    subst h1
    have ih := wordsT_is l ts (by simpa using h) (fun k t ht => by
      obtain ⟨tok, h3, h4⟩ := hk (k + 1) t (by simpa using ht)
      exact ⟨tok, by simpa using h3, h4⟩)
    have : wordsT (x :: l) = wordsT [x] ++ wordsT l := wordsT_app [x] l
    rw [this, ih]
    unfold wordsT
    simp [h2.1, kindOf_ne, h2.2.1]
theorem paren_lex {x : Xp} {s : ByteArray} (h : jD x = .ok s) : ∃ l : List Tok, lX s = .ok l ∧ wordsT l = aG x ∧ bs (iI (wordsT l)) = s ∧ l.length ≤ 8001 ∧ ∀ i t, l[i]? = some t → t.text = aS → t.kind ≠ 3 ∧ i + 1 < l.length := by
  obtain ⟨-, hr, hz, hs⟩ := printX_parse h
  have hv := mV 12 x hr
  have hsp : dG s.data.toList (aG x) := by
    rw [hs]
    exact exp_spells hr
  have hlen : (aG x).length ≤ s.size := by rw [cZ]; exact hsp.length
  obtain ⟨l, h1, h2, h3⟩ := lex_of hsp hz hlen
  have hw : wordsT (l ++ [⟨3, ⟨#[]⟩, 0, s.size⟩]) = aG x := by
    rw [wordsT_app, wordsT_is l _ h2 h3]
    simp [wordsT]
  refine ⟨_, h1, hw, by rw [hw, ← hs], by rw [List.length_append, List.length_singleton]; omega, fun i t hi ht => ?_⟩
  have hil := (List.getElem?_eq_some_iff.1 hi).1
  rw [List.length_append, List.length_singleton] at hil ⊢
  by_cases hlt : i < l.length
  · rw [List.getElem?_append_left hlt] at hi
    obtain ⟨tok, h4, h5⟩ := h3 i _ (List.getElem?_eq_getElem (by rw [← h2]; exact hlt))
    rw [hi] at h4
    cases h4
    exact ⟨by rw [h5.1]; exact kindOf_ne _, by omega⟩
  · rw [List.getElem?_append_right (by omega), show i - l.length = 0 by omega] at hi
    simp at hi
    subst hi
    exact absurd ht (show ¬ (⟨#[]⟩ : ByteArray) = aS by decide)
theorem joinT_cons (x : ByteArray) (r : List ByteArray) : iI (x :: r) = x.data.toList ++ (if r = [] then [] else 32 :: iI r) := by
  cases r with
  | nil => simp [iI]
  | cons y r => simp [iI]
theorem joinT_sub {a b : List ByteArray} (h : a.Sublist b) : (iI a).length ≤ (iI b).length := by
  induction h with
  | slnil => simp
  | cons x h ih =>
    rename_i a b
    rw [joinT_cons]
    by_cases hb : b = []
    · subst hb
      have := List.sublist_nil.1 h
      subst this
      simp [iI]
    · rw [if_neg hb, List.length_append, List.length_cons]
      omega
  | cons_cons x h ih =>
    rename_i a b
    rw [joinT_cons, joinT_cons x b]
    by_cases hb : b = []
    · subst hb
      have := List.sublist_nil.1 h
      subst this
      simp
    · rw [if_neg hb]
      by_cases ha : a = []
      · rw [if_pos ha]; simp
      · rw [if_neg ha]; simp; omega
/-- The tokens without two of them. -/
def restT (l : List Tok) (i k : Nat) : List Tok := l.take i ++ (l.drop (i + 1)).take (k - (i + 1)) ++ l.drop (k + 1)
theorem split_two {l : List Tok} {i k : Nat} {t : Tok} (hi : l[i]? = some t) (hik : i < k) (hk : k < l.length) : ∃ u, l = l.take i ++ [t] ++ (l.drop (i + 1)).take (k - (i + 1)) ++ [u] ++ l.drop (k + 1) := by
  refine ⟨l[k], ?_⟩
  obtain ⟨hlt, rfl⟩ := List.getElem?_eq_some_iff.1 hi
  have h1 : l = l.take i ++ l[i] :: l.drop (i + 1) := by rw [← List.drop_eq_getElem_cons hlt, List.take_append_drop]
  have h2 : l.drop (i + 1) = (l.drop (i + 1)).take (k - (i + 1)) ++ l[k] :: l.drop (k + 1) := by
    have h3 : (l.drop (i + 1)).drop (k - (i + 1)) = l[k] :: l.drop (k + 1) := by
      rw [List.drop_drop, show i + 1 + (k - (i + 1)) = k by omega, List.drop_eq_getElem_cons hk]
    rw [← h3, List.take_append_drop]
  conv => lhs; rw [h1, h2]
  simp only [List.append_assoc, List.cons_append, List.nil_append]
theorem wordsT_sub {a b : List Tok} (h : a.Sublist b) : (wordsT a).Sublist (wordsT b) := (h.filter _).map _
theorem rest_sub {l : List Tok} {i k : Nat} {t : Tok} (hi : l[i]? = some t) (hik : i < k) (hk : k < l.length) : (restT l i k).Sublist l := by
  obtain ⟨u, hu⟩ := split_two hi hik hk
  conv => rhs; rw [hu]
  unfold restT
  rw [List.append_assoc, List.append_assoc, List.append_assoc, List.append_assoc]
  refine List.Sublist.append (List.Sublist.refl _) (List.Sublist.trans ?_ (List.sublist_append_right _ _))
  exact List.Sublist.append (List.Sublist.refl _) (List.sublist_append_right _ _)
theorem paren_less {x : Xp} {s : ByteArray} {l : List Tok} {i k : Nat} {t : Tok} (h : jD x = .ok s) (hl : wordsT l = aG x) (hi : l[i]? = some t) (ht : t.text = aS) (h3 : t.kind ≠ 3) (hik : i < k) (hk : k < l.length) :
    fN (bs (iI (wordsT (restT l i k)))) ≠ .ok x ∧ (bs (iI (wordsT (restT l i k)))).size ≤ 8000 := by
  obtain ⟨-, hr, hz, hs⟩ := printX_parse h
  have hv := mV 12 x hr
  have hsub := wordsT_sub (rest_sub hi hik hk)
  rw [hl] at hsub
  have hsz : (bs (iI (wordsT (restT l i k)))).size ≤ 8000 := by
    have h1 := joinT_sub hsub
    have h2 : (bs (iI (wordsT (restT l i k)))).size = (iI (wordsT (restT l i k))).length := by show (iI _).toArray.size = _; simp
    have h4 : s.size = (iI (aG x)).length := by rw [hs]; show (iI _).toArray.size = _; simp
    omega
  refine ⟨parens_law (fun t ht => hv t (hsub.subset ht)) hsz ?_, hsz⟩
  obtain ⟨u, hu⟩ := split_two hi hik hk
  have e : aG x = wordsT (l.take i) ++ [t.text] ++ wordsT ((l.drop (i + 1)).take (k - (i + 1))) ++ wordsT [u] ++ wordsT (l.drop (k + 1)) := by
    rw [← hl]
    conv => lhs; rw [hu]
    rw [wordsT_app, wordsT_app, wordsT_app, wordsT_app]
    have : wordsT [t] = [t.text] := by unfold wordsT; simp [h3]
    rw [this]
  rw [e]
  unfold restT
  rw [wordsT_app, wordsT_app]
  simp only [eP]
  rw [ht, show dA [aS] = 1 by simp [dA]]
  omega
end Go.Proofs.YtiionicikdnnpaaGreatDoor
