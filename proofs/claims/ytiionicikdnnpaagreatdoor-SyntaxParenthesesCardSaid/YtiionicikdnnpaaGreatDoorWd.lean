/- Modules, expressions and types as they come in: strings as large as they may be; and those that are small (printed by gen_wd.py). -/
import Derived.Test.YtiionicikdnnpaaGreatDoorTopY
namespace Go.Proofs.YtiionicikdnnpaaGreatDoor
open Go.RowKit
set_option linter.unusedSimpArgs false
set_option linter.unusedVariables false

mutual
/-- An expression's six cells. -/
def wX (N : Nat → Prop) (w : World) : Xp → List Value → Prop
  | .mk op n s m names args, cs => ∃ vn va, cs = [.int .i64 op, .int .i64 n, .string s, .string m, vn, va] ∧ s.size ≤ 140737488355328 ∧ m.size ≤ 140737488355328 ∧ aO 1 iD N w vn names ∧
      ∃ a c, va = .slice a args.length c ∧ args.length ≤ c ∧ c ≤ 9223372036854775807 ∧ (args ≠ [] → ∃ b o, a = some ⟨b, o, none⟩ ∧ N b ∧ wXs N w b o args)
def wXs (N : Nat → Prop) (w : World) (b : Nat) : Nat → List Xp → Prop
  | _, [] => True
  | o, x :: r => (∃ cs, wX N w x cs ∧ cs.length = 6 ∧ ∀ j u, cs[j]? = some u → w.cell? ⟨b, o + j, none⟩ = some u) ∧ wXs N w b (o + 6) r
end
mutual
/-- A type's two cells. -/
def wT (N : Nat → Prop) (w : World) : Ty → List Value → Prop
  | .mk kind fields, cs => ∃ vf, cs = [.int .i64 kind, vf] ∧ ∃ a c, vf = .slice a fields.length c ∧ fields.length ≤ c ∧ c ≤ 9223372036854775807 ∧ (fields ≠ [] → ∃ b o, a = some ⟨b, o, none⟩ ∧ N b ∧ wFs N w b o fields)
def wFs (N : Nat → Prop) (w : World) (b : Nat) : Nat → List (ByteArray × Ty) → Prop
  | _, [] => True
  | o, (n, t) :: r => (w.cell? ⟨b, o, none⟩ = some (.string n) ∧ n.size ≤ 140737488355328 ∧ ∃ cs, wT N w t cs ∧ ∀ j u, cs[j]? = some u → w.cell? ⟨b, o + 1 + j, none⟩ = some u) ∧ wFs N w b (o + 3) r
end
/-- A field's three cells. -/
def wF (N : Nat → Prop) (w : World) (f : Fld) (cs : List Value) : Prop := ∃ ct, cs = .string f.1 :: ct ∧ f.1.size ≤ 140737488355328 ∧ wT N w f.2 ct

section
variable {N N' : Nat → Prop} {w w' : World}
theorem wXs_iff (b : Nat) : ∀ (l : List Xp) (o : Nat), wXs N w b o l ↔ ∀ i x, l[i]? = some x → ∃ cs, wX N w x cs ∧ cs.length = 6 ∧ ∀ j u, cs[j]? = some u → w.cell? ⟨b, o + i * 6 + j, none⟩ = some u
  | [], o => by simp [wXs]
  | x :: r, o => by
    unfold wXs
    rw [wXs_iff b r (o + 6)]
    constructor
    · rintro ⟨h1, h2⟩ i y hy
      cases i with
      | zero => simp at hy; subst hy; simpa using h1
      | succ i =>
        obtain ⟨cs, a1, a2, a3⟩ := h2 i y (by simpa using hy)
        exact ⟨cs, a1, a2, fun j u hu => by have := a3 j u hu; rw [show o + (i + 1) * 6 + j = o + 6 + i * 6 + j by omega]; exact this⟩
    · intro h
      refine ⟨by simpa using h 0 x rfl, fun i y hy => ?_⟩
      obtain ⟨cs, a1, a2, a3⟩ := h (i + 1) y (by simpa using hy)
      exact ⟨cs, a1, a2, fun j u hu => by have := a3 j u hu; rw [show o + 6 + i * 6 + j = o + (i + 1) * 6 + j by omega]; exact this⟩
theorem wX_iff (op n : Int) (s m : ByteArray) (names : List ByteArray) (args : List Xp) (cs : List Value) : wX N w (.mk op n s m names args) cs ↔
    ∃ vn va, cs = [.int .i64 op, .int .i64 n, .string s, .string m, vn, va] ∧ s.size ≤ 140737488355328 ∧ m.size ≤ 140737488355328 ∧ aO 1 iD N w vn names ∧ aO 6 wX N w va args := by
  unfold wX aO
  simp only [wXs_iff]
mutual
theorem wX_moves (hm : aQ N w N' w') : ∀ (x : Xp) (cs : List Value), wX N w x cs → wX N' w' x cs
  | .mk op n s m names args, cs, h => by
    unfold wX at h ⊢
    obtain ⟨vn, va, hc, h1, h2, h3, a, c, h4, h5, h6, h7⟩ := h
    refine ⟨vn, va, hc, h1, h2, h3.moves bP hm (by decide), a, c, h4, h5, h6, fun hne => ?_⟩
    obtain ⟨b, o, ha, hb, hx⟩ := h7 hne
    have hlt : b < w.heap.size := by
      cases args with
      | nil => exact absurd rfl hne
      | cons x r =>
        unfold wXs at hx
        obtain ⟨⟨cs, -, hl, hj⟩, -⟩ := hx
        exact jK (hj 0 (cs[0]'(by omega)) (List.getElem?_eq_getElem _))
    exact ⟨b, o, ha, (hm b hb hlt).1, wXs_moves hm b hb hlt args o hx⟩
theorem wXs_moves (hm : aQ N w N' w') (b : Nat) (hb : N b) (hlt : b < w.heap.size) : ∀ (l : List Xp) (o : Nat), wXs N w b o l → wXs N' w' b o l
  | [], _, _ => by unfold wXs; trivial
  | x :: r, o, h => by
    unfold wXs at h ⊢
    obtain ⟨⟨cs, h1, h2, h3⟩, h4⟩ := h
    exact ⟨⟨cs, wX_moves hm x cs h1, h2, fun j u hu => (hm b hb hlt).2 _ _ (h3 j u hu)⟩, wXs_moves hm b hb hlt r (o + 6) h4⟩
end
theorem wX_ok : fM wX := fun _ _ _ _ x cs hm h => wX_moves hm x cs h

theorem wT_len : ∀ {t : Ty} {cs : List Value}, wT N w t cs → cs.length = 2
  | .mk _ _, _, h => by unfold wT at h; obtain ⟨vf, rfl, -⟩ := h; rfl
theorem wFs_iff (b : Nat) : ∀ (l : List Fld) (o : Nat), wFs N w b o l ↔ ∀ i x, l[i]? = some x → ∃ cs, wF N w x cs ∧ cs.length = 3 ∧ ∀ j u, cs[j]? = some u → w.cell? ⟨b, o + i * 3 + j, none⟩ = some u
  | [], o => by simp [wFs]
  | (n, t) :: r, o => by
    unfold wFs
    rw [wFs_iff b r (o + 3)]
    constructor
    · rintro ⟨⟨h0, hn, ct, h1, h3⟩, h2⟩ i y hy
      cases i with
      | zero =>
        simp at hy; subst hy
        refine ⟨.string n :: ct, ⟨ct, rfl, hn, h1⟩, by simp [wT_len h1], fun j u hu => ?_⟩
        cases j with
        | zero => simp at hu; subst hu; simpa using h0
        | succ j => have := h3 j u (by simpa using hu); rw [show o + 0 * 3 + (j + 1) = o + 1 + j by omega]; exact this
      | succ i =>
        obtain ⟨cs, a1, a2, a3⟩ := h2 i y (by simpa using hy)
        exact ⟨cs, a1, a2, fun j u hu => by have := a3 j u hu; rw [show o + (i + 1) * 3 + j = o + 3 + i * 3 + j by omega]; exact this⟩
    · intro h
      refine ⟨?_, fun i y hy => ?_⟩
      · obtain ⟨cs, ⟨ct, rfl, hn, h1⟩, -, a3⟩ := h 0 (n, t) rfl
        refine ⟨by simpa using a3 0 (.string n) rfl, hn, ct, h1, fun j u hu => ?_⟩
        have := a3 (j + 1) u (by simpa using hu)
        rw [show o + 1 + j = o + 0 * 3 + (j + 1) by omega]; exact this
      · obtain ⟨cs, a1, a2, a3⟩ := h (i + 1) y (by simpa using hy)
        exact ⟨cs, a1, a2, fun j u hu => by have := a3 j u hu; rw [show o + 3 + i * 3 + j = o + (i + 1) * 3 + j by omega]; exact this⟩
theorem wT_iff (kind : Int) (fields : List Fld) (cs : List Value) : wT N w (.mk kind fields) cs ↔ ∃ vf, cs = [.int .i64 kind, vf] ∧ aO 3 wF N w vf fields := by
  unfold wT aO
  simp only [wFs_iff]
mutual
theorem wT_moves (hm : aQ N w N' w') : ∀ (t : Ty) (cs : List Value), wT N w t cs → wT N' w' t cs
  | .mk kind fields, cs, h => by
    unfold wT at h ⊢
    obtain ⟨vf, hc, a, c, h4, h5, h6, h7⟩ := h
    refine ⟨vf, hc, a, c, h4, h5, h6, fun hne => ?_⟩
    obtain ⟨b, o, ha, hb, hx⟩ := h7 hne
    have hlt : b < w.heap.size := by
      cases fields with
      | nil => exact absurd rfl hne
      | cons x r =>
        obtain ⟨n, t⟩ := x
        unfold wFs at hx
        exact jK hx.1.1
    exact ⟨b, o, ha, (hm b hb hlt).1, wFs_moves hm b hb hlt fields o hx⟩
theorem wFs_moves (hm : aQ N w N' w') (b : Nat) (hb : N b) (hlt : b < w.heap.size) : ∀ (l : List (ByteArray × Ty)) (o : Nat), wFs N w b o l → wFs N' w' b o l
  | [], _, _ => by unfold wFs; trivial
  | (n, t) :: r, o, h => by
    unfold wFs at h ⊢
    obtain ⟨⟨h0, hn, cs, h1, h3⟩, h4⟩ := h
    exact ⟨⟨(hm b hb hlt).2 _ _ h0, hn, cs, wT_moves hm t cs h1, fun j u hu => (hm b hb hlt).2 _ _ (h3 j u hu)⟩, wFs_moves hm b hb hlt r (o + 3) h4⟩
end
theorem wT_ok : fM wT := fun _ _ _ _ x cs hm h => wT_moves hm x cs h
theorem wF_ok : fM wF := fun _ _ _ _ x cs hm h => by
  obtain ⟨ct, h1, h2, h3⟩ := h
  exact ⟨ct, h1, h2, wT_moves hm _ _ h3⟩
end
/-- A function's twelve cells. -/
def wFn (N : Nat → Prop) (w : World) (f : Fnc) (cs : List Value) : Prop := ∃ vp k vf op n s m vn va, cs = [.string f.name, .bool f.pub, vp, .int .i64 k, vf, .int .i64 f.effects, .int .i64 op, .int .i64 n, .string s, .string m, vn, va] ∧ f.name.size ≤ 140737488355328 ∧ -9223372036854775808 ≤ f.effects ∧ f.effects ≤ 9223372036854775807 ∧
  aO 3 wF N w vp f.params ∧ wT N w f.result [.int .i64 k, vf] ∧ wX N w f.body [.int .i64 op, .int .i64 n, .string s, .string m, vn, va]
theorem wFn_ok : fM wFn := fun _ _ _ _ f cs hm h => by
  obtain ⟨vp, k, vf, op, n, s, m, vn, va, h1, h2, h6, h7, h3, h4, h5⟩ := h
  exact ⟨vp, k, vf, op, n, s, m, vn, va, h1, h2, h6, h7, h3.moves wF_ok hm (by decide), wT_ok _ _ _ _ _ _ hm h4, wX_ok _ _ _ _ _ _ hm h5⟩
/-- A module's nine cells. -/
def wM (N : Nat → Prop) (w : World) (m : Mdl) (cs : List Value) : Prop := ∃ vu vv vi vf vo vw vb, cs = [.string m.name, vu, vv, vi, vf, .bool m.moves, vo, vw, vb] ∧ m.name.size ≤ 140737488355328 ∧
  aO 1 iD N w vu m.uses ∧ aO 3 wF N w vv m.vars ∧ aO 6 wX N w vi m.init ∧ aO 12 wFn N w vf m.funcs ∧ aO 3 wF N w vo m.old ∧ aO 6 wX N w vw m.forward ∧ aO 6 wX N w vb m.back
theorem wM_ok : fM wM := fun _ _ _ _ f cs hm h => by
  obtain ⟨vu, vv, vi, vf, vo, vw, vb, h1, h2, h3, h4, h5, h6, h7, h8, h9⟩ := h
  exact ⟨vu, vv, vi, vf, vo, vw, vb, h1, h2, h3.moves bP hm (by decide), h4.moves wF_ok hm (by decide), h5.moves wX_ok hm (by decide), h6.moves wFn_ok hm (by decide), h7.moves wF_ok hm (by decide), h8.moves wX_ok hm (by decide), h9.moves wX_ok hm (by decide)⟩
theorem wX_form {N : Nat → Prop} {w : World} {x : Xp} {cs : List Value} (h : wX N w x cs) : ∃ (op n : Int) (s m : ByteArray) (a1 : Option Addr) (n1 c1 : Nat) (a2 : Option Addr) (n2 c2 : Nat), cs = [.int .i64 op, .int .i64 n, .string s, .string m, .slice a1 n1 c1, .slice a2 n2 c2] := by
  cases x with
  | mk op n s m names args =>
    rw [wX_iff] at h
    obtain ⟨v1, v2, e, -, -, h1, h2⟩ := h
    obtain ⟨a1, c1, rfl, -⟩ := h1.at
    obtain ⟨a2, c2, rfl, -⟩ := h2.at
    exact ⟨op, n, s, m, a1, _, c1, a2, _, c2, e⟩
theorem wT_form {N : Nat → Prop} {w : World} {t : Ty} {cs : List Value} (h : wT N w t cs) : ∃ (k : Int) (a : Option Addr) (n c : Nat), cs = [.int .i64 k, .slice a n c] := by
  cases t with
  | mk k fs =>
    rw [wT_iff] at h
    obtain ⟨vf, rfl, hr⟩ := h
    obtain ⟨a, c, rfl, -⟩ := hr.at
    exact ⟨k, a, _, c, rfl⟩

/-! What is small. -/
mutual
/-- The strings of an expression are short. -/
def shX : Xp → Prop
  | .mk _ _ s m _ args => s.size ≤ 30 ∧ m.size ≤ 30 ∧ shXs args
def shXs : List Xp → Prop
  | [] => True
  | x :: r => shX x ∧ shXs r
end
mutual
def shT : Ty → Prop
  | .mk _ fields => shFs fields
def shFs : List (ByteArray × Ty) → Prop
  | [] => True
  | (n, t) :: r => n.size ≤ 30 ∧ shT t ∧ shFs r
end
theorem shXs_iff : ∀ l : List Xp, shXs l ↔ ∀ x ∈ l, shX x
  | [] => by simp [shXs]
  | x :: r => by rw [shXs, shXs_iff r]; simp
theorem shFs_iff : ∀ l : List Fld, shFs l ↔ ∀ x ∈ l, x.1.size ≤ 30 ∧ shT x.2
  | [] => by simp [shFs]
  | (n, t) :: r => by rw [shFs, shFs_iff r]; simp [and_assoc]
mutual
theorem wX_enc {N : Nat → Prop} {w : World} : ∀ (x : Xp) (cs : List Value), wX N w x cs → shX x → bJ N w x cs
  | .mk op n s m names args, cs, h, hs => by
    unfold wX at h
    unfold shX at hs
    unfold bJ
    obtain ⟨vn, va, hc, h1, h2, h3, a, c, h4, h5, h6, h7⟩ := h
    exact ⟨vn, va, hc, by omega, by omega, h3, a, c, h4, h5, h6, fun hne => by
      obtain ⟨b, o, ha, hb, hx⟩ := h7 hne
      exact ⟨b, o, ha, hb, wXs_enc b args o hx hs.2.2⟩⟩
theorem wXs_enc {N : Nat → Prop} {w : World} (b : Nat) : ∀ (l : List Xp) (o : Nat), wXs N w b o l → shXs l → encXs N w b o l
  | [], _, _, _ => by unfold encXs; trivial
  | x :: r, o, h, hs => by
    unfold wXs at h
    unfold shXs at hs
    unfold encXs
    obtain ⟨⟨cs, h1, h2, h3⟩, h4⟩ := h
    exact ⟨⟨cs, wX_enc x cs h1 hs.1, h2, h3⟩, wXs_enc b r (o + 6) h4 hs.2⟩
end
mutual
theorem wT_enc {N : Nat → Prop} {w : World} : ∀ (t : Ty) (cs : List Value), wT N w t cs → shT t → gB N w t cs
  | .mk kind fields, cs, h, hs => by
    unfold wT at h
    unfold shT at hs
    unfold gB
    obtain ⟨vf, hc, a, c, h4, h5, h6, h7⟩ := h
    exact ⟨vf, hc, a, c, h4, h5, h6, fun hne => by
      obtain ⟨b, o, ha, hb, hx⟩ := h7 hne
      exact ⟨b, o, ha, hb, wFs_enc b fields o hx hs⟩⟩
theorem wFs_enc {N : Nat → Prop} {w : World} (b : Nat) : ∀ (l : List (ByteArray × Ty)) (o : Nat), wFs N w b o l → shFs l → encFs N w b o l
  | [], _, _, _ => by unfold encFs; trivial
  | (n, t) :: r, o, h, hs => by
    unfold wFs at h
    unfold shFs at hs
    unfold encFs
    obtain ⟨⟨h0, hn, cs, h1, h3⟩, h4⟩ := h
    exact ⟨⟨h0, by omega, cs, wT_enc t cs h1 hs.2.1, h3⟩, wFs_enc b r (o + 3) h4 hs.2.2⟩
end
theorem aO.same {α : Type} {k : Nat} {e1 e2 : (Nat → Prop) → World → α → List Value → Prop} {N : Nat → Prop} {w : World} {v : Value} {l : List α} (h : aO k e1 N w v l) (he : ∀ x ∈ l, ∀ cs, e1 N w x cs → e2 N w x cs) : aO k e2 N w v l := by
  obtain ⟨a, c, hv, h1, h2, h3⟩ := h
  refine ⟨a, c, hv, h1, h2, fun hne => ?_⟩
  obtain ⟨b, o, ha, hn, hc⟩ := h3 hne
  refine ⟨b, o, ha, hn, fun i x hx => ?_⟩
  obtain ⟨cs, e, hl, hj⟩ := hc i x hx
  exact ⟨cs, he x (List.mem_of_getElem? hx) cs e, hl, hj⟩
theorem wF_enc {N : Nat → Prop} {w : World} {x : Fld} {cs : List Value} (h : wF N w x cs) (hn : x.1.size ≤ 30) (ht : shT x.2) : fH N w x cs := by
  obtain ⟨ct, h1, -, h3⟩ := h
  exact ⟨ct, h1, by omega, wT_enc _ _ h3 ht⟩
theorem wFs_row {N : Nat → Prop} {w : World} {v : Value} {l : List Fld} (h : aO 3 wF N w v l) (hs : ∀ x ∈ l, x.1.size ≤ 30 ∧ shT x.2) : aO 3 fH N w v l := h.same fun x hx cs e => wF_enc e (hs x hx).1 (hs x hx).2
theorem wXs_row {N : Nat → Prop} {w : World} {v : Value} {l : List Xp} (h : aO 6 wX N w v l) (hs : ∀ x ∈ l, shX x) : aO 6 bJ N w v l := h.same fun x hx cs e => wX_enc x cs e (hs x hx)
/-- A small function. -/
def shFn (f : Fnc) : Prop := f.name.size ≤ 30 ∧ (∀ x ∈ f.params, x.1.size ≤ 30 ∧ shT x.2) ∧ shT f.result ∧ shX f.body
theorem wFn_enc {N : Nat → Prop} {w : World} {f : Fnc} {cs : List Value} (h : wFn N w f cs) (hs : shFn f) : iU N w f cs := by
  obtain ⟨vp, k, vf, op, n, s, m, vn, va, h1, h2, -, -, h3, h4, h5⟩ := h
  obtain ⟨s1, s2, s3, s4⟩ := hs
  exact ⟨vp, k, vf, op, n, s, m, vn, va, h1, by omega, wFs_row h3 s2, wT_enc _ _ h4 s3, wX_enc _ _ h5 s4⟩
theorem wFn_eff {N : Nat → Prop} {w : World} {f : Fnc} {cs : List Value} (h : wFn N w f cs) : -9223372036854775808 ≤ f.effects ∧ f.effects ≤ 9223372036854775807 := by
  obtain ⟨vp, k, vf, op, n, s, m, vn, va, h1, h2, h3, h4, -⟩ := h
  exact ⟨h3, h4⟩
/-- A small module. -/
structure shM (m : Mdl) : Prop where
  name : m.name.size ≤ 30
  funcs : ∀ f ∈ m.funcs, shFn f
  vars : ∀ x ∈ m.vars, x.1.size ≤ 30 ∧ shT x.2
  init : ∀ x ∈ m.init, shX x
  old : ∀ x ∈ m.old, x.1.size ≤ 30 ∧ shT x.2
  forward : ∀ x ∈ m.forward, shX x
  back : ∀ x ∈ m.back, shX x
theorem wM_enc {N : Nat → Prop} {w : World} {m : Mdl} {cs : List Value} (h : wM N w m cs) (hs : shM m) : encM N w m cs := by
  obtain ⟨vu, vv, vi, vf, vo, vw, vb, h1, h2, h3, h4, h5, h6, h7, h8, h9⟩ := h
  have hn := hs.name
  exact ⟨vu, vv, vi, vf, vo, vw, vb, h1, by omega, h3, wFs_row h4 hs.vars, wXs_row h5 hs.init, h6.same fun x hx cs e => wFn_enc e (hs.funcs x hx), wFs_row h7 hs.old, wXs_row h8 hs.forward, wXs_row h9 hs.back⟩
theorem aO.mem {α : Type} {k : Nat} {e : (Nat → Prop) → World → α → List Value → Prop} {N : Nat → Prop} {w : World} {v : Value} {l : List α} (h : aO k e N w v l) {x : α} (hx : x ∈ l) : ∃ cs, e N w x cs := by
  obtain ⟨a, c, -, -, -, h3⟩ := h
  obtain ⟨b, o, -, -, hc⟩ := h3 (fun e => by rw [e] at hx; cases hx)
  obtain ⟨i, hi⟩ := List.mem_iff_getElem?.1 hx
  obtain ⟨cs, e, -⟩ := hc i x hi
  exact ⟨cs, e⟩
theorem wM_eff {N : Nat → Prop} {w : World} {m : Mdl} {cs : List Value} (h : wM N w m cs) : ∀ f ∈ m.funcs, -9223372036854775808 ≤ f.effects ∧ f.effects ≤ 9223372036854775807 := by
  obtain ⟨vu, vv, vi, vf, vo, vw, vb, h1, h2, h3, h4, h5, h6, -⟩ := h
  intro f hf
  obtain ⟨cs, e⟩ := h6.mem hf
  exact wFn_eff e
end Go.Proofs.YtiionicikdnnpaaGreatDoor
