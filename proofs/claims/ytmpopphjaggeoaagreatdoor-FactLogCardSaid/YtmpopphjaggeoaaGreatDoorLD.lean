/- append to a list of the call's own, of a list that may be empty. -/
import Derived.Test.YtmpopphjaggeoaaGreatDoorKAN
import Derived.Test.YtmpopphjaggeoaaGreatDoorLA
import Derived.Test.YtmpopphjaggeoaaGreatDoorLB
import Derived.Test.YtmpopphjaggeoaaGreatDoorLC
import Derived.Deep.AppendLies
import Derived.Laws.AppendOwnNone
namespace Go.Proofs.YtmpopphjaggeoaaGreatDoor
open Go.RowKit

/-- What is appended: nothing, or cells that stand somewhere. -/
def Src (w : World) (src : Value) (m size : Nat) (news : List Value) : Prop :=
  (m = 0 ∧ news = [] ∧ ∃ ad c, src = .slice ad 0 c) ∨ (0 < m ∧ ∃ ad c, src = .slice (some ad) m c ∧ news.length = m * size ∧ (∀ j u, news[j]? = some u → w.cell? (ad.add j) = some u) ∧ ∀ u ∈ news, u.oneCell' = true)
theorem grown_self (w : World) (g : Option Nat) : w.grownBy w g := ⟨rfl, rfl, rfl, Nat.le_refl _, fun _ _ _ => rfl⟩
theorem wp_append_all {P : Program} {w : World} {o : Oper} {a : Act} {K : Act → World → Prop} {Q : Exit → Act → World → Prop} (s x : Operand) (t : TypeId)
    (ho : o.op = .call { callee := .builtin .append, args := #[s, x], argTypes := #[t, t] })
    (base : Nat) (e : TypeId) (i : TypeInfo) (z : Value) (size bytes : Nat) (ht : P.underlying t = some (.slice e)) (hi : P.info? e = some i) (hz : i.zero = some z)
    (hsize : i.size = size) (hby : i.bytes = bytes) (hzs : z.cells.size = size) (hsz : 0 < size)
    (g n cap : Nat) (xs : List Value) (hs : a.eval s = .slice (some ⟨g, 0, none⟩) n cap) (hown : w.ownsRow base e size (.slice (some ⟨g, 0, none⟩) n cap) n xs)
    (src : Value) (m : Nat) (news : List Value) (hx : a.eval x = src) (hsrc : Src w src m size news)
    (h63 : n + m ≤ maxLen) (hbytes : (n + m) * bytes ≤ 140737488355328) (hbase : base ≤ w.heap.size)
    (h : ∀ g' cap' w', w'.ownsRow base e size (.slice (some ⟨g', 0, none⟩) (n + m) cap') (n + m) (xs ++ news) → w.grownBy w' (some g) → g' < w'.heap.size → K (a.put o.dst (.slice (some ⟨g', 0, none⟩) (n + m) cap')) w') : o.wp P a w K Q := by
  rcases hsrc with ⟨rfl, rfl, ad, c, rfl⟩ | ⟨hm, ad, c, rfl, hl, hnews, h1⟩
  · rcases hown.2 with ⟨h0, -⟩ | ⟨g1, cap1, cur, e1, hg1, hg2, hnc, hrest⟩
    · cases h0
    cases e1
    have hlt : g < w.heap.size := (Array.getElem?_eq_some_iff.1 hg2).1
    cases ad with
    | none =>
      have hrun : (Builtin.append_ #[t, t] o.type #[.slice (some ⟨g, 0, none⟩) n cap, .slice none 0 c]).run P w = .ok (.slice (some ⟨g, 0, none⟩) n cap) w := by
        simp [Builtin.append_, run_underlying ht, sizeOf, typeInfo, hi, Builtin.lenOf, Builtin.firstCells, hnc, storeCells]
      unfold Oper.wp
      simp [execOp, ho, resolve, invoke, builtin, hs, hx, hrun, Result.andThen]
      exact h g cap w (by simpa using hown) (grown_self w _) hlt
    | some ad =>
      obtain ⟨w', hrun, hown', hgr⟩ := run_append_fits (P := P) w base t o.type e i size ht hi hsize g n cap xs hown ad 0 c [] (by simp) (by simp) (by simp) (by omega)
      unfold Oper.wp
      simp [execOp, ho, resolve, invoke, builtin, hs, hx, hrun, Result.andThen]
      exact h g cap w' (by simpa using hown') hgr (Nat.lt_of_lt_of_le hlt hgr.size)
  · exact wp_append_lies w s x t ho base e i z size bytes ht hi hz hsize hby hzs hsz _ n xs hs hown ad m c news hx hl hnews h1 hm h63 hbytes hbase _ rfl (fun g' cap' w' h2 h3 _ h5 => h g' cap' w' h2 h3 h5)
theorem wpList_append_all {P : Program} {w : World} {ops : Array Oper} {rest : List Oper} {o : Oper} {a : Act} {Q : Exit → Act → World → Prop} (hgd : o.guard = none) (s x : Operand) (t : TypeId)
    (ho : o.op = .call { callee := .builtin .append, args := #[s, x], argTypes := #[t, t] })
    (base : Nat) (e : TypeId) (i : TypeInfo) (z : Value) (size bytes : Nat) (ht : P.underlying t = some (.slice e)) (hi : P.info? e = some i) (hz : i.zero = some z)
    (hsize : i.size = size) (hby : i.bytes = bytes) (hzs : z.cells.size = size) (hsz : 0 < size)
    (g n cap : Nat) (xs : List Value) (hs : a.eval s = .slice (some ⟨g, 0, none⟩) n cap) (hown : w.ownsRow base e size (.slice (some ⟨g, 0, none⟩) n cap) n xs)
    (src : Value) (m : Nat) (news : List Value) (hx : a.eval x = src) (hsrc : Src w src m size news)
    (h63 : n + m ≤ maxLen) (hbytes : (n + m) * bytes ≤ 140737488355328) (hbase : base ≤ w.heap.size)
    (h : ∀ g' cap' w', w'.ownsRow base e size (.slice (some ⟨g', 0, none⟩) (n + m) cap') (n + m) (xs ++ news) → w.grownBy w' (some g) → g' < w'.heap.size → wpList P ops Q rest (a.put o.dst (.slice (some ⟨g', 0, none⟩) (n + m) cap')) w') : wpList P ops Q (o :: rest) a w :=
  wpList_plain hgd fun _ hK => wp_append_all s x t ho base e i z size bytes ht hi hz hsize hby hzs hsz g n cap xs hs hown src m news hx hsrc h63 hbytes hbase fun g' cap' w' h2 h3 h5 => hK _ _ (h g' cap' w' h2 h3 h5)
end Go.Proofs.YtmpopphjaggeoaaGreatDoor

/- Parts of slices, as something to be appended, and what comes of it. -/
namespace Go.Proofs.YtmpopphjaggeoaaGreatDoor
open Go.RowKit
set_option linter.unusedSimpArgs false
set_option linter.unusedVariables false

section
variable {α : Type} {k : Nat} {enc : (Nat → Prop) → World → α → List Value → Prop} {N : Nat → Prop} {w w' : World} {b o : Nat} {l : List α} {css : List (List Value)}
/-- The cells of a slice's elements. -/
def CssOf (k : Nat) (enc : (Nat → Prop) → World → α → List Value → Prop) (N : Nat → Prop) (w : World) (b o : Nat) (l : List α) (css : List (List Value)) : Prop :=
  css.length = l.length ∧ ∀ i x, l[i]? = some x → ∃ cs, css[i]? = some cs ∧ enc N w x cs ∧ cs.length = k ∧ ∀ j u, cs[j]? = some u → w.cell? ⟨b, o + i * k + j, none⟩ = some u
theorem aK.parts {c : Nat} (h : aK k enc N w (.slice (some ⟨b, o, none⟩) l.length c) l) : ∃ css, CssOf k enc N w b o l css := by
  obtain ⟨a, c', hv, h1, h2, h3⟩ := h
  cases hl : l with
  | nil => exact ⟨[], rfl, fun i x hx => by simp at hx⟩
  | cons y r =>
    rw [← hl]
    obtain ⟨b', o', ha, hn, hc⟩ := h3 (by rw [hl]; simp)
    rw [ha] at hv
    injection hv with hv
    injection hv with hv
    injection hv with e1 e2 e3
    subst e1 e2
    have each : ∀ i, i < l.length → ∃ cs, ∀ x, l[i]? = some x → enc N w x cs ∧ cs.length = k ∧ ∀ j u, cs[j]? = some u → w.cell? ⟨b, o + i * k + j, none⟩ = some u := fun i hi => by
      obtain ⟨cs, e, hl, hj⟩ := hc i _ (List.getElem?_eq_getElem hi)
      refine ⟨cs, fun x hx => ?_⟩
      rw [List.getElem?_eq_getElem hi] at hx
      cases hx
      exact ⟨e, hl, hj⟩
    refine ⟨(List.range l.length).map (fun i => if h : i < l.length then Classical.choose (each i h) else []), by simp, fun i x hx => ?_⟩
    have hi := (List.getElem?_eq_some_iff.1 hx).1
    refine ⟨Classical.choose (each i hi), by simp [List.getElem?_map, List.getElem?_range, hi], Classical.choose_spec (each i hi) x hx⟩
theorem CssOf.later (he : cF enc) (h : CssOf k enc N w b o l css) (hb : Below w.heap.size w w') : CssOf k enc N w' b o l css :=
  ⟨h.1, fun i x hx => by
    obtain ⟨cs, h1, h2, h3, h4⟩ := h.2 i x hx
    exact ⟨cs, h1, he _ _ _ _ _ _ (aM.later hb) h2, h3, fun j u hu => aD hb (h4 j u hu)⟩⟩
theorem CssOf.at_ (h : CssOf k enc N w b o l css) {i : Nat} {c : List Value} (hc : css[i]? = some c) : ∃ x, l[i]? = some x ∧ enc N w x c ∧ c.length = k ∧ ∀ j u, c[j]? = some u → w.cell? ⟨b, o + i * k + j, none⟩ = some u := by
  have hi := (List.getElem?_eq_some_iff.1 hc).1
  rw [h.1] at hi
  obtain ⟨cs, h1, h2, h3, h4⟩ := h.2 i _ (List.getElem?_eq_getElem hi)
  rw [hc] at h1
  cases h1
  exact ⟨_, List.getElem?_eq_getElem hi, h2, h3, h4⟩
theorem CssOf.ks (h : CssOf k enc N w b o l css) : ∀ c ∈ css, c.length = k := fun c hc => by
  obtain ⟨i, hi⟩ := List.mem_iff_getElem?.1 hc
  obtain ⟨x, -, -, h3, -⟩ := h.at_ hi
  exact h3
theorem flatten_len : ∀ {css : List (List Value)}, (∀ c ∈ css, c.length = k) → css.flatten.length = css.length * k
  | [], _ => by simp
  | c :: r, h => by
    rw [List.flatten_cons, List.length_append, flatten_len (fun c hc => h c (by simp [hc])), h c (by simp), List.length_cons, Nat.succ_mul, Nat.add_comm]
theorem CssOf.src (h : CssOf k enc N w b o l css) (hk : 0 < k) (hone : ∀ x cs, enc N w x cs → ∀ u ∈ cs, u.oneCell' = true) {f t : Nat} (hft : f ≤ t) (htl : t ≤ l.length) (pa : Option Addr) (hpa : f < t → pa = some ⟨b, o + f * k, none⟩) (c : Nat) :
    Src w (.slice pa (t - f) c) (t - f) k ((css.drop f).take (t - f)).flatten := by
  by_cases e : f = t
  · subst e
    exact .inl ⟨Nat.sub_self _, by simp, _, _, by rw [Nat.sub_self]⟩
  · have hlt : f < t := by omega
    rw [hpa hlt]
    have hks : ∀ c ∈ (css.drop f).take (t - f), c.length = k := fun c hc => h.ks c (List.mem_of_mem_drop (List.mem_of_mem_take hc))
    have hlen : ((css.drop f).take (t - f)).length = t - f := by simp [h.1]; omega
    have hat : ∀ i, i < t - f → ∃ cs, ((css.drop f).take (t - f))[i]? = some cs ∧ css[f + i]? = some cs := fun i hi => by
      have hi' : f + i < css.length := by rw [h.1]; omega
      refine ⟨_, ?_, List.getElem?_eq_getElem hi'⟩
      rw [List.getElem?_take, if_pos hi, List.getElem?_drop, List.getElem?_eq_getElem hi']
    refine .inr ⟨by omega, _, _, rfl, by rw [flatten_len hks, hlen], fun j u hu => ?_, fun u hu => ?_⟩
    · have hj : j < (t - f) * k := by
        have := (List.getElem?_eq_some_iff.1 hu).1
        rw [flatten_len hks, hlen] at this
        exact this
      have hi : j / k < t - f := Nat.div_lt_of_lt_mul (by rw [Nat.mul_comm]; exact hj)
      have hr : j % k < k := Nat.mod_lt _ hk
      have hjj : j / k * k + j % k = j := Nat.div_add_mod' j k
      obtain ⟨cs, h1, h2⟩ := hat _ hi
      have hf := gT _ hks (j / k) cs (j % k) h1 hr
      rw [hjj, hu] at hf
      obtain ⟨x, -, -, -, h5⟩ := h.at_ h2
      have h6 := h5 (j % k) u hf.symm
      rw [Addr.add_lit]
      rw [← h6]
      congr 2
      rw [Nat.add_mul]
      omega
    · obtain ⟨cs, hcs, hu2⟩ := List.mem_flatten.1 hu
      obtain ⟨i, hi⟩ := List.mem_iff_getElem?.1 (List.mem_of_mem_drop (List.mem_of_mem_take hcs))
      obtain ⟨x, -, h3, -, -⟩ := h.at_ hi
      exact hone x cs h3 u hu2
theorem aK.of_owns {T : TypeId} {B n : Nat} {v : Value} (h : w.ownsRow B T k v n css.flatten) (hn : n = l.length) (hlen : css.length = l.length) (hks : ∀ c ∈ css, c.length = k) (he : ∀ (i : Nat) (x : α) (c : List Value), l[i]? = some x → css[i]? = some c → enc (fun _ => True) w x c) :
    aK k enc (fun _ => True) w v l := by
  subst hn
  rcases h.2 with ⟨rfl, h0⟩ | ⟨g, cap, cur, rfl, hg, hgb, r1, r2, r3, r4⟩
  · have := List.eq_nil_of_length_eq_zero h0
    subst this
    exact aK.nil _ _ _ _
  · refine ⟨_, cap, rfl, r1, by unfold maxLen at r2; omega, fun _ => ⟨g, 0, rfl, trivial, fun i x hx => ?_⟩⟩
    have hi := (List.getElem?_eq_some_iff.1 hx).1
    obtain ⟨c, hc⟩ : ∃ c, css[i]? = some c := ⟨_, List.getElem?_eq_getElem (by rw [hlen]; exact hi)⟩
    have hck := hks c (List.mem_of_getElem? hc)
    refine ⟨c, he i x c hx hc, hck, fun j u hu => ?_⟩
    have hj : j < k := by rw [← hck]; exact (List.getElem?_eq_some_iff.1 hu).1
    have hlt : i * k + j < l.length * k := by
      have : (i + 1) * k ≤ l.length * k := Nat.mul_le_mul_right _ hi
      rw [Nat.succ_mul] at this; omega
    have := congrArg (fun t : List Value => t[i * k + j]?) r4
    simp only [List.getElem?_take, if_pos hlt, gT css hks i c j hc hj, hu] at this
    have h2 : cur[i * k + j]? = some u := by simpa using this
    simp [World.cell?, hgb, h2]
/-- Without a part in the middle. -/
theorem CssOf.cut (h : CssOf k enc N w b o l css) (f t : Nat) : ∀ (i : Nat) (x : α) (c : List Value), (l.take f ++ l.drop t)[i]? = some x → (css.take f ++ css.drop t)[i]? = some c → enc N w x c := fun i x c hx hc => by
  have hl := h.1
  by_cases hi : i < min f l.length
  · rw [List.getElem?_append_left (by simpa using hi), List.getElem?_take, if_pos (by omega)] at hx
    rw [List.getElem?_append_left (by rw [List.length_take, hl]; exact hi), List.getElem?_take, if_pos (by omega)] at hc
    obtain ⟨y, h1, h2, -⟩ := h.at_ hc
    rw [hx] at h1
    cases h1
    exact h2
  · rw [List.getElem?_append_right (by simpa using hi), List.getElem?_drop, List.length_take] at hx
    rw [List.getElem?_append_right (by rw [List.length_take, hl]; omega), List.getElem?_drop, List.length_take, hl] at hc
    obtain ⟨y, h1, h2, -⟩ := h.at_ hc
    rw [hx] at h1
    cases h1
    exact h2
theorem CssOf.less (he : cF enc) (h : CssOf k enc N w b o l css) {f B : Nat} (hf : f < l.length) {T : TypeId} {v : Value} {x : World} (hb : Below w.heap.size w x)
    (hown : x.ownsRow B T k v (f + (l.length - (f + 1))) ((css.take f).flatten ++ (css.drop (f + 1)).flatten)) : aK k enc (fun _ => True) x v (l.take f ++ l.drop (f + 1)) := by
  rw [← List.flatten_append] at hown
  refine aK.of_owns hown (by simp; omega) (by simp [h.1]) (fun c hc => ?_) (fun i y c hy hc => ?_)
  · rcases List.mem_append.1 hc with hc | hc
    · exact h.ks c (List.mem_of_mem_take hc)
    · exact h.ks c (List.mem_of_mem_drop hc)
  · exact he _ _ _ _ _ _ (fun b _ _ => ⟨trivial, fun o v h => aD hb h⟩) (h.cut f (f + 1) i y c hy hc)
theorem CssOf.one (he : cF enc) (h : CssOf k enc N w b o l css) {f c : Nat} {y : α} (hf : l[f]? = some y) (hc : 1 ≤ c) (hc2 : c ≤ 9223372036854775807) : aK k enc (fun _ => True) w (.slice (some ⟨b, o + f * k, none⟩) 1 c) [y] := by
  obtain ⟨cs, h1, h2, h3, h4⟩ := h.2 f y hf
  refine ⟨_, c, rfl, by simpa using hc, hc2, fun _ => ⟨b, o + f * k, rfl, trivial, fun i x hx => ?_⟩⟩
  cases i with
  | succ i => simp at hx
  | zero =>
    simp at hx
    subst hx
    exact ⟨cs, he _ _ _ _ _ _ (fun b _ _ => ⟨trivial, fun o v h => h⟩) h2, h3, fun j u hu => by rw [Nat.zero_mul, Nat.add_zero]; exact h4 j u hu⟩
end
theorem grown_newB {w before x : World} {g : Nat} (hb : Below w.heap.size w before) (hg : before.grownBy x (some g)) (hw : w.heap.size ≤ g) : Below w.heap.size w x :=
  ⟨hg.os.trans hb.os, hg.tape.trans hb.tape, hg.output.trans hb.output, by have := hg.size; have := hb.size; omega, fun j hj => (hg.block j (by have := hb.size; omega) (fun e => by cases e; omega)).trans (hb.block j hj)⟩
theorem oneCell_fn {N : Nat → Prop} {w : World} (f : Fnc) (cs : List Value) (h : encFn N w f cs) : ∀ u ∈ cs, u.oneCell' = true := by
  obtain ⟨vp, k, vf, op, n, s, m, vn, va, rfl, -, hp, ht, he⟩ := h
  obtain ⟨a1, c1, rfl, -⟩ := hp.at
  obtain ⟨kz, a2, l2, c2, ez⟩ := encT_form ht
  cases ez
  obtain ⟨oz, nz, sz, mz, a3, l3, c3, a4, l4, c4, ez⟩ := encX_form he
  cases ez
  simp [Value.oneCell']
theorem oneCell_tok {N : Nat → Prop} {w : World} (t : Tok) (cs : List Value) (h : encTok N w t cs) : ∀ u ∈ cs, u.oneCell' = true := by
  obtain ⟨rfl, -⟩ := h
  simp [tokCells, Value.oneCell']
end Go.Proofs.YtmpopphjaggeoaaGreatDoor

/- Walk: ladingref24.SameRelease at one release that is laid in two places (printed by gen_gdg.py). -/
namespace Go.Proofs.YtmpopphjaggeoaaGreatDoor
open Go.RowKit Go.Shelf
set_option linter.unusedSimpArgs false
set_option linter.unusedVariables false

set_option maxRecDepth 100000 in
set_option maxHeartbeats 64000000 in
theorem sameRelease_true (r : Rl) {N N' : Nat → Prop} {vn vf vp un uf up : Value} (w : World) (ha : RlV N w r vn vf vp) (hb : RlV N' w r un uf up) :
    Calls Tryz.prog 22 #[.agg (rlC r vn vf vp).toArray, .agg (rlC r un uf up).toArray] w fun e w' => e = .returned (.bool true) ∧ Below w.heap.size w w' := by
  obtain ⟨dn1, cn1, rfl, ln1a, ln1b, HN10⟩ := ha.needs.at
  have HN1 := Lib.hid HN10
  obtain ⟨df1, cf1, rfl, lf1a, lf1b, HF10⟩ := ha.feats.at
  have HF1 := Lib.hid HF10
  obtain ⟨dp1, cp1, rfl, -, -, -⟩ := ha.plats.at
  obtain ⟨dn2, cn2, rfl, ln2a, ln2b, HN20⟩ := hb.needs.at
  have HN2 := Lib.hid HN20
  obtain ⟨df2, cf2, rfl, lf2a, lf2b, HF20⟩ := hb.feats.at
  have HF2 := Lib.hid HF20
  obtain ⟨dp2, cp2, rfl, -, -, -⟩ := hb.plats.at
  have HPl : Hid (∀ W, Below w.heap.size w W → Calls Tryz.prog 62 #[.slice dp1 r.plats.length cp1, .slice dp2 r.plats.length cp2] W fun e w' => e = .returned (.bool true) ∧ Below W.heap.size W w') := Lib.hid (fun W hW => sameTexts_true r.plats W (ha.plats.moves aT (aM.later hW) (by decide)) (hb.plats.moves aT (aM.later hW) (by decide)))
  clear HN10 HN20 HF10 HF20 ha hb
  show Calls Tryz.prog 22 #[.agg #[.string r.name, .int .i64 r.ver.a, .int .i64 r.ver.b, .int .i64 r.ver.c, .string r.source, .slice dn1 r.needs.length cn1, .slice df1 r.feats.length cf1, .slice dp1 r.plats.length cp1, .string r.lic], .agg #[.string r.name, .int .i64 r.ver.a, .int .i64 r.ver.b, .int .i64 r.ver.c, .string r.source, .slice dn2 r.needs.length cn2, .slice df2 r.feats.length cf2, .slice dp2 r.plats.length cp2, .string r.lic]] w _
  have HB0 := Lib.hid (aA (aB w (.cells #[.string r.name, .int .i64 r.ver.a, .int .i64 r.ver.b, .int .i64 r.ver.c, .string r.source, .slice dn1 r.needs.length cn1, .slice df1 r.feats.length cf1, .slice dp1 r.plats.length cp1, .string r.lic] 28)) (aB (w.alloc (.cells #[.string r.name, .int .i64 r.ver.a, .int .i64 r.ver.b, .int .i64 r.ver.c, .string r.source, .slice dn1 r.needs.length cn1, .slice df1 r.feats.length cf1, .slice dp1 r.plats.length cp1, .string r.lic] 28)) (.cells #[.string r.name, .int .i64 r.ver.a, .int .i64 r.ver.b, .int .i64 r.ver.c, .string r.source, .slice dn2 r.needs.length cn2, .slice df2 r.feats.length cf2, .slice dp2 r.plats.length cp2, .string r.lic] 28)))
  have HX1 := Lib.hid (aC (aB (w.alloc (.cells #[.string r.name, .int .i64 r.ver.a, .int .i64 r.ver.b, .int .i64 r.ver.c, .string r.source, .slice dn1 r.needs.length cn1, .slice df1 r.feats.length cf1, .slice dp1 r.plats.length cp1, .string r.lic] 28)) (.cells #[.string r.name, .int .i64 r.ver.a, .int .i64 r.ver.b, .int .i64 r.ver.c, .string r.source, .slice dn2 r.needs.length cn2, .slice df2 r.feats.length cf2, .slice dp2 r.plats.length cp2, .string r.lic] 28)) (heap_alloc_new w (.cells #[.string r.name, .int .i64 r.ver.a, .int .i64 r.ver.b, .int .i64 r.ver.c, .string r.source, .slice dn1 r.needs.length cn1, .slice df1 r.feats.length cf1, .slice dp1 r.plats.length cp1, .string r.lic] 28)))
  have HX2z := heap_alloc_new (w.alloc (.cells #[.string r.name, .int .i64 r.ver.a, .int .i64 r.ver.b, .int .i64 r.ver.c, .string r.source, .slice dn1 r.needs.length cn1, .slice df1 r.feats.length cf1, .slice dp1 r.plats.length cp1, .string r.lic] 28)) (.cells #[.string r.name, .int .i64 r.ver.a, .int .i64 r.ver.b, .int .i64 r.ver.c, .string r.source, .slice dn2 r.needs.length cn2, .slice df2 r.feats.length cf2, .slice dp2 r.plats.length cp2, .string r.lic] 28)
  rw [show (w.alloc (.cells #[.string r.name, .int .i64 r.ver.a, .int .i64 r.ver.b, .int .i64 r.ver.c, .string r.source, .slice dn1 r.needs.length cn1, .slice df1 r.feats.length cf1, .slice dp1 r.plats.length cp1, .string r.lic] 28)).heap.size = w.heap.size + 1 by simp] at HX2z
  have HX2 := Lib.hid HX2z
  clear HX2z
  go_enter Tryz.func22, Tryz.ntmps22
  go_upto_region 1 with (fail)
  generalize (w.alloc (.cells #[.string r.name, .int .i64 r.ver.a, .int .i64 r.ver.b, .int .i64 r.ver.c, .string r.source, .slice dn1 r.needs.length cn1, .slice df1 r.feats.length cf1, .slice dp1 r.plats.length cp1, .string r.lic] 28)).alloc (.cells #[.string r.name, .int .i64 r.ver.a, .int .i64 r.ver.b, .int .i64 r.ver.c, .string r.source, .slice dn2 r.needs.length cn2, .slice df2 r.feats.length cf2, .slice dp2 r.plats.length cp2, .string r.lic] 28) = W0 at *
  obtain ⟨y0, y1, y2, y3, y4, y5, y6, y7, y8⟩ := cf9 HX1.out
  obtain ⟨z0, z1, z2, z3, z4, z5, z6, z7, z8⟩ := cf9 HX2.out
  have hveq := fun W => neqVer r.ver r.ver W
  rw [decide_eq_true (rfl : r.ver = r.ver)] at hveq
  go_wp2_with fail
  go_at_call 62
  refine (HPl.out _ HB0.out).mono ?_
  rintro e w1 ⟨rfl, hb⟩
  have HB1 := Lib.hid hb
  clear hb hveq HPl y0 y1 y2 y3 y4 y5 y6 y7 y8 z0 z1 z2 z3 z4 z5 z6 z7 z8
  go_wp2_with fail
  go_loopw [5] (fun iv wr => ∃ q : Nat, q ≤ r.needs.length ∧ iv = .int .i64 (q : Int) ∧ Hid (Below W0.heap.size W0 wr)) (fun iv _ => r.needs.length - (intOf iv).toNat)
  case atStart => exact ⟨0, Nat.zero_le _, rfl, HB1⟩
  case round =>
    obtain ⟨q, hq, rfl, HW⟩ := hrel
    rename World => wr
    obtain ⟨y0, y1, y2, y3, y4, y5, y6, y7, y8⟩ := cf9 (aC HW.out HX1.out)
    obtain ⟨z0, z1, z2, z3, z4, z5, z6, z7, z8⟩ := cf9 (aC HW.out HX2.out)
    by_cases hlt : q < r.needs.length
    · obtain ⟨x, hx, -⟩ := getElem?_of_lt hlt
      have hq0 : (0 : Int) ≤ (q : Int) ∧ (q : Int) < (r.needs.length : Int) := by omega
      have HWw := Lib.hid (aA HB0.out HW.out)
      obtain ⟨b1, o1, rfl, -, cs1, ⟨vr1, vg1, rfl, -, -, hr1, hg1⟩, -, j1⟩ := HN1.out q x hx
      obtain ⟨ra1, rc1, rfl, -⟩ := id hr1
      obtain ⟨fa1, fc1, rfl, -⟩ := id hg1
      have p0 : wr.cell? ⟨b1, o1 + q * 5, none⟩ = some (.string x.name) := aD HWw.out (j1 0 _ rfl)
      have p1 := aD HWw.out (j1 1 _ rfl)
      have p2 := aD HWw.out (j1 2 _ rfl)
      have p3 := aD HWw.out (j1 3 _ rfl)
      have p4 := aD HWw.out (j1 4 _ rfl)
      obtain ⟨b2, o2, rfl, -, cs2, ⟨vr2, vg2, rfl, -, -, hr2, hg2⟩, -, j2⟩ := HN2.out q x hx
      obtain ⟨ra2, rc2, rfl, -⟩ := id hr2
      obtain ⟨fa2, fc2, rfl, -⟩ := id hg2
      have s0 : wr.cell? ⟨b2, o2 + q * 5, none⟩ = some (.string x.name) := aD HWw.out (j2 0 _ rfl)
      have s1 := aD HWw.out (j2 1 _ rfl)
      have s2 := aD HWw.out (j2 2 _ rfl)
      have s3 := aD HWw.out (j2 3 _ rfl)
      have s4 := aD HWw.out (j2 4 _ rfl)
      have HRn : Hid (∀ W, Below w.heap.size w W → Calls Tryz.prog 54 #[.slice ra1 x.ranges.length rc1, .slice ra2 x.ranges.length rc2] W fun e w' => e = .returned (.bool true) ∧ Below W.heap.size W w') := Lib.hid (fun W hW => sameRanges_true x.ranges W (hr1.moves aS (aM.later hW) (by decide)) (hr2.moves aS (aM.later hW) (by decide)))
      have HTx : Hid (∀ W, Below w.heap.size w W → Calls Tryz.prog 62 #[.slice fa1 x.feats.length fc1, .slice fa2 x.feats.length fc2] W fun e w' => e = .returned (.bool true) ∧ Below W.heap.size W w') := Lib.hid (fun W hW => sameTexts_true x.feats W (hg1.moves aT (aM.later hW) (by decide)) (hg2.moves aT (aM.later hW) (by decide)))
      clear j1 j2 hr1 hr2 hg1 hg2 hx
      have HNw := Lib.hid (heap_alloc_new wr (.cells #[.string ⟨#[]⟩, .slice none 0 0, .int .i64 0, .string ⟨#[]⟩, .slice none 0 0] 71))
      have HBn : Hid (Below wr.heap.size wr ((wr.alloc (.cells #[.string ⟨#[]⟩, .slice none 0 0, .int .i64 0, .string ⟨#[]⟩, .slice none 0 0] 71)).setRow wr.heap.size #[.string x.name, .slice ra1 x.ranges.length rc1, .int .i64 x.kind, .string x.whn, .slice fa1 x.feats.length fc1])) := Lib.hid (below_setRow (aB wr _) (Nat.le_refl _) _)
      have HXn : Hid (((wr.alloc (.cells #[.string ⟨#[]⟩, .slice none 0 0, .int .i64 0, .string ⟨#[]⟩, .slice none 0 0] 71)).setRow wr.heap.size #[.string x.name, .slice ra1 x.ranges.length rc1, .int .i64 x.kind, .string x.whn, .slice fa1 x.feats.length fc1]).heap[wr.heap.size]? = some (.cells #[.string x.name, .slice ra1 x.ranges.length rc1, .int .i64 x.kind, .string x.whn, .slice fa1 x.feats.length fc1] 71)) := Lib.hid (setRow_heap _ _ _ _ _ _ HNw.out)
      go_upto_region 7 with (refine wpList_store_rowTo rfl 71 (.tmp 6) (.tmp 72) rfl rfl wr.heap.size #[.string x.name, .slice ra1 x.ranges.length rc1, .int .i64 x.kind, .string x.whn, .slice fa1 x.feats.length fc1] rfl rfl 71 #[.string ⟨#[]⟩, .slice none 0 0, .int .i64 0, .string ⟨#[]⟩, .slice none 0 0] ?hg (by kernel_rfl) (by rfl) (by simp [Value.oneCell']) ?_; (case hg => exact HNw.out))
      try simp only [Act.put, List.getElem_toArray, List.getElem_cons_zero, List.getElem_cons_succ, List.setIfInBounds_toArray, List.set_cons_zero, List.set_cons_succ]
      clear HNw
      generalize ((wr.alloc (.cells #[.string ⟨#[]⟩, .slice none 0 0, .int .i64 0, .string ⟨#[]⟩, .slice none 0 0] 71)).setRow wr.heap.size #[.string x.name, .slice ra1 x.ranges.length rc1, .int .i64 x.kind, .string x.whn, .slice fa1 x.feats.length fc1]) = wa at *
      have HXa := Lib.hid HXn.out
      have HBa := Lib.hid (aA HW.out HBn.out)
      have HBb := Lib.hid HBn.out
      clear HXn HBn
      replace s0 := aD HBb.out s0
      replace s1 := aD HBb.out s1
      replace s2 := aD HBb.out s2
      replace s3 := aD HBb.out s3
      replace s4 := aD HBb.out s4
      clear y0 y1 y2 y3 y4 y5 y6 y7 y8 z0 z1 z2 z3 z4 z5 z6 z7 z8
      obtain ⟨y0, y1, y2, y3, y4, y5, y6, y7, y8⟩ := cf9 (aC HBa.out HX1.out)
      obtain ⟨z0, z1, z2, z3, z4, z5, z6, z7, z8⟩ := cf9 (aC HBa.out HX2.out)
      clear p0 p1 p2 p3 p4
      have HNw := Lib.hid (heap_alloc_new wa (.cells #[.string ⟨#[]⟩, .slice none 0 0, .int .i64 0, .string ⟨#[]⟩, .slice none 0 0] 71))
      have HBn : Hid (Below wa.heap.size wa ((wa.alloc (.cells #[.string ⟨#[]⟩, .slice none 0 0, .int .i64 0, .string ⟨#[]⟩, .slice none 0 0] 71)).setRow wa.heap.size #[.string x.name, .slice ra2 x.ranges.length rc2, .int .i64 x.kind, .string x.whn, .slice fa2 x.feats.length fc2])) := Lib.hid (below_setRow (aB wa _) (Nat.le_refl _) _)
      have HXn : Hid (((wa.alloc (.cells #[.string ⟨#[]⟩, .slice none 0 0, .int .i64 0, .string ⟨#[]⟩, .slice none 0 0] 71)).setRow wa.heap.size #[.string x.name, .slice ra2 x.ranges.length rc2, .int .i64 x.kind, .string x.whn, .slice fa2 x.feats.length fc2]).heap[wa.heap.size]? = some (.cells #[.string x.name, .slice ra2 x.ranges.length rc2, .int .i64 x.kind, .string x.whn, .slice fa2 x.feats.length fc2] 71)) := Lib.hid (setRow_heap _ _ _ _ _ _ HNw.out)
      go_upto_region 8 with (refine wpList_store_rowTo rfl 71 (.tmp 7) (.tmp 77) rfl rfl wa.heap.size #[.string x.name, .slice ra2 x.ranges.length rc2, .int .i64 x.kind, .string x.whn, .slice fa2 x.feats.length fc2] rfl rfl 71 #[.string ⟨#[]⟩, .slice none 0 0, .int .i64 0, .string ⟨#[]⟩, .slice none 0 0] ?hg (by kernel_rfl) (by rfl) (by simp [Value.oneCell']) ?_; (case hg => exact HNw.out))
      try simp only [Act.put, List.getElem_toArray, List.getElem_cons_zero, List.getElem_cons_succ, List.setIfInBounds_toArray, List.set_cons_zero, List.set_cons_succ]
      clear HNw
      generalize ((wa.alloc (.cells #[.string ⟨#[]⟩, .slice none 0 0, .int .i64 0, .string ⟨#[]⟩, .slice none 0 0] 71)).setRow wa.heap.size #[.string x.name, .slice ra2 x.ranges.length rc2, .int .i64 x.kind, .string x.whn, .slice fa2 x.feats.length fc2]) = wb at *
      have HXb := Lib.hid HXn.out
      have HXa2 := Lib.hid (aC HBn.out HXa.out)
      have HBc := Lib.hid (aA HBa.out HBn.out)
      clear HXn HBn HBa HBb HXa s0 s1 s2 s3 s4 y0 y1 y2 y3 y4 y5 y6 y7 y8 z0 z1 z2 z3 z4 z5 z6 z7 z8
      have HBw := Lib.hid (aA HB0.out HBc.out)
      obtain ⟨k0, k1, k2, k3, k4⟩ := cf5 HXa2.out
      obtain ⟨m0, m1, m2, m3, m4⟩ := cf5 HXb.out
      go_wp2_with fail
      go_at_call 54
      refine (HRn.out _ HBw.out).mono ?_
      rintro e w5 ⟨rfl, hb⟩
      have HB5 := Lib.hid (aA HBc.out hb)
      have HBw5 := Lib.hid (aA HBw.out hb)
      clear k0 k1 k2 k3 k4 m0 m1 m2 m3 m4
      obtain ⟨k0, k1, k2, k3, k4⟩ := cf5 (aC hb HXa2.out)
      obtain ⟨m0, m1, m2, m3, m4⟩ := cf5 (aC hb HXb.out)
      clear hb
      go_wp2_with fail
      go_at_call 62
      refine (HTx.out _ HBw5.out).mono ?_
      rintro e w6 ⟨rfl, hb⟩
      have HB6 := Lib.hid (aA HB5.out hb)
      clear hb k0 k1 k2 k3 k4 m0 m1 m2 m3 m4
      go_wp2_with fail
      go_roundw
      case rel => exact ⟨q + 1, by omega, by go_num, HB6⟩
      case measure => simp [intOf] <;> omega
    · go_wp2_with fail
      have HW1 := Lib.hid HW.out
      clear HW hlt hq y0 y1 y2 y3 y4 y5 y6 y7 y8 z0 z1 z2 z3 z4 z5 z6 z7 z8
      go_loopw [8] (fun iv wv => ∃ q : Nat, q ≤ r.feats.length ∧ iv = .int .i64 (q : Int) ∧ Hid (Below W0.heap.size W0 wv)) (fun iv _ => r.feats.length - (intOf iv).toNat)
      case atStart => exact ⟨0, Nat.zero_le _, rfl, HW1⟩
      case round =>
        obtain ⟨q, hq, rfl, HW⟩ := hrel
        rename World => wv
        obtain ⟨y0, y1, y2, y3, y4, y5, y6, y7, y8⟩ := cf9 (aC HW.out HX1.out)
        obtain ⟨z0, z1, z2, z3, z4, z5, z6, z7, z8⟩ := cf9 (aC HW.out HX2.out)
        by_cases hlt : q < r.feats.length
        · obtain ⟨x, hx, -⟩ := getElem?_of_lt hlt
          have hq0 : (0 : Int) ≤ (q : Int) ∧ (q : Int) < (r.feats.length : Int) := by omega
          have HWw := Lib.hid (aA HB0.out HW.out)
          obtain ⟨b1, o1, rfl, -, cs1, ⟨vi1, rfl, -, hi1⟩, -, j1⟩ := HF1.out q x hx
          obtain ⟨ia1, ic1, rfl, -⟩ := id hi1
          have p0 : wv.cell? ⟨b1, o1 + q * 2, none⟩ = some (.string x.name) := aD HWw.out (j1 0 _ rfl)
          have p1 := aD HWw.out (j1 1 _ rfl)
          obtain ⟨b2, o2, rfl, -, cs2, ⟨vi2, rfl, -, hi2⟩, -, j2⟩ := HF2.out q x hx
          obtain ⟨ia2, ic2, rfl, -⟩ := id hi2
          have s0 : wv.cell? ⟨b2, o2 + q * 2, none⟩ = some (.string x.name) := aD HWw.out (j2 0 _ rfl)
          have s1 := aD HWw.out (j2 1 _ rfl)
          have HTx : Hid (∀ W, Below w.heap.size w W → Calls Tryz.prog 62 #[.slice ia1 x.implies.length ic1, .slice ia2 x.implies.length ic2] W fun e w' => e = .returned (.bool true) ∧ Below W.heap.size W w') := Lib.hid (fun W hW => sameTexts_true x.implies W (hi1.moves aT (aM.later hW) (by decide)) (hi2.moves aT (aM.later hW) (by decide)))
          clear j1 j2 hi1 hi2 hx
          go_wp2_with fail
          refine wp_region_held_drew (S := fun W => Below wv.heap.size wv W) (by kernel_rfl) (aL wv) fun hS => ?_
          refine wpAnyH_take (i := 0) (v := .pointer (some ⟨w.heap.size, 6, none⟩)) rfl (by kernel_rfl) (by kernel_rfl) (by kernel_rfl) (fun _ _ _ h => h) (Or.inl ⟨by kernel_rfl, fun W hW => by go_simp⟩) hS ?_
          try simp only [Act.put, List.getElem_toArray, List.getElem_cons_zero, List.getElem_cons_succ, List.setIfInBounds_toArray, List.set_cons_zero, List.set_cons_succ]
          refine wpAnyH_take (i := 1) (v := .slice (some ⟨b1, o1, none⟩) r.feats.length cf1) rfl (by kernel_rfl) (by kernel_rfl) (by kernel_rfl) (fun _ _ _ h => h) (Or.inl ⟨by kernel_rfl, fun W hW => by have y6 := aD hW y6; go_simp⟩) hS ?_
          try simp only [Act.put, List.getElem_toArray, List.getElem_cons_zero, List.getElem_cons_succ, List.setIfInBounds_toArray, List.set_cons_zero, List.set_cons_succ]
          refine wpAnyH_take (i := 2) (v := .int .i64 (q : Int)) rfl (by kernel_rfl) (by kernel_rfl) (by kernel_rfl) (fun _ _ _ h => h) (Or.inl ⟨by kernel_rfl, fun W hW => by go_simp⟩) hS ?_
          try simp only [Act.put, List.getElem_toArray, List.getElem_cons_zero, List.getElem_cons_succ, List.setIfInBounds_toArray, List.set_cons_zero, List.set_cons_succ]
          refine wpAnyH_take (i := 3) (v := .pointer (some ⟨b1, o1 + q * 2, none⟩)) rfl (by kernel_rfl) (by kernel_rfl) (by kernel_rfl) (fun _ _ _ h => h) (Or.inl ⟨by kernel_rfl, fun W hW => by go_simp⟩) hS ?_
          try simp only [Act.put, List.getElem_toArray, List.getElem_cons_zero, List.getElem_cons_succ, List.setIfInBounds_toArray, List.set_cons_zero, List.set_cons_succ]
          refine wpAnyH_take (i := 4) (v := .pointer (some ⟨b1, o1 + q * 2, none⟩)) rfl (by kernel_rfl) (by kernel_rfl) (by kernel_rfl) (fun _ _ _ h => h) (Or.inl ⟨by kernel_rfl, fun W hW => by go_simp⟩) hS ?_
          try simp only [Act.put, List.getElem_toArray, List.getElem_cons_zero, List.getElem_cons_succ, List.setIfInBounds_toArray, List.set_cons_zero, List.set_cons_succ]
          refine wpAnyH_take (i := 5) (v := .string x.name) rfl (by kernel_rfl) (by kernel_rfl) (by kernel_rfl) (fun _ _ _ h => h) (Or.inl ⟨by kernel_rfl, fun W hW => by have p0 := aD hW p0; go_simp⟩) hS ?_
          try simp only [Act.put, List.getElem_toArray, List.getElem_cons_zero, List.getElem_cons_succ, List.setIfInBounds_toArray, List.set_cons_zero, List.set_cons_succ]
          refine wpAnyH_take (i := 6) (v := .pointer (some ⟨w.heap.size + 1, 6, none⟩)) rfl (by kernel_rfl) (by kernel_rfl) (by kernel_rfl) (fun _ _ _ h => h) (Or.inl ⟨by kernel_rfl, fun W hW => by go_simp⟩) hS ?_
          try simp only [Act.put, List.getElem_toArray, List.getElem_cons_zero, List.getElem_cons_succ, List.setIfInBounds_toArray, List.set_cons_zero, List.set_cons_succ]
          refine wpAnyH_take (i := 7) (v := .slice (some ⟨b2, o2, none⟩) r.feats.length cf2) rfl (by kernel_rfl) (by kernel_rfl) (by kernel_rfl) (fun _ _ _ h => h) (Or.inl ⟨by kernel_rfl, fun W hW => by have z6 := aD hW z6; go_simp⟩) hS ?_
          try simp only [Act.put, List.getElem_toArray, List.getElem_cons_zero, List.getElem_cons_succ, List.setIfInBounds_toArray, List.set_cons_zero, List.set_cons_succ]
          refine wpAnyH_take (i := 8) (v := .int .i64 (q : Int)) rfl (by kernel_rfl) (by kernel_rfl) (by kernel_rfl) (fun _ _ _ h => h) (Or.inl ⟨by kernel_rfl, fun W hW => by go_simp⟩) hS ?_
          try simp only [Act.put, List.getElem_toArray, List.getElem_cons_zero, List.getElem_cons_succ, List.setIfInBounds_toArray, List.set_cons_zero, List.set_cons_succ]
          refine wpAnyH_take (i := 9) (v := .pointer (some ⟨b2, o2 + q * 2, none⟩)) rfl (by kernel_rfl) (by kernel_rfl) (by kernel_rfl) (fun _ _ _ h => h) (Or.inl ⟨by kernel_rfl, fun W hW => by go_simp⟩) hS ?_
          try simp only [Act.put, List.getElem_toArray, List.getElem_cons_zero, List.getElem_cons_succ, List.setIfInBounds_toArray, List.set_cons_zero, List.set_cons_succ]
          refine wpAnyH_take (i := 10) (v := .pointer (some ⟨b2, o2 + q * 2, none⟩)) rfl (by kernel_rfl) (by kernel_rfl) (by kernel_rfl) (fun _ _ _ h => h) (Or.inl ⟨by kernel_rfl, fun W hW => by go_simp⟩) hS ?_
          try simp only [Act.put, List.getElem_toArray, List.getElem_cons_zero, List.getElem_cons_succ, List.setIfInBounds_toArray, List.set_cons_zero, List.set_cons_succ]
          refine wpAnyH_take (i := 11) (v := .string x.name) rfl (by kernel_rfl) (by kernel_rfl) (by kernel_rfl) (fun _ _ _ h => h) (Or.inl ⟨by kernel_rfl, fun W hW => by have s0 := aD hW s0; go_simp⟩) hS ?_
          try simp only [Act.put, List.getElem_toArray, List.getElem_cons_zero, List.getElem_cons_succ, List.setIfInBounds_toArray, List.set_cons_zero, List.set_cons_succ]
          refine wpAnyH_take (i := 12) (v := .bool false) rfl (by kernel_rfl) (by kernel_rfl) (by kernel_rfl) (fun _ _ _ h => h) (Or.inl ⟨by kernel_rfl, fun W hW => by go_simp⟩) hS ?_
          try simp only [Act.put, List.getElem_toArray, List.getElem_cons_zero, List.getElem_cons_succ, List.setIfInBounds_toArray, List.set_cons_zero, List.set_cons_succ]
          refine wpAnyH_take (i := 13) (v := .bool false) rfl (by kernel_rfl) (by kernel_rfl) (by kernel_rfl) (fun _ _ _ h => h) (Or.inl ⟨by kernel_rfl, fun W hW => by go_simp⟩) hS ?_
          try simp only [Act.put, List.getElem_toArray, List.getElem_cons_zero, List.getElem_cons_succ, List.setIfInBounds_toArray, List.set_cons_zero, List.set_cons_succ]
          refine wpAnyH_take (i := 14) (v := .pointer (some ⟨w.heap.size, 6, none⟩)) rfl (by kernel_rfl) (by kernel_rfl) (by kernel_rfl) (fun _ _ _ h => h) (Or.inl ⟨by kernel_rfl, fun W hW => by go_simp⟩) hS ?_
          try simp only [Act.put, List.getElem_toArray, List.getElem_cons_zero, List.getElem_cons_succ, List.setIfInBounds_toArray, List.set_cons_zero, List.set_cons_succ]
          refine wpAnyH_take (i := 15) (v := .slice (some ⟨b1, o1, none⟩) r.feats.length cf1) rfl (by kernel_rfl) (by kernel_rfl) (by kernel_rfl) (fun _ _ _ h => h) (Or.inl ⟨by kernel_rfl, fun W hW => by have y6 := aD hW y6; go_simp⟩) hS ?_
          try simp only [Act.put, List.getElem_toArray, List.getElem_cons_zero, List.getElem_cons_succ, List.setIfInBounds_toArray, List.set_cons_zero, List.set_cons_succ]
          refine wpAnyH_take (i := 16) (v := .int .i64 (q : Int)) rfl (by kernel_rfl) (by kernel_rfl) (by kernel_rfl) (fun _ _ _ h => h) (Or.inl ⟨by kernel_rfl, fun W hW => by go_simp⟩) hS ?_
          try simp only [Act.put, List.getElem_toArray, List.getElem_cons_zero, List.getElem_cons_succ, List.setIfInBounds_toArray, List.set_cons_zero, List.set_cons_succ]
          refine wpAnyH_take (i := 17) (v := .pointer (some ⟨b1, o1 + q * 2, none⟩)) rfl (by kernel_rfl) (by kernel_rfl) (by kernel_rfl) (fun _ _ _ h => h) (Or.inl ⟨by kernel_rfl, fun W hW => by go_simp⟩) hS ?_
          try simp only [Act.put, List.getElem_toArray, List.getElem_cons_zero, List.getElem_cons_succ, List.setIfInBounds_toArray, List.set_cons_zero, List.set_cons_succ]
          refine wpAnyH_take (i := 18) (v := .pointer (some ⟨b1, o1 + q * 2 + 1, none⟩)) rfl (by kernel_rfl) (by kernel_rfl) (by kernel_rfl) (fun _ _ _ h => h) (Or.inl ⟨by kernel_rfl, fun W hW => by go_simp⟩) hS ?_
          try simp only [Act.put, List.getElem_toArray, List.getElem_cons_zero, List.getElem_cons_succ, List.setIfInBounds_toArray, List.set_cons_zero, List.set_cons_succ]
          refine wpAnyH_take (i := 19) (v := .slice ia1 x.implies.length ic1) rfl (by kernel_rfl) (by kernel_rfl) (by kernel_rfl) (fun _ _ _ h => h) (Or.inl ⟨by kernel_rfl, fun W hW => by have p1 := aD hW p1; go_simp⟩) hS ?_
          try simp only [Act.put, List.getElem_toArray, List.getElem_cons_zero, List.getElem_cons_succ, List.setIfInBounds_toArray, List.set_cons_zero, List.set_cons_succ]
          refine wpAnyH_take (i := 20) (v := .pointer (some ⟨w.heap.size + 1, 6, none⟩)) rfl (by kernel_rfl) (by kernel_rfl) (by kernel_rfl) (fun _ _ _ h => h) (Or.inl ⟨by kernel_rfl, fun W hW => by go_simp⟩) hS ?_
          try simp only [Act.put, List.getElem_toArray, List.getElem_cons_zero, List.getElem_cons_succ, List.setIfInBounds_toArray, List.set_cons_zero, List.set_cons_succ]
          refine wpAnyH_take (i := 21) (v := .slice (some ⟨b2, o2, none⟩) r.feats.length cf2) rfl (by kernel_rfl) (by kernel_rfl) (by kernel_rfl) (fun _ _ _ h => h) (Or.inl ⟨by kernel_rfl, fun W hW => by have z6 := aD hW z6; go_simp⟩) hS ?_
          try simp only [Act.put, List.getElem_toArray, List.getElem_cons_zero, List.getElem_cons_succ, List.setIfInBounds_toArray, List.set_cons_zero, List.set_cons_succ]
          refine wpAnyH_take (i := 22) (v := .int .i64 (q : Int)) rfl (by kernel_rfl) (by kernel_rfl) (by kernel_rfl) (fun _ _ _ h => h) (Or.inl ⟨by kernel_rfl, fun W hW => by go_simp⟩) hS ?_
          try simp only [Act.put, List.getElem_toArray, List.getElem_cons_zero, List.getElem_cons_succ, List.setIfInBounds_toArray, List.set_cons_zero, List.set_cons_succ]
          refine wpAnyH_take (i := 23) (v := .pointer (some ⟨b2, o2 + q * 2, none⟩)) rfl (by kernel_rfl) (by kernel_rfl) (by kernel_rfl) (fun _ _ _ h => h) (Or.inl ⟨by kernel_rfl, fun W hW => by go_simp⟩) hS ?_
          try simp only [Act.put, List.getElem_toArray, List.getElem_cons_zero, List.getElem_cons_succ, List.setIfInBounds_toArray, List.set_cons_zero, List.set_cons_succ]
          refine wpAnyH_take (i := 24) (v := .pointer (some ⟨b2, o2 + q * 2 + 1, none⟩)) rfl (by kernel_rfl) (by kernel_rfl) (by kernel_rfl) (fun _ _ _ h => h) (Or.inl ⟨by kernel_rfl, fun W hW => by go_simp⟩) hS ?_
          try simp only [Act.put, List.getElem_toArray, List.getElem_cons_zero, List.getElem_cons_succ, List.setIfInBounds_toArray, List.set_cons_zero, List.set_cons_succ]
          refine wpAnyH_take (i := 25) (v := .slice ia2 x.implies.length ic2) rfl (by kernel_rfl) (by kernel_rfl) (by kernel_rfl) (fun _ _ _ h => h) (Or.inl ⟨by kernel_rfl, fun W hW => by have s1 := aD hW s1; go_simp⟩) hS ?_
          try simp only [Act.put, List.getElem_toArray, List.getElem_cons_zero, List.getElem_cons_succ, List.setIfInBounds_toArray, List.set_cons_zero, List.set_cons_succ]
          refine wpAnyH_ready (rs := [26]) (by kernel_rfl) (by simp) ?_
          refine AllReadyH.cons rfl (fun K hK => ?_) AllReadyH.nil
          rw [if_pos (by kernel_rfl)]
          try simp only [List.getElem_toArray, List.getElem_cons_zero, List.getElem_cons_succ]
          go_simp
          have hpre := aL wv
          refine (HTx.out _ (aA HWw.out hpre)).mono ?_
          rintro e c1 ⟨rfl, hc'⟩
          have hc1 := aA hpre hc'
          clear hpre hc'
          refine hK.out _ _ hc1 (fun hS => ?_)
          clear hK K
          try simp only [Act.put, List.getElem_toArray, List.getElem_cons_zero, List.getElem_cons_succ, List.setIfInBounds_toArray, List.set_cons_zero, List.set_cons_succ]
          refine wpAnyH_take (i := 27) (v := .bool false) rfl (by kernel_rfl) (by kernel_rfl) (by kernel_rfl) (fun _ _ _ h => h) (Or.inl ⟨by kernel_rfl, fun W hW => by go_simp⟩) hS ?_
          try simp only [Act.put, List.getElem_toArray, List.getElem_cons_zero, List.getElem_cons_succ, List.setIfInBounds_toArray, List.set_cons_zero, List.set_cons_succ]
          refine wpAnyH_take (i := 28) (v := .bool false) rfl (by kernel_rfl) (by kernel_rfl) (by kernel_rfl) (fun _ _ _ h => h) (Or.inl ⟨by kernel_rfl, fun W hW => by go_simp⟩) hS ?_
          try simp only [Act.put, List.getElem_toArray, List.getElem_cons_zero, List.getElem_cons_succ, List.setIfInBounds_toArray, List.set_cons_zero, List.set_cons_succ]
          refine wpAnyH_done (by kernel_rfl) ?_ _
          have HBq := Lib.hid (aA HW.out hc1)
          clear hS hc1 p0 p1 s0 s1 y0 y1 y2 y3 y4 y5 y6 y7 y8 z0 z1 z2 z3 z4 z5 z6 z7 z8
          go_wp2_with fail
          go_roundw
          case rel => exact ⟨q + 1, by omega, by go_num, HBq⟩
          case measure => simp [intOf] <;> omega
        · go_wp2_with fail
          go_ret
          exact ⟨rfl, aA HB0.out HW.out⟩
end Go.Proofs.YtmpopphjaggeoaaGreatDoor
