/- Texts of this seat, joined: Pre, Maps. -/
import Derived.Test.YtacgopankhpnbaaGreatDoorProg
import Derived.WalkKit
import Derived.Lib.Hide
import Derived.WalkSpells
import Derived.Deep.QuietTactic
import Derived.BigQuiet
import Derived.Shelf.Abstract
import Derived.Maps.Own
import Derived.Maps.OwnOps
import Derived.Maps.OwnSet
/- What the walks of this seat share: imports, small words and lemmas. -/
namespace Go.Proofs.YtacgopankhpnbaaGreatDoor
open Go.RowKit

theorem ret_bool {a b : Bool} (h : a = b) : Ending.returned (.bool a) = .returned (.bool b) := by rw [h]
theorem ret_int {k : IntKind} {a b : Int} (h : a = b) : Ending.returned (.int k a) = .returned (.int k b) := by rw [h]
theorem ret_str {a b : ByteArray} (h : a = b) : Ending.returned (.string a) = .returned (.string b) := by rw [h]
theorem ret_val {a b : Value} (h : a = b) : Ending.returned a = .returned b := by rw [h]

theorem take_snoc (s : ByteArray) (k : Nat) (h : k < s.size) : s.data.toList.take (k + 1) = s.data.toList.take k ++ [s[k]] := by
  rw [List.take_succ_eq_append_getElem (by simpa using h)]; rfl

/-- Old cells and old marks read as before. -/
theorem bcell {W w1 : World} (hb : Below W.heap.size W w1) : (∀ b o, b < W.heap.size → w1.cell? ⟨b, o, none⟩ = W.cell? ⟨b, o, none⟩) ∧ (∀ b o, b < W.heap.size → w1.frozen? ⟨b, o, none⟩ = W.frozen? ⟨b, o, none⟩) :=
  ⟨fun b o h => hb.cell (p := ⟨b, o, none⟩) h, fun b o h => hb.frozen (p := ⟨b, o, none⟩) h⟩

/-- A cell that is there lies in a block that is there. -/
theorem cell_lt {w : World} {b o : Nat} {v : Value} (h : w.cell? ⟨b, o, none⟩ = some v) : b < w.heap.size := by
  by_cases hb : b < w.heap.size
  · exact hb
  · have : w.heap[b]? = none := Array.getElem?_eq_none (by omega)
    simp [World.cell?, this] at h

theorem cell_later {w w' : World} (hb : Below w.heap.size w w') {b o : Nat} {v : Value} (h : w.cell? ⟨b, o, none⟩ = some v) : w'.cell? ⟨b, o, none⟩ = some v :=
  (hb.cell (p := ⟨b, o, none⟩) (cell_lt h)).trans h

theorem below_trans {a b c : World} (h : Below a.heap.size a b) (k : Below b.heap.size b c) : Below a.heap.size a c :=
  h.trans (k.mono h.size)

theorem alloc_self (w : World) (o : Obj) : (w.alloc o).heap[w.heap.size]? = some o := by
  show (w.heap.push o)[w.heap.size]? = some o
  simp
theorem below_alloc (w : World) (o : Obj) : Below w.heap.size w (w.alloc o) := (Below.refl _ _).alloc (Nat.le_refl _) _

/-- A slice that reads as a list, elements of k cells; 'enc' says what an element's cells may be. -/
def Row {α : Type} (k : Nat) (enc : World → α → List Value → Prop) (w : World) (v : Value) (l : List α) : Prop :=
  ∃ a c, v = .slice a l.length c ∧ l.length ≤ c ∧ c ≤ 9223372036854775807 ∧
    (l ≠ [] → ∃ b o, a = some ⟨b, o, none⟩ ∧ ∀ i x, l[i]? = some x → ∃ cs, enc w x cs ∧ cs.length = k ∧ ∀ j u, cs[j]? = some u → w.cell? ⟨b, o + i * k + j, none⟩ = some u)

theorem Row.later {α : Type} {k : Nat} {enc : World → α → List Value → Prop} {w w' : World} {v : Value} {l : List α} (hb : Below w.heap.size w w')
    (he : ∀ x cs, enc w x cs → enc w' x cs) (h : Row k enc w v l) : Row k enc w' v l := by
  obtain ⟨a, c, hv, h1, h2, h3⟩ := h
  refine ⟨a, c, hv, h1, h2, fun hne => ?_⟩
  obtain ⟨b, o, ha, hc⟩ := h3 hne
  refine ⟨b, o, ha, fun i x hx => ?_⟩
  obtain ⟨cs, e, hl, hj⟩ := hc i x hx
  exact ⟨cs, he x cs e, hl, fun j u hu => cell_later hb (hj j u hu)⟩

/-- A slice of strings. -/
def encStr1 (_ : World) (x : ByteArray) (cs : List Value) : Prop := cs = [.string x] ∧ x.size ≤ 140737488355328
def Strs (w : World) (v : Value) (l : List ByteArray) : Prop := Row 1 encStr1 w v l
theorem Strs.later {w w' : World} {v : Value} {l : List ByteArray} (hb : Below w.heap.size w w') (h : Strs w v l) : Strs w' v l :=
  Row.later hb (fun _ _ h => h) h
/-- A slice of ints. -/
def encInt1 (_ : World) (x : Int) (cs : List Value) : Prop := cs = [.int .i64 x]
def Ints (w : World) (v : Value) (l : List Int) : Prop := Row 1 encInt1 w v l
theorem Ints.later {w w' : World} {v : Value} {l : List Int} (hb : Below w.heap.size w w') (h : Ints w v l) : Ints w' v l :=
  Row.later hb (fun _ _ h => h) h

theorem Row.cases {α : Type} {k : Nat} {enc : World → α → List Value → Prop} {w : World} {v : Value} {l : List α} (h : Row (k + 1) enc w v l) :
    (l = [] ∧ ∃ a c, v = .slice a 0 c) ∨ (∃ b o c, v = .slice (some ⟨b, o, none⟩) l.length c ∧ 0 < l.length ∧ l.length ≤ c ∧ c ≤ 9223372036854775807 ∧ b < w.heap.size ∧
      ∀ i x, l[i]? = some x → ∃ cs, enc w x cs ∧ cs.length = k + 1 ∧ ∀ j u, cs[j]? = some u → w.cell? ⟨b, o + i * (k + 1) + j, none⟩ = some u) := by
  obtain ⟨a, c, hv, h1, h2, h3⟩ := h
  cases l with
  | nil => exact .inl ⟨rfl, a, c, hv⟩
  | cons x0 l =>
    obtain ⟨b, o, ha, hc⟩ := h3 (by simp)
    refine .inr ⟨b, o, c, by rw [hv, ha], by simp, h1, h2, ?_, hc⟩
    obtain ⟨cs, -, hl, hj⟩ := hc 0 x0 rfl
    exact cell_lt (hj 0 (cs[0]'(by omega)) (List.getElem?_eq_getElem _))

theorem Strs.cases {w : World} {v : Value} {l : List ByteArray} (h : Strs w v l) :
    (l = [] ∧ ∃ a c, v = .slice a 0 c) ∨ (∃ b o c, v = .slice (some ⟨b, o, none⟩) l.length c ∧ 0 < l.length ∧ l.length ≤ c ∧ c ≤ 9223372036854775807 ∧ b < w.heap.size ∧
      ∀ i x, l[i]? = some x → w.cell? ⟨b, o + i, none⟩ = some (.string x) ∧ x.size ≤ 140737488355328) := by
  rcases Row.cases h with h | ⟨b, o, c, hv, h0, h1, h2, hb, hc⟩
  · exact .inl h
  · refine .inr ⟨b, o, c, hv, h0, h1, h2, hb, fun i x hx => ?_⟩
    obtain ⟨cs, ⟨e, hs⟩, -, hj⟩ := hc i x hx
    have := hj 0 (.string x) (by rw [e]; rfl)
    exact ⟨by simpa using this, hs⟩
theorem Ints.cases {w : World} {v : Value} {l : List Int} (h : Ints w v l) :
    (l = [] ∧ ∃ a c, v = .slice a 0 c) ∨ (∃ b o c, v = .slice (some ⟨b, o, none⟩) l.length c ∧ 0 < l.length ∧ l.length ≤ c ∧ c ≤ 9223372036854775807 ∧ b < w.heap.size ∧
      ∀ i x, l[i]? = some x → w.cell? ⟨b, o + i, none⟩ = some (.int .i64 x)) := by
  rcases Row.cases h with h | ⟨b, o, c, hv, h0, h1, h2, hb, hc⟩
  · exact .inl h
  · refine .inr ⟨b, o, c, hv, h0, h1, h2, hb, fun i x hx => ?_⟩
    obtain ⟨cs, e, -, hj⟩ := hc i x hx
    have := hj 0 (.int .i64 x) (by rw [e]; rfl)
    simpa using this
theorem strs_size {w : World} {v : Value} {l : List ByteArray} (h : Strs w v l) {x : ByteArray} (hx : x ∈ l) : x.size ≤ 140737488355328 := by
  rcases h.cases with ⟨rfl, -⟩ | ⟨b, o, c, -, -, -, -, -, hc⟩
  · cases hx
  · obtain ⟨i, hi⟩ := List.getElem?_of_mem hx
    exact (hc i x hi).2
theorem getElem?_of_lt {α : Type} {l : List α} {k : Nat} (h : k < l.length) : ∃ x, l[k]? = some x ∧ x ∈ l := ⟨l[k], List.getElem?_eq_getElem h, List.getElem_mem h⟩
end Go.Proofs.YtacgopankhpnbaaGreatDoor
/- Maps that the code makes, with keys and elements of a plain kind: a block reads as a function. Over any program. -/
namespace Go.Proofs.YtacgopankhpnbaaGreatDoor
open Go.RowKit Go.Maps

/-- How keys of a plain kind stand. -/
structure KeyC (P : Program) (t : TypeId) (κ : Type) where
  lit : κ → Lit
  val : κ → Value
  ok : κ → Prop
  inj : ∀ a b, lit a = lit b → a = b
  key : ∀ a, ok a → keyOf P t (val a) = some (lit a)
  keyed : Keyed P t
  isKey : ∀ a, WideAt.IsKeyLit (lit a)

/-- How elements of a plain kind stand. -/
structure ValC (P : Program) (t : TypeId) (ν : Type) where
  lit : ν → Lit
  val : ν → Value
  ok : ν → Prop
  zero : ν
  zok : ok zero
  rd : ∀ x, ok x → plainElem (H := Unit) P t (val x) = some (.lit (lit x), [])
  inv : ∀ v x ps, plainElem (H := Unit) P t v = some (.lit (lit x), ps) → v = val x
  zrun : ∀ w, (zeroValue t).run P w = .ok (val zero) w

theorem bytes_ext {s t : ByteArray} (h : s.data.toList = t.data.toList) : s = t := by
  cases s; cases t; congr; exact Array.toList_inj.1 h

section
variable {P : Program} {t : TypeId}
def strKey (h : P.underlying t = some .string) : KeyC P t ByteArray where
  lit s := .string s.data.toList
  val := .string
  ok s := s.size ≤ maxLen
  inj a b h := bytes_ext (by simpa using h)
  key a ha := Go.WideMaps.keyOf_string_mk h ha
  keyed := string_keyed h
  isKey _ := trivial
def intKey (h : P.underlying t = some (.int .i64)) : KeyC P t Int where
  lit := .int .i64
  val := .int .i64
  ok n := (Lit.int .i64 n).wf = true
  inj a b h := by simpa using h
  key a ha := keyOf_int_mk h ha
  keyed := int_keyed h
  isKey _ := trivial
def boolVal (h : P.underlying t = some .bool) (hz : ∀ w, (zeroValue t).run P w = .ok (.bool false) w) : ValC P t Bool where
  lit := .bool
  val := .bool
  ok _ := True
  zero := false
  zok := trivial
  rd x _ := plainElem_bool h x
  inv v x ps hv := by
    unfold plainElem at hv; rw [h] at hv
    cases v <;> simp at hv
    rw [hv.1]
  zrun := hz
def intVal (h : P.underlying t = some (.int .i64)) (hz : ∀ w, (zeroValue t).run P w = .ok (.int .i64 0) w) : ValC P t Int where
  lit := .int .i64
  val := .int .i64
  ok n := (Lit.int .i64 n).wf = true
  zero := 0
  zok := by decide
  rd x hx := plainElem_int h hx
  inv v x ps hv := by
    obtain ⟨a, rfl, e, -⟩ := plainElem_int_inv h hv
    simp at e; rw [e.1]
  zrun := hz
def strVal (h : P.underlying t = some .string) (hz : ∀ w, (zeroValue t).run P w = .ok (.string ByteArray.empty) w) : ValC P t ByteArray where
  lit s := .string s.data.toList
  val := .string
  ok s := s.size ≤ maxLen
  zero := ByteArray.empty
  zok := by decide
  rd x hx := plainElem_string h hx
  inv v x ps hv := by
    unfold plainElem at hv; rw [h] at hv
    cases v <;> simp at hv
    exact congrArg Value.string (bytes_ext (by simpa using congrArg Array.toList hv.2.1))
  zrun := hz
end

section
variable {P : Program} {kt et t : TypeId} {κ ν : Type} {K : KeyC P kt κ} {V : ValC P et ν} {w : World} {b n : Nat} {m : κ → Option ν}

/-- Block b of w is a map of at most n entries that holds what m says. -/
def MapIs (K : KeyC P kt κ) (V : ValC P et ν) (w : World) (b n : Nat) (m : κ → Option ν) : Prop :=
  ∃ D : DataW Unit, w.ownsMap P kt (plainElem P et) b n D ∧ ∀ x z, D.atKey (K.lit x) z = (match m x with | some v => .lit (V.lit v) | none => z)

theorem MapIs.made (w : World) : MapIs K V (w.alloc (.map #[] 0)) w.heap.size 0 (fun _ => none) :=
  ⟨.map [], World.ownsMap_made w P kt _, fun _ _ => rfl⟩
theorem MapIs.of_block {w' : World} (h : MapIs K V w b n m) (hb : w'.heap[b]? = w.heap[b]?) : MapIs K V w' b n m := by
  obtain ⟨D, ⟨es, clock, h1, r⟩, h2⟩ := h
  exact ⟨D, ⟨es, clock, hb.trans h1, r⟩, h2⟩
theorem MapIs.lt (h : MapIs K V w b n m) : b < w.heap.size := by obtain ⟨D, h1, -⟩ := h; exact h1.lt
theorem MapIs.later {w' : World} (h : MapIs K V w b n m) (hb : Below w.heap.size w w') : MapIs K V w' b n m := h.of_block (hb.block b h.lt)
theorem MapIs.mono {n' : Nat} (h : MapIs K V w b n m) (hn : n ≤ n') : MapIs K V w b n' m := by obtain ⟨D, h1, h2⟩ := h; exact ⟨D, h1.mono hn, h2⟩
theorem MapIs.alloc (h : MapIs K V w b n m) (o : Obj) : MapIs K V (w.alloc o) b n m := h.of_block (Below.heap_alloc _ _ _ h.lt)
theorem MapIs.drew (h : MapIs K V w b n m) : MapIs K V w.drew b n m := h
theorem MapIs.setCell (h : MapIs K V w b n m) {a : Addr} (ha : b ≠ a.block) (u : Value) : MapIs K V (w.setCell a u) b n m := h.of_block (Below.heap_setCell _ _ _ _ ha)
theorem MapIs.grown {w' : World} {row : Option Nat} (h : MapIs K V w b n m) (hg : w.grownBy w' row) (hne : some b ≠ row) : MapIs K V w' b n m :=
  h.of_block (hg.block b h.lt hne)
theorem MapIs.ext {m' : κ → Option ν} (h : MapIs K V w b n m) (e : ∀ x, m x = m' x) : MapIs K V w b n m' := by
  have : m = m' := funext e
  exact this ▸ h

theorem MapIs.look (h : MapIs K V w b n m) (ht : P.underlying t = some (.map kt et)) {x : κ} (hx : K.ok x) :
    (Instr.lookup t (.map (some b)) (K.val x) false).run P w = .ok (V.val ((m x).getD V.zero)) w := by
  obtain ⟨D, h1, h2⟩ := h
  obtain ⟨v, ps, hrun, hv⟩ := h1.lookup K.keyed ht (V.zrun w) (V.rd _ V.zok) (K.key x hx)
  rw [h2] at hv
  cases hm : m x with
  | none => rw [hm] at hv; rw [hrun, V.inv v _ ps hv]; rfl
  | some y => rw [hm] at hv; rw [hrun, V.inv v _ ps hv]; rfl

theorem MapIs.look2 (h : MapIs K V w b n m) (ht : P.underlying t = some (.map kt et)) {x : κ} (hx : K.ok x) :
    (Instr.lookup t (.map (some b)) (K.val x) true).run P w = .ok (.tuple #[V.val ((m x).getD V.zero), .bool (m x).isSome]) w := by
  obtain ⟨D, h1, h2⟩ := h
  obtain ⟨v, ps, hrun, hv⟩ := h1.look_ok K.keyed ht (V.zrun w) (V.rd _ V.zok) (K.key x hx)
  rw [h2] at hv
  cases hm : m x with
  | none =>
    rw [hm] at hv
    have : Maps.has D (K.lit x) = false := Maps.has_false_of_atKey fun z => by rw [h2, hm]
    rw [hrun, V.inv v _ ps hv, this]; rfl
  | some y =>
    rw [hm] at hv
    have : Maps.has D (K.lit x) = true := Maps.has_true_of_atKey (y := .lit (V.lit y)) fun z => by rw [h2, hm]
    rw [hrun, V.inv v _ ps hv, this]; rfl

open Classical in
theorem MapIs.store (h : MapIs K V w b n m) (ht : P.underlying t = some (.map kt et)) (hn : n < maxLen) {x : κ} (hx : K.ok x) {y : ν} (hy : V.ok y) :
    ∃ w', (Instr.mapUpdate t (.map (some b)) (K.val x) (V.val y)).run P w = .ok () w' ∧ MapIs K V w' b (n + 1) (fun z => if z = x then some y else m z) ∧ w.grownBy w' (some b) := by
  obtain ⟨D, h1, h2⟩ := h
  obtain ⟨w', hrun, h3, hg⟩ := h1.update K.keyed ht hn (K.key x hx) (V.rd y hy)
  refine ⟨w', hrun, ⟨_, h3, fun z d => ?_⟩, hg⟩
  by_cases hz : z = x
  · subst hz
    rw [atKey_put_same h1.isMap (K.isKey z)]; simp
  · rw [atKey_put_other (fun e => hz (K.inj _ _ e)), h2]; simp [hz]

theorem wpList_look {ops : Array Oper} {rest : List Oper} {o : Oper} {a : Act} {Q : Exit → Act → World → Prop} (hg : o.guard = none) {mo xo : Operand} (hop : o.op = Op.lookup t mo xo false)
    (ht : P.underlying t = some (.map kt et)) (h : MapIs K V w b n m) (hm : a.eval mo = .map (some b)) {x : κ} (hx : K.ok x) (hxe : a.eval xo = K.val x)
    (hK : wpList P ops Q rest (a.put o.dst (V.val ((m x).getD V.zero))) w) : wpList P ops Q (o :: rest) a w := by
  refine wpList_plain hg fun K' hK' => ?_
  have hrun := h.look ht hx
  unfold Oper.wp
  simp [execOp, hop, hm, hxe, hrun, Result.andThen]
  exact hK' _ _ hK
theorem wpList_look2 {ops : Array Oper} {rest : List Oper} {o : Oper} {a : Act} {Q : Exit → Act → World → Prop} (hg : o.guard = none) {mo xo : Operand} (hop : o.op = Op.lookup t mo xo true)
    (ht : P.underlying t = some (.map kt et)) (h : MapIs K V w b n m) (hm : a.eval mo = .map (some b)) {x : κ} (hx : K.ok x) (hxe : a.eval xo = K.val x)
    (hK : wpList P ops Q rest (a.put o.dst (.tuple #[V.val ((m x).getD V.zero), .bool (m x).isSome])) w) : wpList P ops Q (o :: rest) a w := by
  refine wpList_plain hg fun K' hK' => ?_
  have hrun := h.look2 ht hx
  unfold Oper.wp
  simp [execOp, hop, hm, hxe, hrun, Result.andThen]
  exact hK' _ _ hK
open Classical in
theorem wpList_put {ops : Array Oper} {rest : List Oper} {o : Oper} {a : Act} {Q : Exit → Act → World → Prop} (hg : o.guard = none) {mo xo vo : Operand} (hop : o.op = Op.mapUpdate t mo xo vo)
    (ht : P.underlying t = some (.map kt et)) (h : MapIs K V w b n m) (hn : n < maxLen) (hm : a.eval mo = .map (some b)) {x : κ} (hx : K.ok x) (hxe : a.eval xo = K.val x) {y : ν} (hy : V.ok y) (hye : a.eval vo = V.val y)
    (hK : ∀ w', MapIs K V w' b (n + 1) (fun z => if z = x then some y else m z) → w.grownBy w' (some b) → wpList P ops Q rest (a.put o.dst undef) w') : wpList P ops Q (o :: rest) a w := by
  refine wpList_plain hg fun K' hK' => ?_
  obtain ⟨w', hrun, h1, h2⟩ := h.store ht hn hx hy
  unfold Oper.wp
  simp [execOp, hop, hm, hxe, hye, hrun, Result.andThen]
  exact hK' _ _ (hK w' h1 h2)
end
end Go.Proofs.YtacgopankhpnbaaGreatDoor
