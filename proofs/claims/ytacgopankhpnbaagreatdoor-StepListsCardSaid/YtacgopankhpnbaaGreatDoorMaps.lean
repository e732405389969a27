/- Maps that the code makes, with keys and elements of a plain kind: a block reads as a function. Over any program. -/
import Derived.Test.YtacgopankhpnbaaGreatDoorPre
import Derived.Maps.Own
import Derived.Maps.OwnOps
import Derived.Maps.OwnSet
namespace Go.Proofs.YtacgopankhpnbaaGreatDoor
open Go.RowKit Go.Maps

/-- How keys of a plain kind stand. -/
structure KeyC (P : Program) (t : TypeId) (κ : Type) where
  lit : κ → Lit
  val : κ → Value
  ok : κ → Prop
  inj : ∀ a b, lit a = lit b → a = b
  key : ∀ a, ok a → keyOf P t (val a) = some (lit a)
  keyed : Keyed P t
  isKey : ∀ a, WideAt.IsKeyLit (lit a)

/-- How elements of a plain kind stand. -/
structure ValC (P : Program) (t : TypeId) (ν : Type) where
  lit : ν → Lit
  val : ν → Value
  ok : ν → Prop
  zero : ν
  zok : ok zero
  rd : ∀ x, ok x → plainElem (H := Unit) P t (val x) = some (.lit (lit x), [])
  inv : ∀ v x ps, plainElem (H := Unit) P t v = some (.lit (lit x), ps) → v = val x
  zrun : ∀ w, (zeroValue t).run P w = .ok (val zero) w

theorem bytes_ext {s t : ByteArray} (h : s.data.toList = t.data.toList) : s = t := by
  cases s; cases t; congr; exact Array.toList_inj.1 h

section
variable {P : Program} {t : TypeId}
def strKey (h : P.underlying t = some .string) : KeyC P t ByteArray where
  lit s := .string s.data.toList
  val := .string
  ok s := s.size ≤ maxLen
  inj a b h := bytes_ext (by simpa using h)
  key a ha := Go.WideMaps.keyOf_string_mk h ha
  keyed := string_keyed h
  isKey _ := trivial
def intKey (h : P.underlying t = some (.int .i64)) : KeyC P t Int where
  lit := .int .i64
  val := .int .i64
  ok n := (Lit.int .i64 n).wf = true
  inj a b h := by simpa using h
  key a ha := keyOf_int_mk h ha
  keyed := int_keyed h
  isKey _ := trivial
def boolVal (h : P.underlying t = some .bool) (hz : ∀ w, (zeroValue t).run P w = .ok (.bool false) w) : ValC P t Bool where
  lit := .bool
  val := .bool
  ok _ := True
  zero := false
  zok := trivial
  rd x _ := plainElem_bool h x
  inv v x ps hv := by
    unfold plainElem at hv; rw [h] at hv
    cases v <;> simp at hv
    rw [hv.1]
  zrun := hz
def intVal (h : P.underlying t = some (.int .i64)) (hz : ∀ w, (zeroValue t).run P w = .ok (.int .i64 0) w) : ValC P t Int where
  lit := .int .i64
  val := .int .i64
  ok n := (Lit.int .i64 n).wf = true
  zero := 0
  zok := by decide
  rd x hx := plainElem_int h hx
  inv v x ps hv := by
    obtain ⟨a, rfl, e, -⟩ := plainElem_int_inv h hv
    simp at e; rw [e.1]
  zrun := hz
def strVal (h : P.underlying t = some .string) (hz : ∀ w, (zeroValue t).run P w = .ok (.string ByteArray.empty) w) : ValC P t ByteArray where
  lit s := .string s.data.toList
  val := .string
  ok s := s.size ≤ maxLen
  zero := ByteArray.empty
  zok := by decide
  rd x hx := plainElem_string h hx
  inv v x ps hv := by
    unfold plainElem at hv; rw [h] at hv
    cases v <;> simp at hv
    exact congrArg Value.string (bytes_ext (by simpa using congrArg Array.toList hv.2.1))
  zrun := hz
end

section
variable {P : Program} {kt et t : TypeId} {κ ν : Type} {K : KeyC P kt κ} {V : ValC P et ν} {w : World} {b n : Nat} {m : κ → Option ν}

/-- Block b of w is a map of at most n entries that holds what m says. -/
def MapIs (K : KeyC P kt κ) (V : ValC P et ν) (w : World) (b n : Nat) (m : κ → Option ν) : Prop :=
  ∃ D : DataW Unit, w.ownsMap P kt (plainElem P et) b n D ∧ ∀ x z, D.atKey (K.lit x) z = (match m x with | some v => .lit (V.lit v) | none => z)

theorem MapIs.made (w : World) : MapIs K V (w.alloc (.map #[] 0)) w.heap.size 0 (fun _ => none) :=
  ⟨.map [], World.ownsMap_made w P kt _, fun _ _ => rfl⟩
theorem MapIs.of_block {w' : World} (h : MapIs K V w b n m) (hb : w'.heap[b]? = w.heap[b]?) : MapIs K V w' b n m := by
  obtain ⟨D, ⟨es, clock, h1, r⟩, h2⟩ := h
  exact ⟨D, ⟨es, clock, hb.trans h1, r⟩, h2⟩
theorem MapIs.lt (h : MapIs K V w b n m) : b < w.heap.size := by obtain ⟨D, h1, -⟩ := h; exact h1.lt
theorem MapIs.later {w' : World} (h : MapIs K V w b n m) (hb : Below w.heap.size w w') : MapIs K V w' b n m := h.of_block (hb.block b h.lt)
theorem MapIs.mono {n' : Nat} (h : MapIs K V w b n m) (hn : n ≤ n') : MapIs K V w b n' m := by obtain ⟨D, h1, h2⟩ := h; exact ⟨D, h1.mono hn, h2⟩
theorem MapIs.alloc (h : MapIs K V w b n m) (o : Obj) : MapIs K V (w.alloc o) b n m := h.of_block (Below.heap_alloc _ _ _ h.lt)
theorem MapIs.drew (h : MapIs K V w b n m) : MapIs K V w.drew b n m := h
theorem MapIs.setCell (h : MapIs K V w b n m) {a : Addr} (ha : b ≠ a.block) (u : Value) : MapIs K V (w.setCell a u) b n m := h.of_block (Below.heap_setCell _ _ _ _ ha)
theorem MapIs.grown {w' : World} {row : Option Nat} (h : MapIs K V w b n m) (hg : w.grownBy w' row) (hne : some b ≠ row) : MapIs K V w' b n m :=
  h.of_block (hg.block b h.lt hne)
theorem MapIs.ext {m' : κ → Option ν} (h : MapIs K V w b n m) (e : ∀ x, m x = m' x) : MapIs K V w b n m' := by
  have : m = m' := funext e
  exact this ▸ h

theorem MapIs.look (h : MapIs K V w b n m) (ht : P.underlying t = some (.map kt et)) {x : κ} (hx : K.ok x) :
    (Instr.lookup t (.map (some b)) (K.val x) false).run P w = .ok (V.val ((m x).getD V.zero)) w := by
  obtain ⟨D, h1, h2⟩ := h
  obtain ⟨v, ps, hrun, hv⟩ := h1.lookup K.keyed ht (V.zrun w) (V.rd _ V.zok) (K.key x hx)
  rw [h2] at hv
  cases hm : m x with
  | none => rw [hm] at hv; rw [hrun, V.inv v _ ps hv]; rfl
  | some y => rw [hm] at hv; rw [hrun, V.inv v _ ps hv]; rfl

theorem MapIs.look2 (h : MapIs K V w b n m) (ht : P.underlying t = some (.map kt et)) {x : κ} (hx : K.ok x) :
    (Instr.lookup t (.map (some b)) (K.val x) true).run P w = .ok (.tuple #[V.val ((m x).getD V.zero), .bool (m x).isSome]) w := by
  obtain ⟨D, h1, h2⟩ := h
  obtain ⟨v, ps, hrun, hv⟩ := h1.look_ok K.keyed ht (V.zrun w) (V.rd _ V.zok) (K.key x hx)
  rw [h2] at hv
  cases hm : m x with
  | none =>
    rw [hm] at hv
    have : Maps.has D (K.lit x) = false := Maps.has_false_of_atKey fun z => by rw [h2, hm]
    rw [hrun, V.inv v _ ps hv, this]; rfl
  | some y =>
    rw [hm] at hv
    have : Maps.has D (K.lit x) = true := Maps.has_true_of_atKey (y := .lit (V.lit y)) fun z => by rw [h2, hm]
    rw [hrun, V.inv v _ ps hv, this]; rfl

open Classical in
theorem MapIs.store (h : MapIs K V w b n m) (ht : P.underlying t = some (.map kt et)) (hn : n < maxLen) {x : κ} (hx : K.ok x) {y : ν} (hy : V.ok y) :
    ∃ w', (Instr.mapUpdate t (.map (some b)) (K.val x) (V.val y)).run P w = .ok () w' ∧ MapIs K V w' b (n + 1) (fun z => if z = x then some y else m z) ∧ w.grownBy w' (some b) := by
  obtain ⟨D, h1, h2⟩ := h
  obtain ⟨w', hrun, h3, hg⟩ := h1.update K.keyed ht hn (K.key x hx) (V.rd y hy)
  refine ⟨w', hrun, ⟨_, h3, fun z d => ?_⟩, hg⟩
  by_cases hz : z = x
  · subst hz
    rw [atKey_put_same h1.isMap (K.isKey z)]; simp
  · rw [atKey_put_other (fun e => hz (K.inj _ _ e)), h2]; simp [hz]

theorem wpList_look {ops : Array Oper} {rest : List Oper} {o : Oper} {a : Act} {Q : Exit → Act → World → Prop} (hg : o.guard = none) {mo xo : Operand} (hop : o.op = Op.lookup t mo xo false)
    (ht : P.underlying t = some (.map kt et)) (h : MapIs K V w b n m) (hm : a.eval mo = .map (some b)) {x : κ} (hx : K.ok x) (hxe : a.eval xo = K.val x)
    (hK : wpList P ops Q rest (a.put o.dst (V.val ((m x).getD V.zero))) w) : wpList P ops Q (o :: rest) a w := by
  refine wpList_plain hg fun K' hK' => ?_
  have hrun := h.look ht hx
  unfold Oper.wp
  simp [execOp, hop, hm, hxe, hrun, Result.andThen]
  exact hK' _ _ hK
theorem wpList_look2 {ops : Array Oper} {rest : List Oper} {o : Oper} {a : Act} {Q : Exit → Act → World → Prop} (hg : o.guard = none) {mo xo : Operand} (hop : o.op = Op.lookup t mo xo true)
    (ht : P.underlying t = some (.map kt et)) (h : MapIs K V w b n m) (hm : a.eval mo = .map (some b)) {x : κ} (hx : K.ok x) (hxe : a.eval xo = K.val x)
    (hK : wpList P ops Q rest (a.put o.dst (.tuple #[V.val ((m x).getD V.zero), .bool (m x).isSome])) w) : wpList P ops Q (o :: rest) a w := by
  refine wpList_plain hg fun K' hK' => ?_
  have hrun := h.look2 ht hx
  unfold Oper.wp
  simp [execOp, hop, hm, hxe, hrun, Result.andThen]
  exact hK' _ _ hK
open Classical in
theorem wpList_put {ops : Array Oper} {rest : List Oper} {o : Oper} {a : Act} {Q : Exit → Act → World → Prop} (hg : o.guard = none) {mo xo vo : Operand} (hop : o.op = Op.mapUpdate t mo xo vo)
    (ht : P.underlying t = some (.map kt et)) (h : MapIs K V w b n m) (hn : n < maxLen) (hm : a.eval mo = .map (some b)) {x : κ} (hx : K.ok x) (hxe : a.eval xo = K.val x) {y : ν} (hy : V.ok y) (hye : a.eval vo = V.val y)
    (hK : ∀ w', MapIs K V w' b (n + 1) (fun z => if z = x then some y else m z) → w.grownBy w' (some b) → wpList P ops Q rest (a.put o.dst undef) w') : wpList P ops Q (o :: rest) a w := by
  refine wpList_plain hg fun K' hK' => ?_
  obtain ⟨w', hrun, h1, h2⟩ := h.store ht hn hx hy
  unfold Oper.wp
  simp [execOp, hop, hm, hxe, hye, hrun, Result.andThen]
  exact hK' _ _ (hK w' h1 h2)
end
end Go.Proofs.YtacgopankhpnbaaGreatDoor
