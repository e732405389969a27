/- What the walks of this seat share: imports, small words and lemmas. -/
import Derived.Test.YtacgopankhpnbaaGreatDoorProg
import Derived.WalkKit
import Derived.Lib.Hide
import Derived.WalkSpells
import Derived.Deep.QuietTactic
import Derived.BigQuiet
import Derived.Shelf.Abstract
namespace Go.Proofs.YtacgopankhpnbaaGreatDoor
open Go.RowKit

theorem ret_bool {a b : Bool} (h : a = b) : Ending.returned (.bool a) = .returned (.bool b) := by rw [h]
theorem ret_int {k : IntKind} {a b : Int} (h : a = b) : Ending.returned (.int k a) = .returned (.int k b) := by rw [h]
theorem ret_str {a b : ByteArray} (h : a = b) : Ending.returned (.string a) = .returned (.string b) := by rw [h]
theorem ret_val {a b : Value} (h : a = b) : Ending.returned a = .returned b := by rw [h]

theorem take_snoc (s : ByteArray) (k : Nat) (h : k < s.size) : s.data.toList.take (k + 1) = s.data.toList.take k ++ [s[k]] := by
  rw [List.take_succ_eq_append_getElem (by simpa using h)]; rfl

/-- Old cells and old marks read as before. -/
theorem bcell {W w1 : World} (hb : Below W.heap.size W w1) : (∀ b o, b < W.heap.size → w1.cell? ⟨b, o, none⟩ = W.cell? ⟨b, o, none⟩) ∧ (∀ b o, b < W.heap.size → w1.frozen? ⟨b, o, none⟩ = W.frozen? ⟨b, o, none⟩) :=
  ⟨fun b o h => hb.cell (p := ⟨b, o, none⟩) h, fun b o h => hb.frozen (p := ⟨b, o, none⟩) h⟩

/-- A cell that is there lies in a block that is there. -/
theorem cell_lt {w : World} {b o : Nat} {v : Value} (h : w.cell? ⟨b, o, none⟩ = some v) : b < w.heap.size := by
  by_cases hb : b < w.heap.size
  · exact hb
  · have : w.heap[b]? = none := Array.getElem?_eq_none (by omega)
    simp [World.cell?, this] at h

theorem cell_later {w w' : World} (hb : Below w.heap.size w w') {b o : Nat} {v : Value} (h : w.cell? ⟨b, o, none⟩ = some v) : w'.cell? ⟨b, o, none⟩ = some v :=
  (hb.cell (p := ⟨b, o, none⟩) (cell_lt h)).trans h

theorem below_trans {a b c : World} (h : Below a.heap.size a b) (k : Below b.heap.size b c) : Below a.heap.size a c :=
  h.trans (k.mono h.size)

theorem alloc_self (w : World) (o : Obj) : (w.alloc o).heap[w.heap.size]? = some o := by
  show (w.heap.push o)[w.heap.size]? = some o
  simp
theorem below_alloc (w : World) (o : Obj) : Below w.heap.size w (w.alloc o) := (Below.refl _ _).alloc (Nat.le_refl _) _

/-- A slice that reads as a list, elements of k cells; 'enc' says what an element's cells may be. -/
def Row {α : Type} (k : Nat) (enc : World → α → List Value → Prop) (w : World) (v : Value) (l : List α) : Prop :=
  ∃ a c, v = .slice a l.length c ∧ l.length ≤ c ∧ c ≤ 9223372036854775807 ∧
    (l ≠ [] → ∃ b o, a = some ⟨b, o, none⟩ ∧ ∀ i x, l[i]? = some x → ∃ cs, enc w x cs ∧ cs.length = k ∧ ∀ j u, cs[j]? = some u → w.cell? ⟨b, o + i * k + j, none⟩ = some u)

theorem Row.later {α : Type} {k : Nat} {enc : World → α → List Value → Prop} {w w' : World} {v : Value} {l : List α} (hb : Below w.heap.size w w')
    (he : ∀ x cs, enc w x cs → enc w' x cs) (h : Row k enc w v l) : Row k enc w' v l := by
  obtain ⟨a, c, hv, h1, h2, h3⟩ := h
  refine ⟨a, c, hv, h1, h2, fun hne => ?_⟩
  obtain ⟨b, o, ha, hc⟩ := h3 hne
  refine ⟨b, o, ha, fun i x hx => ?_⟩
  obtain ⟨cs, e, hl, hj⟩ := hc i x hx
  exact ⟨cs, he x cs e, hl, fun j u hu => cell_later hb (hj j u hu)⟩

/-- A slice of strings. -/
def encStr1 (_ : World) (x : ByteArray) (cs : List Value) : Prop := cs = [.string x] ∧ x.size ≤ 140737488355328
def Strs (w : World) (v : Value) (l : List ByteArray) : Prop := Row 1 encStr1 w v l
theorem Strs.later {w w' : World} {v : Value} {l : List ByteArray} (hb : Below w.heap.size w w') (h : Strs w v l) : Strs w' v l :=
  Row.later hb (fun _ _ h => h) h
/-- A slice of ints. -/
def encInt1 (_ : World) (x : Int) (cs : List Value) : Prop := cs = [.int .i64 x]
def Ints (w : World) (v : Value) (l : List Int) : Prop := Row 1 encInt1 w v l
theorem Ints.later {w w' : World} {v : Value} {l : List Int} (hb : Below w.heap.size w w') (h : Ints w v l) : Ints w' v l :=
  Row.later hb (fun _ _ h => h) h

theorem Row.cases {α : Type} {k : Nat} {enc : World → α → List Value → Prop} {w : World} {v : Value} {l : List α} (h : Row (k + 1) enc w v l) :
    (l = [] ∧ ∃ a c, v = .slice a 0 c) ∨ (∃ b o c, v = .slice (some ⟨b, o, none⟩) l.length c ∧ 0 < l.length ∧ l.length ≤ c ∧ c ≤ 9223372036854775807 ∧ b < w.heap.size ∧
      ∀ i x, l[i]? = some x → ∃ cs, enc w x cs ∧ cs.length = k + 1 ∧ ∀ j u, cs[j]? = some u → w.cell? ⟨b, o + i * (k + 1) + j, none⟩ = some u) := by
  obtain ⟨a, c, hv, h1, h2, h3⟩ := h
  cases l with
  | nil => exact .inl ⟨rfl, a, c, hv⟩
  | cons x0 l =>
    obtain ⟨b, o, ha, hc⟩ := h3 (by simp)
    refine .inr ⟨b, o, c, by rw [hv, ha], by simp, h1, h2, ?_, hc⟩
    obtain ⟨cs, -, hl, hj⟩ := hc 0 x0 rfl
    exact cell_lt (hj 0 (cs[0]'(by omega)) (List.getElem?_eq_getElem _))

theorem Strs.cases {w : World} {v : Value} {l : List ByteArray} (h : Strs w v l) :
    (l = [] ∧ ∃ a c, v = .slice a 0 c) ∨ (∃ b o c, v = .slice (some ⟨b, o, none⟩) l.length c ∧ 0 < l.length ∧ l.length ≤ c ∧ c ≤ 9223372036854775807 ∧ b < w.heap.size ∧
      ∀ i x, l[i]? = some x → w.cell? ⟨b, o + i, none⟩ = some (.string x) ∧ x.size ≤ 140737488355328) := by
  rcases Row.cases h with h | ⟨b, o, c, hv, h0, h1, h2, hb, hc⟩
  · exact .inl h
  · refine .inr ⟨b, o, c, hv, h0, h1, h2, hb, fun i x hx => ?_⟩
    obtain ⟨cs, ⟨e, hs⟩, -, hj⟩ := hc i x hx
    have := hj 0 (.string x) (by rw [e]; rfl)
    exact ⟨by simpa using this, hs⟩
theorem Ints.cases {w : World} {v : Value} {l : List Int} (h : Ints w v l) :
    (l = [] ∧ ∃ a c, v = .slice a 0 c) ∨ (∃ b o c, v = .slice (some ⟨b, o, none⟩) l.length c ∧ 0 < l.length ∧ l.length ≤ c ∧ c ≤ 9223372036854775807 ∧ b < w.heap.size ∧
      ∀ i x, l[i]? = some x → w.cell? ⟨b, o + i, none⟩ = some (.int .i64 x)) := by
  rcases Row.cases h with h | ⟨b, o, c, hv, h0, h1, h2, hb, hc⟩
  · exact .inl h
  · refine .inr ⟨b, o, c, hv, h0, h1, h2, hb, fun i x hx => ?_⟩
    obtain ⟨cs, e, -, hj⟩ := hc i x hx
    have := hj 0 (.int .i64 x) (by rw [e]; rfl)
    simpa using this
theorem strs_size {w : World} {v : Value} {l : List ByteArray} (h : Strs w v l) {x : ByteArray} (hx : x ∈ l) : x.size ≤ 140737488355328 := by
  rcases h.cases with ⟨rfl, -⟩ | ⟨b, o, c, -, -, -, -, -, hc⟩
  · cases hx
  · obtain ⟨i, hi⟩ := List.getElem?_of_mem hx
    exact (hc i x hi).2
theorem getElem?_of_lt {α : Type} {l : List α} {k : Nat} (h : k < l.length) : ∃ x, l[k]? = some x ∧ x ∈ l := ⟨l[k], List.getElem?_eq_getElem h, List.getElem_mem h⟩
end Go.Proofs.YtacgopankhpnbaaGreatDoor
