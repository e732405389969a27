/- What the walk of ladinglaw32.StepLists wants: its calls of step.Do, with the texts opaque. -/
import Derived.Test.YtacgopankhpnbaaGreatDoorSortsA
import Derived.Test.YtacgopankhpnbaaGreatDoorListsLaw
namespace Go.Proofs.YtacgopankhpnbaaGreatDoor
open Go.RowKit

/-- What a call of Do comes to that lists: n files there are, u numbers are used; the new text is opaque. -/
def listPost (d : World) (L : List Fil) (n : Nat) (u : Int) (out t : ByteArray) (e : Ending) (w' : World) : Prop := Below d.heap.size d w' ∧ ∃ p q x k y r, e = .returned (.tuple #[.slice p (n + 1) q, .slice x k y, .agg #[.int .i64 0, .int .i64 u], .int .i64 0]) ∧
  Hid (Fils w' (.slice p (n + 1) q) (L ++ [⟨out, r⟩])) ∧ Hid (r = t)
/-- What an unsorted listing writes. -/
def listed (names : List ByteArray) (order : List Int) : ByteArray := rowsB (pickAll order names.length 0 (sortB names))
/-- The numbers that are 'int's. -/
def WfInts (l : List Int) : Prop := ∀ x, x ∈ l → (Lit.int .i64 x).wf = true

theorem post_list {w w' : World} {s : Stp} {files : List Fil} {n : Nat} {u : Int} {text out : ByteArray} {saw : List ByteArray} {vA vS : Value} (hn : files.length = n) (ho : s.out = out) (hb : Below w.heap.size w w') (hA : Fils w' vA (doFiles s files text)) (hS : Strs w' vS saw) :
    listPost w files n u out text (.returned (.tuple #[vA, vS, .agg #[.int .i64 0, .int .i64 u], .int .i64 0])) w' := by
  obtain ⟨p1, q1, r1⟩ := fils_slice hA
  obtain ⟨x1, y1, z1⟩ := strs_slice hS
  subst r1 z1 hn ho
  have e : (doFiles s files text).length = files.length + 1 := by simp [doFiles]
  rw [e] at hA ⊢
  exact ⟨hb, p1, q1, x1, saw.length, y1, text, rfl, Lib.hid hA, Lib.hid rfl⟩
theorem list_call (names : List ByteArray) (n : Nat) (order : List Int) (vf vl vo : Value) (w : World) (h : ListsIn names) (hn : (namesFiles names).length = n) (hG : Glob w) (hsrc : Strs w vf names) (hfil : Fils w vl (namesFiles names)) (hord : Ints w vo order) (howf : WfInts order) :
    Calls Tryz.prog 17 #[.agg #[.int .i64 2, vf, .string ⟨#[116, 111]⟩, .bool false], vl, .agg #[.slice none 0 0, vo, .slice none 0 0], .agg #[.int .i64 0, .int .i64 0]] w (listPost w (namesFiles names) n names.length toB (listed names order)) := by
  have := do_any C0 (listStp names false) (namesFiles names) [] order vf vl (.slice none 0 0) vo (.slice none 0 0) 0 0 w ⟨hG, hsrc, (by decide : toB.size ≤ 140737488355328), hfil, ints_nil _, hord, ⟨_, _, _, rfl⟩, by decide, by decide, by simp, howf⟩ (by show (2 : Int) ≠ 5; decide)
  rw [show doStep C0 (listStp names false) (namesFiles names) [] order 0 0 = .ok (listed names order, [], 0, (names.length : Int)) from do_list names false order h] at this
  refine this.mono ?_
  rintro e w' ⟨hb, vA, vS, rfl, hA, hS⟩
  exact post_list hn rfl hb hA hS
theorem list_inOrder (names : List ByteArray) (n : Nat) (order : List Int) (vf vl vo : Value) (w : World) (h : ListsIn names) (hn : (namesFiles names).length = n) (hG : Glob w) (hsrc : Strs w vf names) (hfil : Fils w vl (namesFiles names)) (hord : Ints w vo order) (howf : WfInts order) :
    Calls Tryz.prog 17 #[.agg #[.int .i64 2, vf, .string ⟨#[116, 111]⟩, .bool true], vl, .agg #[.slice none 0 0, vo, .slice none 0 0], .agg #[.int .i64 0, .int .i64 0]] w (listPost w (namesFiles names) n 0 toB (rowsB (sortB names))) := by
  have := do_any C0 (listStp names true) (namesFiles names) [] order vf vl (.slice none 0 0) vo (.slice none 0 0) 0 0 w ⟨hG, hsrc, (by decide : toB.size ≤ 140737488355328), hfil, ints_nil _, hord, ⟨_, _, _, rfl⟩, by decide, by decide, by simp, howf⟩ (by show (2 : Int) ≠ 5; decide)
  rw [show doStep C0 (listStp names true) (namesFiles names) [] order 0 0 = .ok (rowsB (sortB names), [], 0, 0) from do_list names true order h] at this
  refine this.mono ?_
  rintro e w' ⟨hb, vA, vS, rfl, hA, hS⟩
  exact post_list hn rfl hb hA hS
theorem list_resort (names : List ByteArray) (n : Nat) (order : List Int) (vf vl : Value) (r : ByteArray) (w : World) (h : ListsIn names) (hn : (namesFiles names).length = n) (hG : Glob w) (hsrc : Strs w vf [⟨#[116, 111]⟩]) (hfil : Fils w vl (namesFiles names ++ [⟨toB, r⟩])) (hr : r = listed names order) :
    Calls Tryz.prog 17 #[.agg #[.int .i64 3, vf, .string ⟨#[121]⟩, .bool false], vl, .agg #[.slice none 0 0, .slice none 0 0, .slice none 0 0], .agg #[.int .i64 0, .int .i64 0]] w (listPost w (namesFiles names ++ [⟨toB, r⟩]) (n + 1) 0 yB (rowsB (sortB names))) := by
  subst hr
  have := do_any C0 ⟨3, [toB], yB, false⟩ (namesFiles names ++ [⟨toB, listed names order⟩]) [] [] vf vl (.slice none 0 0) (.slice none 0 0) (.slice none 0 0) 0 0 w ⟨hG, hsrc, (by decide : yB.size ≤ 140737488355328), hfil, ints_nil _, ints_nil _, ⟨_, _, _, rfl⟩, by decide, by decide, by simp, by simp⟩ (by show (3 : Int) ≠ 5; decide)
  rw [show doStep C0 ⟨3, [toB], yB, false⟩ (namesFiles names ++ [⟨toB, listed names order⟩]) [] [] 0 0 = .ok (rowsB (sortB names), [listed names order], 0, 0) from do_resort names order h] at this
  refine this.mono ?_
  rintro e w' ⟨hb, vA, vS, rfl, hA, hS⟩
  exact post_list (by simp [hn]) rfl hb hA hS
theorem last_app {L : List Fil} {o r : ByteArray} {n : Nat} {a : Option Addr} {c : Nat} {w : World} (h : Fils w (.slice a n c) (L ++ [⟨o, r⟩])) :
    Calls Tryz.prog 22 #[.slice a n c] w fun e w' => e = .returned (.string r) ∧ w = w' := by
  have := last_any _ _ w h
  rw [show lastText (L ++ [⟨o, r⟩]) = r by simp [lastText]] at this
  exact this
/-- The plain law with the texts opaque. -/
theorem lists_out {names : List ByteArray} {n : Nat} {r2 r3 r4 r5 : ByteArray} (h : ListsIn names) (hn : (namesFiles names).length = n) (h2 : r2 = listed names []) (h3 : r3 = listed names [-1]) (h4 : r4 = rowsB (sortB names)) (h5 : r5 = rowsB (sortB names)) :
    r5 = r4 ∧ r2 = r4 ∧ decide (r3 = r4) = decide (n < 2) := by
  subst h2 h3 h4 h5 hn
  refine ⟨rfl, ?_, list_last names h⟩
  unfold listed
  rw [list_none]
/-- The files, one name further. -/
theorem namesFiles_snoc {names : List ByteArray} {k : Nat} {x : ByteArray} (hx : names[k]? = some x) : namesFiles (names.take (k + 1)) = addName (namesFiles (names.take k)) x := by
  obtain ⟨hk, rfl⟩ := List.getElem?_eq_some_iff.1 hx
  rw [List.take_succ_eq_append_getElem hk]
  unfold namesFiles
  rw [List.foldl_append]; rfl
/-- A store to a cell that holds something else leaves the others. -/
theorem cell_set_ne {w : World} {p q : Addr} {v u o : Value} (hp : w.cell? p = some o) (hq : w.cell? q = some u) (hne : u ≠ o) : (w.setCell p v).cell? q = some u := by
  have hpq : p ≠ q := fun e => hne (by subst e; rw [hp] at hq; cases hq; rfl)
  rw [World.cell?_setCell_other (h := hpq)]
  exact hq
theorem Row.set {α : Type} {k : Nat} {enc : World → α → List Value → Prop} {w : World} {v x o : Value} {p : Addr} {l : List α} (hp : w.cell? p = some o) (he : ∀ y cs, enc w y cs → enc (w.setCell p x) y cs ∧ o ∉ cs) (h : Row k enc w v l) : Row k enc (w.setCell p x) v l := by
  obtain ⟨a, c, hv, h1, h2, h3⟩ := h
  refine ⟨a, c, hv, h1, h2, fun hne => ?_⟩
  obtain ⟨b, o', ha, hc⟩ := h3 hne
  refine ⟨b, o', ha, fun i y hy => ?_⟩
  obtain ⟨cs, e, hl, hj⟩ := hc i y hy
  obtain ⟨e1, e2⟩ := he y cs e
  exact ⟨cs, e1, hl, fun j u hu => cell_set_ne hp (hj j u hu) (fun e => e2 (e ▸ List.mem_of_getElem? hu))⟩
theorem Fils.setBool {w : World} {v x : Value} {p : Addr} {b : Bool} {l : List Fil} (hp : w.cell? p = some (.bool b)) (h : Fils w v l) : Fils (w.setCell p x) v l :=
  Row.set hp (fun y cs h => ⟨h, by rw [h.1]; simp⟩) h
theorem Strs.setBool {w : World} {v x : Value} {p : Addr} {b : Bool} {l : List ByteArray} (hp : w.cell? p = some (.bool b)) (h : Strs w v l) : Strs (w.setCell p x) v l :=
  Row.set hp (fun y cs h => ⟨h, by rw [h.1]; simp⟩) h
theorem Ints.setBool {w : World} {v x : Value} {p : Addr} {b : Bool} {l : List Int} (hp : w.cell? p = some (.bool b)) (h : Ints w v l) : Ints (w.setCell p x) v l :=
  Row.set hp (fun y cs h => ⟨h, by rw [show cs = _ from h]; simp⟩) h
/-- What is kept from call to call: the step's box lies in block b. -/
structure KeptL (w : World) (b : Nat) (vn vl vo : Value) (names : List ByteArray) (order : List Int) (sorted : Bool) (d : World) : Prop where
  glob : Glob d
  below : Below w.heap.size w d
  src : Strs d vn names
  fils : Fils d vl (namesFiles names)
  ord : Ints d vo order
  box : d.heap[b]? = some (.cells #[.int .i64 2, vn, .string ⟨#[116, 111]⟩, .bool sorted] 24 (0, 0))
  ge : w.heap.size ≤ b
theorem KeptL.later {w d d' : World} {b : Nat} {vn vl vo : Value} {names : List ByteArray} {order : List Int} {sorted : Bool} (h : KeptL w b vn vl vo names order sorted d) (hb : Below d.heap.size d d') : KeptL w b vn vl vo names order sorted d' :=
  ⟨h.glob.later hb, below_trans h.below hb, h.src.later hb, h.fils.later hb, h.ord.later hb, heap_later hb h.box, h.ge⟩
theorem KeptL.cells {w d : World} {b : Nat} {vn vl vo : Value} {names : List ByteArray} {order : List Int} {sorted : Bool} (h : KeptL w b vn vl vo names order sorted d) :
    d.cell? ⟨b, 0, none⟩ = some (.int .i64 2) ∧ d.cell? ⟨b, 1, none⟩ = some vn ∧ d.cell? ⟨b, 2, none⟩ = some (.string ⟨#[116, 111]⟩) ∧ d.cell? ⟨b, 3, none⟩ = some (.bool sorted) := box4 h.box
theorem KeptL.lt {w d : World} {b : Nat} {vn vl vo : Value} {names : List ByteArray} {order : List Int} {sorted : Bool} (h : KeptL w b vn vl vo names order sorted d) : b < d.heap.size := heap_lt h.box
theorem KeptL.free {w d : World} {b : Nat} {vn vl vo : Value} {names : List ByteArray} {order : List Int} {sorted : Bool} (h : KeptL w b vn vl vo names order sorted d) : d.frozen? ⟨b, 3, none⟩ = false := by
  simp only [World.frozen?, h.box]; simp
theorem KeptL.set {w d : World} {b : Nat} {vn vl vo : Value} {names : List ByteArray} {order : List Int} {sorted : Bool} (h : KeptL w b vn vl vo names order sorted d) (hG : Glob w) : KeptL w b vn vl vo names order true (d.setCell ⟨b, 3, none⟩ (.bool true)) := by
  have h3 := h.cells.2.2.2
  have hO : Only b d (d.setCell ⟨b, 3, none⟩ (.bool true)) := Only.setCell d
  refine ⟨h.glob.only hO (by have := hG.big; have := h.ge; omega), hO.below h.below h.ge (by have := h.below.size; omega), h.src.setBool h3, h.fils.setBool h3, h.ord.setBool h3, ?_, h.ge⟩
  simp [World.setCell, Array.getElem?_modify, h.box]
/-- The loop of StepLists: what has been gathered. -/
structure ListsRel (w w1 : World) (names : List ByteArray) (k : Nat) (v : Value) (wr : World) : Prop where
  own : wr.ownsRow w1.heap.size 40 2 v (namesFiles (names.take k)).length (filCells (namesFiles (names.take k)))
  below : Below w.heap.size w wr
  since : w1.heap.size ≤ wr.heap.size
  no : ∀ x, x ∈ names.take k → x ≠ toB ∧ x ≠ yB ∧ x.size ≤ 30
theorem namesFiles_mem {names : List ByteArray} {f : Fil} (h : f ∈ namesFiles names) : f.name ∈ names ∧ f.text = ⟨#[120]⟩ :=
  ⟨((filesOf_names names).mem _).2 ⟨f, h, rfl⟩, (filesOf_names names).text f h⟩
theorem ListsRel.fils {w w1 wr : World} {names : List ByteArray} {k : Nat} {v : Value} (h : ListsRel w w1 names k v wr) : Fils wr v (namesFiles (names.take k)) := by
  refine fils_of_owns h.own fun f hf => ?_
  obtain ⟨h1, h2⟩ := namesFiles_mem hf
  have := (h.no _ h1).2.2
  rw [h2]
  exact ⟨by omega, by decide⟩
theorem ListsRel.first {w w1 : World} {names : List ByteArray} (hb : Below w.heap.size w w1) : ListsRel w w1 names 0 (.slice none 0 0) w1 :=
  ⟨World.ownsRow_nil _ _ _ _, hb, Nat.le_refl _, by simp⟩
theorem no_snoc {names : List ByteArray} {k : Nat} {x : ByteArray} (hx : names[k]? = some x) (h : ∀ x, x ∈ names.take k → x ≠ toB ∧ x ≠ yB ∧ x.size ≤ 30) (h1 : x ≠ toB ∧ x ≠ yB ∧ x.size ≤ 30) : ∀ x, x ∈ names.take (k + 1) → x ≠ toB ∧ x ≠ yB ∧ x.size ≤ 30 := by
  obtain ⟨hk, rfl⟩ := List.getElem?_eq_some_iff.1 hx
  rw [List.take_succ_eq_append_getElem hk]
  intro y hy
  rcases List.mem_append.1 hy with hy | hy
  · exact h y hy
  · rw [List.mem_singleton.1 hy]; exact h1
/-- A round that finds the name. -/
theorem ListsRel.found {w w1 wr w2 : World} {names : List ByteArray} {k : Nat} {v : Value} {x t : ByteArray} (h : ListsRel w w1 names k v wr) (hx : names[k]? = some x) (hf : findFile (namesFiles (names.take k)) x = some t) (hb : Below wr.heap.size wr w2) (h1 : x ≠ toB ∧ x ≠ yB ∧ x.size ≤ 30) : ListsRel w w1 names (k + 1) v w2 := by
  have e : namesFiles (names.take (k + 1)) = namesFiles (names.take k) := by rw [namesFiles_snoc hx, addName, hf]; rfl
  refine ⟨?_, below_trans h.below hb, Nat.le_trans h.since hb.size, no_snoc hx h.no h1⟩
  rw [e]
  exact h.own.kept (row := none) ⟨hb.os, hb.tape, hb.output, hb.size, fun k hk _ => hb.block k hk⟩ (Classical.em _)
theorem ListsRel.own_later {w w1 wr w2 : World} {names : List ByteArray} {k : Nat} {v : Value} (h : ListsRel w w1 names k v wr) (hb : Below wr.heap.size wr w2) : w2.ownsRow w1.heap.size 40 2 v (namesFiles (names.take k)).length (filCells (namesFiles (names.take k))) :=
  h.own.kept (row := none) ⟨hb.os, hb.tape, hb.output, hb.size, fun k hk _ => hb.block k hk⟩ (Classical.em _)
/-- A round that appends the name. -/
theorem ListsRel.added {w w1 wr w2 w3 : World} {names : List ByteArray} {k : Nat} {v v' : Value} {x : ByteArray} {o : Obj} (h : ListsRel w w1 names k v wr) (hx : names[k]? = some x) (hf : findFile (namesFiles (names.take k)) x = none) (hb : Below wr.heap.size wr w2) (h1 : x ≠ toB ∧ x ≠ yB ∧ x.size ≤ 30) (hw : Below w.heap.size w w1)
    (hown : w3.ownsRow w1.heap.size 40 2 v' ((namesFiles (names.take k)).length + 1) (filCells (namesFiles (names.take k)) ++ [.string x, .string ⟨#[120]⟩])) (hg : (w2.alloc o).grownBy w3 v.ownBlock) : ListsRel w w1 names (k + 1) v' w3 := by
  have e : namesFiles (names.take (k + 1)) = namesFiles (names.take k) ++ [⟨x, ⟨#[120]⟩⟩] := by rw [namesFiles_snoc hx, addName, hf]; rfl
  have h2 := h.own_later hb
  have hz : w2.heap.size + 1 ≤ w3.heap.size := by have := hg.size; simpa using this
  have hbb := below_trans h.below hb
  refine ⟨?_, ?_, by have := h.since; have := hb.size; omega, no_snoc hx h.no h1⟩
  · rw [e, ← filCells_snoc]; simpa using hown
  · refine ⟨hg.os.trans hbb.os, hg.tape.trans hbb.tape, hg.output.trans hbb.output, by have := hbb.size; omega, fun j hj => ?_⟩
    have := hbb.size
    rw [hg.block j (by simp; omega) (fun e => by have := (h2.lt j e.symm).1; have := hw.size; omega), Below.heap_alloc _ _ _ (by omega)]
    exact hbb.block j hj
theorem strs_cell {w : World} {b o n c : Nat} {l : List ByteArray} (h : Strs w (.slice (some ⟨b, o, none⟩) n c) l) {k : Nat} {x : ByteArray} (hx : l[k]? = some x) : w.cell? ⟨b, o + k, none⟩ = some (.string x) := by
  rcases h.cases with ⟨rfl, -⟩ | ⟨b', o', c', e, -, -, -, -, hc⟩
  · simp at hx
  · cases e
    exact (hc k x hx).1
theorem no_of {x : ByteArray} (h : ((x.size : Int) ≤ 30 ∧ (x.toList == [116, 111]) = false) ∧ (x.toList == [121]) = false) : x ≠ toB ∧ x ≠ yB ∧ x.size ≤ 30 := by
  obtain ⟨⟨h1, h2⟩, h3⟩ := h
  rw [toList_eq] at h2 h3
  exact ⟨fun e => by subst e; revert h2; decide +kernel, fun e => by subst e; revert h3; decide +kernel, by omega⟩
theorem ListsRel.whole {w w1 wr : World} {names : List ByteArray} {v : Value} (h : ListsRel w w1 names names.length v wr) : Fils wr v (namesFiles names) ∧ Below w.heap.size w wr ∧ ∀ x, x ∈ names → x ≠ toB ∧ x ≠ yB := by
  have h1 := h.fils
  have h2 := h.no
  rw [List.take_length] at h1 h2
  exact ⟨h1, h.below, fun x hx => ⟨(h2 x hx).1, (h2 x hx).2.1⟩⟩
/-- The step's box, as it is laid. -/
abbrev listObj (vn : Value) : Obj := .cells #[.int .i64 2, vn, .string ⟨#[116, 111]⟩, .bool false] 24
theorem KeptL.first {w wr : World} {vn vl vo : Value} {names : List ByteArray} {order : List Int} (hG : Glob w) (hb : Below w.heap.size w wr) (hn : Strs w vn names) (ho : Ints w vo order) (hf : Fils wr vl (namesFiles names)) :
    KeptL w wr.heap.size vn vl vo names order false (wr.alloc (listObj vn)) := by
  have B1 := below_alloc wr (listObj vn)
  have B := below_trans hb B1
  exact ⟨hG.later B, B, hn.later B, hf.later B1, ho.later B, alloc_self wr _, hb.size⟩
/-- The box of what was used. -/
abbrev usedBox (a b : Int) : Obj := .cells #[.int .i64 a, .int .i64 b] 31
theorem box2 {w : World} {k : Nat} {a b : Value} {t : TypeId} {fr : Nat × Nat} (h : w.heap[k]? = some (.cells #[a, b] t fr)) : w.cell? ⟨k, 0, none⟩ = some a ∧ w.cell? ⟨k, 1, none⟩ = some b := by
  simp only [World.cell?, h]; simp
theorem heap_set_other {w : World} {k b i : Nat} {v : Value} {o : Obj} (h : w.heap[k]? = some o) (hne : k ≠ b) : (w.setCell ⟨b, i, none⟩ v).heap[k]? = some o :=
  ((Only.setCell (b := b) (o := i) (v := v) w).block k (heap_lt h) hne).trans h
theorem ints_new1 (d : World) (o : Obj) (x : Int) : Ints ((d.alloc o).alloc (.cells #[.int .i64 x] 3)) (.slice (some ⟨d.heap.size + 1, 0, none⟩) 1 1) [x] := by
  have h := ints_made [x] (alloc_self (d.alloc o) (.cells #[.int .i64 x] 3)) rfl (by simp)
  rw [World.size_alloc] at h
  exact h
theorem strs_new1 (d : World) (o : Obj) (x : ByteArray) (hx : x.size ≤ 140737488355328) : Strs ((d.alloc o).alloc (.cells #[.string x] 9)) (.slice (some ⟨d.heap.size + 1, 0, none⟩) 1 1) [x] := by
  have h := strs_made [x] (alloc_self (d.alloc o) (.cells #[.string x] 9)) rfl (by simp) (by simpa using hx)
  rw [World.size_alloc] at h
  exact h
theorem arrK0 (w : World) : (binOp .eql 31 (.agg #[.int .i64 0, .int .i64 ((0 : Nat) : Int)]) (.agg #[.int .i64 0, .int .i64 ((0 : Nat) : Int)])).run Tryz.prog w = .ok (.bool true) w := by kernel_rfl
theorem arrK1 (w : World) : (binOp .eql 31 (.agg #[.int .i64 0, .int .i64 ((1 : Nat) : Int)]) (.agg #[.int .i64 0, .int .i64 ((1 : Nat) : Int)])).run Tryz.prog w = .ok (.bool true) w := by kernel_rfl
theorem arrK2 (w : World) : (binOp .eql 31 (.agg #[.int .i64 0, .int .i64 ((2 : Nat) : Int)]) (.agg #[.int .i64 0, .int .i64 ((2 : Nat) : Int)])).run Tryz.prog w = .ok (.bool true) w := by kernel_rfl
theorem arrK3 (w : World) : (binOp .eql 31 (.agg #[.int .i64 0, .int .i64 ((3 : Nat) : Int)]) (.agg #[.int .i64 0, .int .i64 ((3 : Nat) : Int)])).run Tryz.prog w = .ok (.bool true) w := by kernel_rfl
theorem arrK4 (w : World) : (binOp .eql 31 (.agg #[.int .i64 0, .int .i64 ((4 : Nat) : Int)]) (.agg #[.int .i64 0, .int .i64 ((4 : Nat) : Int)])).run Tryz.prog w = .ok (.bool true) w := by kernel_rfl
theorem arrK5 (w : World) : (binOp .eql 31 (.agg #[.int .i64 0, .int .i64 ((5 : Nat) : Int)]) (.agg #[.int .i64 0, .int .i64 ((5 : Nat) : Int)])).run Tryz.prog w = .ok (.bool true) w := by kernel_rfl
theorem arrK6 (w : World) : (binOp .eql 31 (.agg #[.int .i64 0, .int .i64 ((6 : Nat) : Int)]) (.agg #[.int .i64 0, .int .i64 ((6 : Nat) : Int)])).run Tryz.prog w = .ok (.bool true) w := by kernel_rfl
theorem arrK7 (w : World) : (binOp .eql 31 (.agg #[.int .i64 0, .int .i64 ((7 : Nat) : Int)]) (.agg #[.int .i64 0, .int .i64 ((7 : Nat) : Int)])).run Tryz.prog w = .ok (.bool true) w := by kernel_rfl
theorem arrK8 (w : World) : (binOp .eql 31 (.agg #[.int .i64 0, .int .i64 ((8 : Nat) : Int)]) (.agg #[.int .i64 0, .int .i64 ((8 : Nat) : Int)])).run Tryz.prog w = .ok (.bool true) w := by kernel_rfl
theorem arrN (k : Nat) (hk : k ≤ 8) (w : World) : (binOp .eql 31 (.agg #[.int .i64 0, .int .i64 k]) (.agg #[.int .i64 0, .int .i64 k])).run Tryz.prog w = .ok (.bool true) w :=
  match k, hk with
  | 0, _ => arrK0 w
  | 1, _ => arrK1 w
  | 2, _ => arrK2 w
  | 3, _ => arrK3 w
  | 4, _ => arrK4 w
  | 5, _ => arrK5 w
  | 6, _ => arrK6 w
  | 7, _ => arrK7 w
  | 8, _ => arrK8 w
  | k + 9, h => absurd h (by omega)
theorem lists_end {a b : ByteArray} {n : Nat} (h : decide (a = b) = decide (n < 2)) : ((a.toList == b.toList) == decide ((n : Int) < 2)) = true := by
  rw [beq_toList, h, beq_iff_eq, decide_eq_decide]
  omega
end Go.Proofs.YtacgopankhpnbaaGreatDoor
