/- Texts of this seat, joined: BlameB, BlameC, BlameD, BlameE, BlameF, SliceA, SliceB. -/
import Derived.Test.YtacgopankhpnbaaGreatDoorJFindsTopP
import Derived.Laws.MakeOwn
import Derived.Test.YtacgopankhpnbaaGreatDoorJFindsTopG
import Derived.Deep.RegionHeld3
import Derived.Laws.EntriesVeiled
/- Package blame: the blocks that read makes. -/
namespace Go.Proofs.YtacgopankhpnbaaGreatDoor
open Go.RowKit

/-- w' is w but for the blocks of S (and new blocks, and draws). -/
structure Off (S : Nat → Prop) (w w' : World) : Prop where
  os : w'.os = w.os
  tape : w'.tape = w.tape
  output : w'.output = w.output
  size : w.heap.size ≤ w'.heap.size
  block : ∀ k, k < w.heap.size → ¬ S k → w'.heap[k]? = w.heap[k]?
theorem Off.refl (S : Nat → Prop) (w : World) : Off S w w := ⟨rfl, rfl, rfl, Nat.le_refl _, fun _ _ _ => rfl⟩
theorem Off.trans {S : Nat → Prop} {u v w : World} (h : Off S u v) (k : Off S v w) : Off S u w :=
  ⟨k.os.trans h.os, k.tape.trans h.tape, k.output.trans h.output, Nat.le_trans h.size k.size, fun i hi hne => (k.block i (Nat.lt_of_lt_of_le hi h.size) hne).trans (h.block i hi hne)⟩
theorem Off.of_below {S : Nat → Prop} {w w' : World} (h : Below w.heap.size w w') : Off S w w' := ⟨h.os, h.tape, h.output, h.size, fun k hk _ => h.block k hk⟩
theorem Off.of_only {S : Nat → Prop} {b : Nat} {w w' : World} (h : Only b w w') (hb : S b) : Off S w w' := ⟨h.os, h.tape, h.output, h.size, fun k hk hn => h.block k hk (fun e => hn (e ▸ hb))⟩
theorem Off.below {S : Nat → Prop} {u w w' : World} {B : Nat} (h : Below B u w) (k : Off S w w') (hb : ∀ k, S k → B ≤ k) (hB : B ≤ w.heap.size) : Below B u w' :=
  ⟨k.os.trans h.os, k.tape.trans h.tape, k.output.trans h.output, Nat.le_trans h.size k.size, fun i hi => (k.block i (by omega) (fun hs => by have := hb i hs; omega)).trans (h.block i hi)⟩
theorem Off.cell {S : Nat → Prop} {w w' : World} (h : Off S w w') {k o : Nat} {v : Value} (hn : ¬ S k) (hc : w.cell? ⟨k, o, none⟩ = some v) : w'.cell? ⟨k, o, none⟩ = some v :=
  (World.cell?_of_block (w := w) (h.block k (cell_lt hc) hn)).trans hc
theorem Off.heap {S : Nat → Prop} {w w' : World} (h : Off S w w') {k : Nat} {o : Obj} (hn : ¬ S k) (hc : w.heap[k]? = some o) : w'.heap[k]? = some o :=
  (h.block k (Array.getElem?_eq_some_iff.1 hc).1 hn).trans hc
theorem Off.setCell {S : Nat → Prop} {b o : Nat} {v : Value} (w : World) (hb : S b) : Off S w (w.setCell ⟨b, o, none⟩ v) := Off.of_only (Only.setCell w) hb
theorem Off.drew {S : Nat → Prop} {u w : World} (h : Off S u w) : Off S u w.drew := ⟨h.os, h.tape, h.output, h.size, h.block⟩

theorem set_self {w : World} {g i : Nat} {cs : Array Value} {t : TypeId} {fr : Nat × Nat} (h : w.heap[g]? = some (.cells cs t fr)) (v : Value) : (w.setCell ⟨g, i, none⟩ v).heap[g]? = some (.cells (cs.setIfInBounds i v) t fr) := by
  simp [World.setCell, Array.getElem?_modify, h]

/-- An array of what was done. -/
def ArrDn (w : World) (g : Nat) (D : List (Value × Dn)) : Prop := w.heap[g]? = some (.cells (dnCells D).toArray 59)
theorem ArrDn.lt {w : World} {g : Nat} {D : List (Value × Dn)} (h : ArrDn w g D) : g < w.heap.size := (Array.getElem?_eq_some_iff.1 h).1
theorem ArrDn.later {w w' : World} {g : Nat} {D : List (Value × Dn)} (h : ArrDn w g D) (hb : Below w.heap.size w w') : ArrDn w' g D := heap_up hb h
theorem ArrDn.at_ {w : World} {g : Nat} {D : List (Value × Dn)} (h : ArrDn w g D) {i : Nat} {y : Value × Dn} (hy : D[i]? = some y) :
    (w.cell? ⟨g, i * 3, none⟩ = some (.int .i64 y.2.step) ∧ w.cell? ⟨g, i * 3 + 1, none⟩ = some y.1 ∧ w.cell? ⟨g, i * 3 + 2, none⟩ = some (.string y.2.out)) ∧
    (w.frozen? ⟨g, i * 3, none⟩ = false ∧ w.frozen? ⟨g, i * 3 + 1, none⟩ = false ∧ w.frozen? ⟨g, i * 3 + 2, none⟩ = false) := by
  obtain ⟨d0, d1, d2⟩ := dnCells_at D i y hy
  refine ⟨⟨?_, ?_, ?_⟩, ?_, ?_, ?_⟩ <;> simp [World.cell?, World.frozen?, show w.heap[g]? = _ from h, d0, d1, d2]
theorem dnCells_set : ∀ (D : List (Value × Dn)) (i : Nat) (y : Value × Dn), (((dnCells D).set (i * 3) (.int .i64 y.2.step)).set (i * 3 + 1) y.1).set (i * 3 + 2) (.string y.2.out) = dnCells (D.set i y)
  | [], i, y => by simp [dnCells]
  | x :: D, 0, y => rfl
  | x :: D, i + 1, y => by
    have := dnCells_set D i y
    rw [show (i + 1) * 3 = i * 3 + 1 + 1 + 1 by omega, List.set_cons_succ, show dnCells (x :: D.set i y) = .int .i64 x.2.step :: x.1 :: .string x.2.out :: dnCells (D.set i y) from rfl, ← this]
    rfl
theorem ArrDn.set {w : World} {g : Nat} {D : List (Value × Dn)} (h : ArrDn w g D) (i : Nat) (y : Value × Dn) :
    ArrDn (((w.setCell ⟨g, i * 3, none⟩ (.int .i64 y.2.step)).setCell ⟨g, i * 3 + 1, none⟩ y.1).setCell ⟨g, i * 3 + 2, none⟩ (.string y.2.out)) g (D.set i y) := by
  unfold ArrDn
  rw [set_self (set_self (set_self h _) _) _, ← dnCells_set]
  simp

/-- An array of bools. -/
def ArrB (w : World) (g : Nat) (T : List Bool) : Prop := w.heap[g]? = some (.cells (T.map Value.bool).toArray 4)
theorem ArrB.lt {w : World} {g : Nat} {T : List Bool} (h : ArrB w g T) : g < w.heap.size := (Array.getElem?_eq_some_iff.1 h).1
theorem ArrB.later {w w' : World} {g : Nat} {T : List Bool} (h : ArrB w g T) (hb : Below w.heap.size w w') : ArrB w' g T := heap_up hb h
theorem ArrB.at_ {w : World} {g : Nat} {T : List Bool} (h : ArrB w g T) {i : Nat} {q : Bool} (hq : T[i]? = some q) : w.cell? ⟨g, i, none⟩ = some (.bool q) ∧ w.frozen? ⟨g, i, none⟩ = false := by
  refine ⟨?_, ?_⟩ <;> simp [World.cell?, World.frozen?, show w.heap[g]? = _ from h, hq]
theorem ArrB.set {w : World} {g : Nat} {T : List Bool} (h : ArrB w g T) (i : Nat) (q : Bool) : ArrB (w.setCell ⟨g, i, none⟩ (.bool q)) g (T.set i q) := by
  unfold ArrB
  rw [set_self h]
  simp

/-! What make makes. -/
theorem dnCells_append (a b : List (Value × Dn)) : dnCells (a ++ b) = dnCells a ++ dnCells b := by simp [dnCells]
theorem made_dn (n : Nat) : madeCells #[.int .i64 0, .slice none 0 0, .string ByteArray.empty] (n * 3) = (dnCells (List.replicate n (.slice none 0 0, dnZero))).toArray := by
  apply Array.toList_inj.1
  show (madeCells _ (n * 3)).toList = dnCells (List.replicate n (.slice none 0 0, dnZero))
  unfold madeCells
  rw [Array.toList_map, Array.toList_range]
  induction n with
  | zero => rfl
  | succ n ih =>
    rw [List.replicate_succ', dnCells_append, ← ih, show (n + 1) * 3 = n * 3 + 1 + 1 + 1 by omega, List.range_succ, List.range_succ, List.range_succ]
    simp only [List.map_append, List.append_assoc]
    congr 1
    have h0 : n * 3 % 3 = 0 := by omega
    have h1 : (n * 3 + 1) % 3 = 1 := by omega
    have h2 : (n * 3 + 1 + 1) % 3 = 2 := by omega
    simp [h0, h1, h2, dnCells, dnZero]
    try rfl
theorem made_bool (n : Nat) : madeCells #[.bool false] n = Array.replicate n (.bool false) := by
  apply Array.toList_inj.1
  rw [toList_madeCells_one]; simp
theorem boolInfo : (Tryz.prog.info? 4).map (fun i => (i.zero, i.size, i.bytes)) = some (some (.bool false), 1, 1) := by kernel_rfl
theorem make_dns (n : Nat) (hn : n ≤ 1000000) (w : World) : (Instr.makeSlice 54 (.int .i64 (n : Int)) (.int .i64 (n : Int))).run Tryz.prog w = .ok (.slice (some ⟨w.heap.size, 0, none⟩) n n) (w.alloc (.cells (dnCells (List.replicate n (.slice none 0 0, dnZero))).toArray 59)) := by
  obtain ⟨i0, hi0, hz0, hz1, hz2⟩ := info_parts dnInfo
  have := run_makeSlice (P := Tryz.prog) (w := w) 54 59 i0 _ Tryz.underlying54 hi0 hz0 .i64 .i64 n n (by omega) (Int.le_refl _) (by rw [hz1]; simp; omega) (by rw [hz2]; omega) (by omega)
  rw [this, hz1, ← made_dn]
  rfl
theorem make_bools (n : Nat) (hn : n ≤ 1000000) (w : World) : (Instr.makeSlice 142 (.int .i64 (n : Int)) (.int .i64 (n : Int))).run Tryz.prog w = .ok (.slice (some ⟨w.heap.size, 0, none⟩) n n) (w.alloc (.cells (Array.replicate n (.bool false)) 4)) := by
  obtain ⟨i0, hi0, hz0, hz1, hz2⟩ := info_parts boolInfo
  have := run_makeSlice (P := Tryz.prog) (w := w) 142 4 i0 _ Tryz.underlying142 hi0 hz0 .i64 .i64 n n (by omega) (Int.le_refl _) (by rw [hz1]; simp; omega) (by rw [hz2]; omega) (by omega)
  rw [this, hz1, ← made_bool, Nat.mul_one]
  rfl
end Go.Proofs.YtacgopankhpnbaaGreatDoor
/- Package blame: how read goes on, in plain words; the state of its loops. -/
namespace Go.Proofs.YtacgopankhpnbaaGreatDoor
open Go.RowKit

/-! How read goes on. -/
theorem getElem?_drop {α : Type} {l : List α} {k : Nat} {x : α} (h : l[k]? = some x) : l.drop k = x :: l.drop (k + 1) := by
  obtain ⟨hk, e⟩ := List.getElem?_eq_some_iff.1 h
  rw [List.drop_eq_getElem_cons hk, e]
section
variable {steps : List Stp} {st : RSt} {d : Dn} {i : Nat} {s : Stp}
theorem readDn_neg (h : d.step < 0) : readDn steps st d = none := by unfold readDn; rw [if_pos h]
theorem readDn_far (h : (steps.length : Int) ≤ d.step) : readDn steps st d = none := by
  unfold readDn; rw [if_neg (by omega), List.getElem?_eq_none (by omega)]
theorem readDn_there (hd : d.step = (i : Int)) (hs : steps[i]? = some s) (ht : st.there i = true) : readDn steps st d = none := by
  unfold readDn; rw [if_neg (by omega), hd, Int.toNat_natCast, hs]; simp only; rw [if_pos (.inl ht)]
theorem readDn_saw (hd : d.step = (i : Int)) (hs : steps[i]? = some s) (hl : d.saw.length ≠ seesN s) : readDn steps st d = none := by
  unfold readDn; rw [if_neg (by omega), hd, Int.toNat_natCast, hs]; simp only; rw [if_pos (.inr hl)]
theorem readDn_in (hd : d.step = (i : Int)) (hs : steps[i]? = some s) (ht : st.there i = false) (hl : d.saw.length = seesN s) :
    readDn steps st d = (readSrc steps st.there st.of d.saw 0 s.src st.inp).map fun m => ⟨also st.there i, setDn st.of i d, m⟩ := by
  unfold readDn
  rw [if_neg (by omega), hd, Int.toNat_natCast, hs]
  simp only
  rw [if_neg (by rw [ht]; simp [hl])]
  cases readSrc steps st.there st.of d.saw 0 s.src st.inp <;> rfl
end
/-- Where read stands behind k elements. -/
def ReadAt (steps : List Stp) (l : List Dn) (k : Nat) (st : RSt) : Prop := readAll steps l rstZero = readAll steps (l.drop k) st
theorem ReadAt.first (steps : List Stp) (l : List Dn) : ReadAt steps l 0 rstZero := by unfold ReadAt; rw [List.drop_zero]
theorem ReadAt.last {steps : List Stp} {l : List Dn} {k : Nat} {st : RSt} (h : ReadAt steps l k st) (hk : l.length ≤ k) : readAll steps l rstZero = some st := by
  unfold ReadAt at h; rw [h, List.drop_of_length_le hk]; rfl
theorem ReadAt.bad {steps : List Stp} {l : List Dn} {k : Nat} {st : RSt} {d : Dn} (h : ReadAt steps l k st) (hd : l[k]? = some d) (hn : readDn steps st d = none) : readAll steps l rstZero = none := by
  unfold ReadAt at h; rw [h, getElem?_drop hd, readAll, hn]
theorem ReadAt.next_ {steps : List Stp} {l : List Dn} {k : Nat} {st st' : RSt} {d : Dn} (h : ReadAt steps l k st) (hd : l[k]? = some d) (hn : readDn steps st d = some st') : ReadAt steps l (k + 1) st' := by
  unfold ReadAt at h ⊢; rw [h, getElem?_drop hd, readAll, hn]

/-- Where the inner loop stands behind j names. -/
def SrcAt (steps : List Stp) (st : RSt) (saw src : List ByteArray) (j : Nat) (m : ByteArray → Option ByteArray) : Prop :=
  readSrc steps st.there st.of saw 0 src st.inp = readSrc steps st.there st.of saw j (src.drop j) m
theorem SrcAt.first (steps : List Stp) (st : RSt) (saw src : List ByteArray) : SrcAt steps st saw src 0 st.inp := by unfold SrcAt; rw [List.drop_zero]
section
variable {steps : List Stp} {st : RSt} {saw src : List ByteArray} {j i : Nat} {m : ByteArray → Option ByteArray} {x t u : ByteArray}
theorem SrcAt.last (h : SrcAt steps st saw src j m) (hj : src.length ≤ j) : readSrc steps st.there st.of saw 0 src st.inp = some m := by
  unfold SrcAt at h; rw [h, List.drop_of_length_le hj]; rfl
theorem SrcAt.bad (h : SrcAt steps st saw src j m) (hx : src[j]? = some x) (hn : readName steps st.there st.of saw j x m = none) : readSrc steps st.there st.of saw 0 src st.inp = none := by
  unfold SrcAt at h; rw [h, getElem?_drop hx, readSrc, hn]
theorem SrcAt.next_ {m' : ByteArray → Option ByteArray} (h : SrcAt steps st saw src j m) (hx : src[j]? = some x) (hn : readName steps st.there st.of saw j x m = some m') : SrcAt steps st saw src (j + 1) m' := by
  unfold SrcAt at h ⊢; rw [h, getElem?_drop hx, readSrc, hn]
theorem name_gone (hw : writerOf steps x = some i) (ht : st.there i = false) : readName steps st.there st.of saw j x m = none := by
  unfold readName; rw [hw]; simp [ht]
theorem name_blank (hw : writerOf steps x = some i) (ht : st.there i = true) (hs : saw[j]? = none) : readName steps st.there st.of saw j x m = some m := by
  unfold readName; rw [hw]; simp [ht, hs]
theorem name_same (hw : writerOf steps x = some i) (ht : st.there i = true) (hs : saw[j]? = some t) (e : t = (st.of i).out) : readName steps st.there st.of saw j x m = some m := by
  unfold readName; rw [hw]; simp [ht, hs, e]
theorem name_other (hw : writerOf steps x = some i) (ht : st.there i = true) (hs : saw[j]? = some t) (e : t ≠ (st.of i).out) : readName steps st.there st.of saw j x m = none := by
  unfold readName; rw [hw]; simp [ht, hs, e]
theorem inp_blank (hw : writerOf steps x = none) (hs : saw[j]? = none) : readName steps st.there st.of saw j x m = some m := by
  unfold readName; rw [hw]; simp [hs]
theorem inp_new (hw : writerOf steps x = none) (hs : saw[j]? = some t) (hm : m x = none) : readName steps st.there st.of saw j x m = some (setInp m x t) := by
  unfold readName; rw [hw]; simp [hs, hm]
theorem inp_same (hw : writerOf steps x = none) (hs : saw[j]? = some t) (hm : m x = some t) : readName steps st.there st.of saw j x m = some (setInp m x t) := by
  unfold readName; rw [hw]; simp only [hs, hm, if_true]
  congr 1
  funext y
  unfold setInp
  by_cases e : y = x
  · subst e; rw [if_pos rfl, hm]
  · rw [if_neg e]
theorem inp_other (hw : writerOf steps x = none) (hs : saw[j]? = some t) (hm : m x = some u) (e : t ≠ u) : readName steps st.there st.of saw j x m = none := by
  unfold readName; rw [hw]; simp [hs, hm, e]
end

/-! How a record stands in memory. -/
theorem zero_str (w : World) : (zeroValue 9).run Tryz.prog w = .ok (.string ByteArray.empty) w := by kernel_rfl
noncomputable def vStr : ValC Tryz.prog 9 ByteArray := strVal Tryz.underlying9 zero_str

/-- A record that fits, by steps. -/
structure RecIs (w : World) (g bm n : Nat) (st : RSt) (D : List (Value × Dn)) : Prop where
  arr : ArrDn w g D
  len : D.length = n
  saws : ∀ y, y ∈ D → Strs w y.1 y.2.saw ∧ y.2.out.size ≤ 140737488355328
  of : ∀ i, i < n → ∃ v, D[i]? = some (v, st.of i)
  map : ∃ nm, MapIs kStr vStr w bm nm st.inp
section
variable {w w' : World} {g bm n : Nat} {st : RSt} {D : List (Value × Dn)}
theorem RecIs.later (h : RecIs w g bm n st D) (hb : Below w.heap.size w w') : RecIs w' g bm n st D :=
  ⟨h.arr.later hb, h.len, fun y hy => ⟨(h.saws y hy).1.later hb, (h.saws y hy).2⟩, h.of, by obtain ⟨nm, hm⟩ := h.map; exact ⟨nm, hm.later hb⟩⟩
end
/-- Its blocks are new; its elements are those of the list, or zero. -/
structure RecFar (B : Nat) (Ld : List (Value × Dn)) (g bm : Nat) (D : List (Value × Dn)) : Prop where
  arr : B ≤ g
  map : B ≤ bm
  mem : ∀ y, y ∈ D → y ∈ Ld ∨ y = (.slice none 0 0, dnZero)
theorem RecFar.saws {B : Nat} {Ld : List (Value × Dn)} {g bm : Nat} {D : List (Value × Dn)} {w : World} {v : Value} (h : RecFar B Ld g bm D) (hl : Dns w v Ld) : ∀ y, y ∈ D → Strs w y.1 y.2.saw ∧ y.2.out.size ≤ 140737488355328 := fun y hy => by
  rcases h.mem y hy with hm | rfl
  · rcases hl.cases with ⟨rfl, -⟩ | ⟨b, o, c, -, -, -, -, -, hc⟩
    · cases hm
    · obtain ⟨i, hi⟩ := List.getElem?_of_mem hm
      exact ⟨(hc i y hi).2.2.2.1, (hc i y hi).2.2.2.2⟩
  · exact ⟨⟨none, 0, rfl, by simp [dnZero], by simp, fun h => absurd rfl h⟩, by decide⟩
/-- The value of a record that fits, and of none. -/
abbrev recV (g bm n : Nat) : Value := .agg #[.slice (some ⟨g, 0, none⟩) n n, .map (some bm)]
abbrev recNone : Value := .agg #[.slice none 0 0, .map none]
/-- What read hands back. -/
def RdPost (n : Nat) (Ld : List (Value × Dn)) (res : Option RSt) (w : World) (e : Ending) (w' : World) : Prop := Below w.heap.size w w' ∧ match res with
  | none => e = .returned (.tuple #[recNone, .bool false])
  | some st => ∃ g bm D, e = .returned (.tuple #[recV g bm n, .bool true]) ∧ RecIs w' g bm n st D ∧ RecFar w.heap.size Ld g bm D

/-- The blocks that read writes into: the array g, the map behind it, the array of marks. -/
def rdS (g : Nat) (k : Nat) : Prop := k = g ∨ k = g + 1 ∨ k = g + 1 + 1 + 1
/-- Read's state: B is a world in which all boxes stand. -/
structure RdW (g n : Nat) (B : World) (st : RSt) (T : List Bool) (D : List (Value × Dn)) (nm : Nat) (m : ByteArray → Option ByteArray) (wr : World) : Prop where
  off : Off (rdS g) B wr
  arr : ArrDn wr g D
  len : D.length = n
  thr : ArrB wr (g + 1 + 1 + 1) T
  tlen : T.length = n
  marks : ∀ i, i < n → T[i]? = some (st.there i)
  of : ∀ i, i < n → ∃ v, D[i]? = some (v, st.of i)
  map : MapIs kStr vStr wr (g + 1) nm m
section
variable {g n nm : Nat} {B wr w' : World} {st : RSt} {T : List Bool} {D : List (Value × Dn)} {m : ByteArray → Option ByteArray}
theorem RdW.later (h : RdW g n B st T D nm m wr) (hb : Below wr.heap.size wr w') : RdW g n B st T D nm m w' :=
  ⟨h.off.trans (Off.of_below hb), h.arr.later hb, h.len, h.thr.later hb, h.tlen, h.marks, h.of, h.map.later hb⟩
theorem RdW.rebase (h : RdW g n B st T D nm m wr) : RdW g n wr st T D nm m wr := ⟨Off.refl _ _, h.arr, h.len, h.thr, h.tlen, h.marks, h.of, h.map⟩
theorem RdW.put {x t : ByteArray} (h : RdW g n B st T D nm m wr) (hm : MapIs kStr vStr w' (g + 1) (nm + 1) (fun z => if z = x then some t else m z)) (hg : wr.grownBy w' (some (g + 1))) : RdW g n B st T D (nm + 1) (setInp m x t) w' := by
  have ho : Off (rdS g) wr w' := Off.of_only (only_grown hg) (.inr (.inl rfl))
  have hne : ∀ k, k < wr.heap.size → k ≠ g + 1 → w'.heap[k]? = wr.heap[k]? := fun k hk hn => hg.block k hk (by simpa using hn)
  exact ⟨h.off.trans ho, (hne _ h.arr.lt (by omega)).trans h.arr, h.len, (hne _ h.thr.lt (by omega)).trans h.thr, h.tlen, h.marks, h.of, hm⟩
end
end Go.Proofs.YtacgopankhpnbaaGreatDoor
/- Walks of package blame: read. -/
namespace Go.Proofs.YtacgopankhpnbaaGreatDoor
open Go.RowKit

theorem below_drewN {B : Nat} {w w' : World} (h : Below B w w') (n : Nat) : Below B w (w'.drewN n) := ⟨h.os, h.tape, h.output, h.size, h.block⟩
section
variable {g n nm : Nat} {B wr w' : World} {st : RSt} {T : List Bool} {D : List (Value × Dn)} {m : ByteArray → Option ByteArray}
theorem RdW.onto {wb : World} (h : RdW g n B st T D nm m wr) (hb : Off (rdS g) wb B) : RdW g n wb st T D nm m wr := ⟨hb.trans h.off, h.arr, h.len, h.thr, h.tlen, h.marks, h.of, h.map⟩
theorem RdW.did (h : RdW g n B st T D nm m wr) {i : Nat} {sv : Value} {d : Dn} (ha : ArrDn w' g (D.set i (sv, d))) (ht : ArrB w' (g + 1 + 1 + 1) (T.set i true)) (hm : MapIs kStr vStr w' (g + 1) nm m) (ho : Off (rdS g) wr w') (hi : i < n) :
    RdW g n B ⟨also st.there i, setDn st.of i d, m⟩ (T.set i true) (D.set i (sv, d)) nm m w' := by
  refine ⟨h.off.trans ho, ha, by rw [List.length_set]; exact h.len, ht, by rw [List.length_set]; exact h.tlen, fun j hj => ?_, fun j hj => ?_, hm⟩
  · show (T.set i true)[j]? = some (also st.there i j)
    unfold also
    rw [List.getElem?_set]
    by_cases e : i = j
    · subst e; simp [h.tlen, hi]
    · rw [if_neg e, if_neg (Ne.symm e)]; exact h.marks j hj
  · show ∃ v, (D.set i (sv, d))[j]? = some (v, setDn st.of i d j)
    unfold setDn
    rw [List.getElem?_set]
    by_cases e : i = j
    · subst e; exact ⟨sv, by simp [h.len, hi]⟩
    · rw [if_neg e, if_neg (Ne.symm e)]; exact h.of j hj
theorem RdW.drew (h : RdW g n B st T D nm m wr) : RdW g n B st T D nm m wr.drew := ⟨h.off.drew, h.arr, h.len, h.thr, h.tlen, h.marks, h.of, h.map⟩
theorem heap_set_ne {w : World} {b o k : Nat} {v : Value} (hk : k ≠ b) : (w.setCell ⟨b, o, none⟩ v).heap[k]? = w.heap[k]? := Below.heap_setCell _ _ _ _ hk
theorem RdW.didA (h : RdW g n B st T D nm m wr) {i : Nat} (sv : Value) (d : Dn) (hi : i < n) :
    RdW g n B ⟨also st.there i, setDn st.of i d, m⟩ (T.set i true) (D.set i (sv, d)) nm m ((((wr.setCell ⟨g + 1 + 1 + 1, i, none⟩ (.bool true)).setCell ⟨g, i * 3, none⟩ (.int .i64 d.step)).setCell ⟨g, i * 3 + 1, none⟩ sv).setCell ⟨g, i * 3 + 2, none⟩ (.string d.out)) := by
  have h' := h
  have h1 : ArrDn (wr.setCell ⟨g + 1 + 1 + 1, i, none⟩ (.bool true)) g D := (heap_set_ne (by omega)).trans h'.arr
  have h2 := h'.thr.set i true
  refine h.did (h1.set i (sv, d)) ?_ ?_ ?_ hi
  · exact (heap_set_ne (by omega)).trans ((heap_set_ne (by omega)).trans ((heap_set_ne (by omega)).trans h2))
  · exact h'.map.of_block ((heap_set_ne (by omega)).trans ((heap_set_ne (by omega)).trans ((heap_set_ne (by omega)).trans (heap_set_ne (by omega)))))
  · exact (((Off.setCell _ (.inr (.inr rfl))).trans (Off.setCell _ (.inl rfl))).trans (Off.setCell _ (.inl rfl))).trans (Off.setCell _ (.inl rfl))
theorem RdW.didB (h : RdW g n B st T D nm m wr) {i : Nat} (sv : Value) (d : Dn) (hi : i < n) :
    RdW g n B ⟨also st.there i, setDn st.of i d, m⟩ (T.set i true) (D.set i (sv, d)) nm m ((((wr.setCell ⟨g, i * 3, none⟩ (.int .i64 d.step)).setCell ⟨g, i * 3 + 1, none⟩ sv).setCell ⟨g, i * 3 + 2, none⟩ (.string d.out)).setCell ⟨g + 1 + 1 + 1, i, none⟩ (.bool true)) := by
  have h' := h
  have h1 := h'.arr.set i (sv, d)
  have h2 : ArrB (((wr.setCell ⟨g, i * 3, none⟩ (.int .i64 d.step)).setCell ⟨g, i * 3 + 1, none⟩ sv).setCell ⟨g, i * 3 + 2, none⟩ (.string d.out)) (g + 1 + 1 + 1) T :=
    (heap_set_ne (by omega)).trans ((heap_set_ne (by omega)).trans ((heap_set_ne (by omega)).trans h'.thr))
  refine h.did ((heap_set_ne (by omega)).trans h1) (h2.set i true) ?_ ?_ hi
  · exact h'.map.of_block ((heap_set_ne (by omega)).trans ((heap_set_ne (by omega)).trans ((heap_set_ne (by omega)).trans (heap_set_ne (by omega)))))
  · exact (((Off.setCell _ (.inl rfl)).trans (Off.setCell _ (.inl rfl))).trans (Off.setCell _ (.inl rfl))).trans (Off.setCell _ (.inr (.inr rfl)))
end
section
variable {w W : World} {a : Act} {p n : Nat} {x y : Value}
theorem rdW_first (n : Nat) (hw : w.heap.size = p) : RdW p n ((((w.alloc (.cells (dnCells (List.replicate n (.slice none 0 0, dnZero))).toArray 59)).alloc (.map #[] 0)).alloc (.cells #[.slice (some ⟨p, 0, none⟩) n n, .map (some (p + 1))] 113)).alloc (.cells (Array.replicate n (.bool false)) 4)) rstZero (List.replicate n false) (List.replicate n (.slice none 0 0, dnZero)) 0 (fun _ => none)
    ((((w.alloc (.cells (dnCells (List.replicate n (.slice none 0 0, dnZero))).toArray 59)).alloc (.map #[] 0)).alloc (.cells #[.slice (some ⟨p, 0, none⟩) n n, .map (some (p + 1))] 113)).alloc (.cells (Array.replicate n (.bool false)) 4)) := by
  subst hw
  refine ⟨Off.refl _ _, ?_, by simp, ?_, by simp, fun i hi => ?_, fun i hi => ⟨.slice none 0 0, ?_⟩, ?_⟩
  · exact heap_up (below_trans (below_trans (below_alloc _ _) (below_alloc _ _)) (below_alloc _ _)) (alloc_self w _)
  · have := alloc_self (((w.alloc (.cells (dnCells (List.replicate n (.slice none 0 0, dnZero))).toArray 59)).alloc (.map #[] 0)).alloc (.cells #[.slice (some ⟨w.heap.size, 0, none⟩) n n, .map (some (w.heap.size + 1))] 113)) (.cells (Array.replicate n (.bool false)) 4)
    unfold ArrB
    rw [show ((List.replicate n false).map Value.bool).toArray = Array.replicate n (.bool false) by simp]
    simpa only [World.size_alloc] using this
  · rw [List.getElem?_replicate, if_pos hi]; rfl
  · rw [List.getElem?_replicate, if_pos hi]; rfl
  · have := ((MapIs.made (K := kStr) (V := vStr) (w.alloc (.cells (dnCells (List.replicate n (.slice none 0 0, dnZero))).toArray 59))).later (below_alloc _ (.cells #[.slice (some ⟨w.heap.size, 0, none⟩) n n, .map (some (w.heap.size + 1))] 113))).later (below_alloc _ (.cells (Array.replicate n (.bool false)) 4))
    simpa only [World.size_alloc] using this
theorem read_none {Ld : List (Value × Dn)} (hz : W.heap[p]? = some (.cells #[x, y] 113)) (h4 : a.tmps[4]?.getD undef = .pointer (some ⟨p, 0, none⟩)) (h5 : a.tmps[5]?.getD undef = .bool false) (hd : a.defers = []) (hb : Below w.heap.size w W) (hp : w.heap.size ≤ p) :
    bodyPost Tryz.prog Tryz.f71 (RdPost n Ld none w) .ret a ((W.setCell ⟨p, 0, none⟩ (.slice none 0 0)).setCell ⟨p, 1, none⟩ (.map none)) := by
  obtain ⟨c0, c1, -, -⟩ := box2 (set2 (x := .slice none 0 0) (y := .map none) hz)
  exact bodyPost_ret (v := .tuple #[recNone, .bool false]) (by simp [results, Tryz.results71, go_sem, h4, h5, c0, c1]) hd ⟨(hb.setCell (by simp; omega) _).setCell (by simp; omega) _, rfl⟩
theorem read_some {Ld : List (Value × Dn)} {g bm : Nat} {st : RSt} {D : List (Value × Dn)} (hz : W.heap[p]? = some (.cells #[x, y] 113)) (h4 : a.tmps[4]?.getD undef = .pointer (some ⟨p, 0, none⟩)) (h5 : a.tmps[5]?.getD undef = .bool true) (hd : a.defers = []) (hb : Below w.heap.size w W) (hp : w.heap.size ≤ p)
    (hr : RecIs ((W.setCell ⟨p, 0, none⟩ (.slice (some ⟨g, 0, none⟩) n n)).setCell ⟨p, 1, none⟩ (.map (some bm))) g bm n st D) (hf : RecFar w.heap.size Ld g bm D) :
    bodyPost Tryz.prog Tryz.f71 (RdPost n Ld (some st) w) .ret a ((W.setCell ⟨p, 0, none⟩ (.slice (some ⟨g, 0, none⟩) n n)).setCell ⟨p, 1, none⟩ (.map (some bm))) := by
  obtain ⟨c0, c1, -, -⟩ := box2 (set2 (x := .slice (some ⟨g, 0, none⟩) n n) (y := .map (some bm)) hz)
  exact bodyPost_ret (v := .tuple #[recV g bm n, .bool true]) (by simp [results, Tryz.results71, go_sem, h4, h5, c0, c1]) hd ⟨(hb.setCell (by simp; omega) _).setCell (by simp; omega) _, g, bm, D, rfl, hr, hf⟩
end

set_option maxRecDepth 100000 in
set_option maxHeartbeats 8000000 in
theorem read_any (r : Rcp) (L : List (Value × Stp)) (Ld : List (Value × Dn)) (vi vs vl : Value) (w : World) (h : RcpIn r L vi vs w) (hl : Dns w vl Ld) :
    Calls Tryz.prog 71 #[rcpV vi vs r.output, vl] w (RdPost r.steps.length Ld (readL r (Ld.map (·.2))) w) := by
  have HR := Lib.hid h
  have HL := Lib.hid hl
  have hlen := h.len
  have HLen := Lib.hid hlen
  rw [hlen]
  generalize hres : readL r (Ld.map (·.2)) = res
  have HRes := Lib.hid hres
  clear hres
  obtain ⟨ai, ci, av, cv, rfl, rfl⟩ := h.slices
  obtain ⟨al, cl, rfl⟩ := dns_slice hl
  clear h hl
  have B1 := below_alloc w (rcpBox (.slice ai r.inputs.length ci) (.slice av L.length cv) r.output)
  have B2 := below_alloc (w.alloc (rcpBox (.slice ai r.inputs.length ci) (.slice av L.length cv) r.output)) (.cells #[.slice none 0 0, .map none] 113)
  have HB0 := Lib.hid (below_trans B1 B2)
  have HRb := Lib.hid (heap_up B2 (alloc_self w (rcpBox (.slice ai r.inputs.length ci) (.slice av L.length cv) r.output)))
  have HZb := Lib.hid (alloc_self (w.alloc (rcpBox (.slice ai r.inputs.length ci) (.slice av L.length cv) r.output)) (.cells #[.slice none 0 0, .map none] 113))
  simp only [World.size_alloc] at HZb
  clear B1 B2
  go_enter Tryz.func71, Tryz.ntmps71
  go_wp2_with fail
  refine (right_any r L _ _ _ (HR.out.later HB0.out)).mono ?_
  rintro e w1 ⟨rfl, hb⟩
  replace HRb := Lib.hid (heap_up hb HRb.out)
  replace HZb := Lib.hid (heap_up hb HZb.out)
  replace HB0 := Lib.hid (below_trans HB0.out hb)
  clear hb
  obtain ⟨r0, r1, r2⟩ := box3 HRb.out
  obtain ⟨z0, z1, f0, f1⟩ := box2 HZb.out
  by_cases he : inspectE r = 0
  · by_cases hn : Ld.length = L.length
    · replace HRes := Lib.hid (show readAll r.steps (Ld.map (·.2)) rstZero = res by rw [← HRes.out]; unfold readL; rw [if_neg (by simp [he, hn, hlen])])
      rw [he]
      have h60 : L.length ≤ 60 := by have := (inspectE_ok he).few; omega
      have HOk := Lib.hid (inspectE_ok he)
      clear he
      have HSz := Lib.hid hn
      have hmk := make_dns L.length (by omega)
      have hmb := make_bools L.length (by omega)
      have hmm := @run_makeMap Tryz.prog
      rw [hn] at HL ⊢
      clear hn
      go_wp2_with fail
      have hg0 : w.heap.size + 1 < w1.heap.size := (Array.getElem?_eq_some_iff.1 HZb.out).1
      have HFst := Lib.hid (rdW_first (w := w1) L.length rfl)
      have HB1 := Lib.hid (below_trans (below_trans (below_trans (below_alloc w1 (.cells (dnCells (List.replicate L.length (.slice none 0 0, dnZero))).toArray 59)) (below_alloc _ (.map #[] 0))) (below_alloc _ (.cells #[.slice (some ⟨w1.heap.size, 0, none⟩) L.length L.length, .map (some (w1.heap.size + 1))] 113))) (below_alloc _ (.cells (Array.replicate L.length (.bool false)) 4)))
      have HXb := Lib.hid (show ((((w1.alloc (.cells (dnCells (List.replicate L.length (.slice none 0 0, dnZero))).toArray 59)).alloc (.map #[] 0)).alloc (.cells #[.slice (some ⟨w1.heap.size, 0, none⟩) L.length L.length, .map (some (w1.heap.size + 1))] 113)).alloc (.cells (Array.replicate L.length (.bool false)) 4)).heap[w1.heap.size + 1 + 1]? = some (.cells #[.slice (some ⟨w1.heap.size, 0, none⟩) L.length L.length, .map (some (w1.heap.size + 1))] 113) from by
        have := heap_up (below_alloc _ (.cells (Array.replicate L.length (.bool false)) 4)) (alloc_self ((w1.alloc (.cells (dnCells (List.replicate L.length (.slice none 0 0, dnZero))).toArray 59)).alloc (.map #[] 0)) (.cells #[.slice (some ⟨w1.heap.size, 0, none⟩) L.length L.length, .map (some (w1.heap.size + 1))] 113))
        simpa only [World.size_alloc] using this)
      replace HRb := Lib.hid (heap_up HB1.out HRb.out)
      replace HZb := Lib.hid (heap_up HB1.out HZb.out)
      replace HB0 := Lib.hid (below_trans HB0.out HB1.out)
      clear HB1 r0 r1 r2 z0 z1 f0 f1 hmk hmb hmm
      generalize ((((w1.alloc (.cells (dnCells (List.replicate L.length (.slice none 0 0, dnZero))).toArray 59)).alloc (.map #[] 0)).alloc (.cells #[.slice (some ⟨w1.heap.size, 0, none⟩) L.length L.length, .map (some (w1.heap.size + 1))] 113)).alloc (.cells (Array.replicate L.length (.bool false)) 4)) = wb at HFst HXb HRb HZb HB0 ⊢
      generalize w1.heap.size = g at hg0 HFst HXb ⊢
      have HgS : Hid (∀ k, rdS g k → w.heap.size ≤ k) := Lib.hid (fun k hk => by rcases hk with rfl | rfl | rfl <;> omega)
      have HgN : Hid (¬ rdS g w.heap.size ∧ ¬ rdS g (w.heap.size + 1) ∧ ¬ rdS g (g + 1 + 1)) := Lib.hid ⟨fun hk => by rcases hk with e | e | e <;> omega, fun hk => by rcases hk with e | e | e <;> omega, fun hk => by rcases hk with e | e | e <;> omega⟩
      go_loopw [37] (fun i wr => ∃ (k : Nat) (st : RSt) (T : List Bool) (D : List (Value × Dn)) (nm : Nat), k ≤ L.length ∧ i = .int .i64 k ∧ Hid (ReadAt r.steps (Ld.map (·.2)) k st) ∧ Hid (RdW g L.length wb st T D nm st.inp wr) ∧ nm ≤ k * 60 ∧ Hid (∀ y, y ∈ D → y ∈ Ld ∨ y = (.slice none 0 0, dnZero))) (fun i _ => L.length - (intOf i).toNat)
      case atStart =>
        refine ⟨0, rstZero, _, _, 0, Nat.zero_le _, rfl, Lib.hid (ReadAt.first _ _), HFst, by omega, Lib.hid (fun y hy => ?_)⟩
        exact .inr (List.mem_replicate.1 hy).2
      case round =>
        obtain ⟨k, st, T, D, nm, hk, rfl, HAt, HW, hnm, HSaw⟩ := hrel
        have HBr := Lib.hid (HW.out.off.below HB0.out HgS.out HB0.out.size)
        obtain ⟨x0, x1, -, -⟩ := box2 (HW.out.off.heap HgN.out.2.2 HXb.out)
        obtain ⟨r0, r1, r2⟩ := box3 (HW.out.off.heap HgN.out.1 HRb.out)
        by_cases hlt : k < L.length
        · obtain ⟨y, hy, -⟩ := getElem?_of_lt (l := Ld) (k := k) (by rw [HSz.out]; exact hlt)
          have hlw := HL.out
          rw [← HSz.out] at hlw
          rcases hlw.cases with ⟨e, -⟩ | ⟨bl, ol, c, e, -, -, -, -, hc⟩
          · rw [e] at hy; simp at hy
          rw [HSz.out] at e
          obtain ⟨rfl, rfl⟩ : al = some ⟨bl, ol, none⟩ ∧ cl = c := by injection e with e1 e2 e3; exact ⟨e1, e3⟩
          obtain ⟨d0, d1, d2, dstr, doz⟩ := hc k y hy
          have HY := Lib.hid hy
          replace d0 := cell_later HBr.out d0
          replace d1 := cell_later HBr.out d1
          replace d2 := cell_later HBr.out d2
          clear hc e hy hlw
          obtain ⟨yv, step, saw, out⟩ := y
          simp only at d0 d1 d2 dstr doz
          have HOz := Lib.hid doz
          clear doz
          obtain ⟨sa, sc, rfl⟩ := strs_slice dstr
          have HStr := Lib.hid dstr
          clear dstr
          have HBd := Lib.hid (below_alloc wr (.cells #[.int .i64 step, .slice sa saw.length sc, .string out] 59))
          have HDb := Lib.hid (alloc_self wr (.cells #[.int .i64 step, .slice sa saw.length sc, .string out] 59))
          have hgw : g + 1 + 1 < wr.heap.size := cell_lt x0
          have hgw3 : g + 1 + 1 + 1 < wr.heap.size := HW.out.thr.lt
          have hkd : (Ld.map (·.2))[k]? = some ⟨step, saw, out⟩ := by rw [List.getElem?_map, HY.out]; rfl
          have HKd := Lib.hid hkd
          clear hkd r0 r1 r2 x0 x1
          go_wp2_with fail
          have HW9 := Lib.hid (HW.out.later HBd.out)
          have HB9 := Lib.hid (below_trans HBr.out HBd.out)
          have hb9 := HBd.out.size
          clear d0 d1 d2
          generalize wr.alloc (.cells #[.int .i64 step, .slice sa saw.length sc, .string out] 59) = w9 at HW9 HB9 HDb HBd hb9 ⊢
          obtain ⟨e0, e1, e2⟩ := box3 HDb.out
          have hq9 : wr.heap.size < w9.heap.size := cell_lt e0
          generalize wr.heap.size = q9 at hgw hgw3 HDb hq9 e0 e1 e2 ⊢
          by_cases hneg : step < 0
          · obtain rfl : res = none := by rw [← HRes.out]; exact HAt.out.bad HKd.out (readDn_neg hneg)
            have hq : decide (step < 0) = true := decide_eq_true hneg
            have HZ9 := Lib.hid (HW9.out.off.heap HgN.out.2.1 HZb.out)
            obtain ⟨z0, z1, f0, f1⟩ := box2 HZ9.out
            go_quiet (fail)
            go_wp2_with fail
            exact read_none (W := w9.drewN _) HZ9.out rfl rfl rfl (below_drewN HB9.out _) (Nat.le_succ _)
          · by_cases hfar : (L.length : Int) ≤ step
            · obtain rfl : res = none := by rw [← HRes.out]; exact HAt.out.bad HKd.out (readDn_far (by rw [HLen.out]; exact hfar))
              have hq : decide (step < 0) = false := decide_eq_false hneg
              have hq2 : decide ((L.length : Int) ≤ step) = true := decide_eq_true hfar
              have HZ9 := Lib.hid (HW9.out.off.heap HgN.out.2.1 HZb.out)
              obtain ⟨z0, z1, f0, f1⟩ := box2 HZ9.out
              go_quiet (fail)
              go_wp2_with fail
              exact read_none (W := w9.drewN _) HZ9.out rfl rfl rfl (below_drewN HB9.out _) (Nat.le_succ _)
            · obtain ⟨i, rfl⟩ : ∃ i : Nat, step = (i : Int) := ⟨step.toNat, by omega⟩
              have hi : i < L.length := by omega
              obtain ⟨ys, hys, hysm⟩ := getElem?_of_lt hi
              have HYs := Lib.hid hys
              have hst : r.steps[i]? = some ys.2 := by rw [← HR.out.map, List.getElem?_map, hys]; rfl
              have HSt := Lib.hid hst
              have HMk := Lib.hid (HW9.out.marks i hi)
              have hn0 : decide ((i : Int) < 0) = false := decide_eq_false hneg
              have hn1 : decide ((L.length : Int) ≤ (i : Int)) = false := decide_eq_false hfar
              have hn2 : decide (L.length ≤ i) = false := decide_eq_false (by omega)
              have hn3 : ¬ L.length ≤ i := by omega
              have hi0 : (0 : Int) ≤ (i : Int) := by omega
              have hi1 : (i : Int) < (L.length : Int) := by omega
              clear hst hneg hfar
              cases hmk : st.there i with
              | true =>
                rw [hmk] at HMk
                obtain rfl : res = none := by rw [← HRes.out]; exact HAt.out.bad HKd.out (readDn_there rfl HSt.out hmk)
                have HZ9 := Lib.hid (HW9.out.off.heap HgN.out.2.1 HZb.out)
                obtain ⟨z0, z1, f0, f1⟩ := box2 HZ9.out
                obtain ⟨t0, -⟩ := HW9.out.thr.at_ HMk.out
                clear hmk hys hysm
                go_quiet (fail)
                go_wp2_with fail
                exact read_none (W := w9.drewN _) HZ9.out rfl rfl rfl (below_drewN HB9.out _) (Nat.le_succ _)
              | false =>
                rw [hmk] at HMk
                have HNm := Lib.hid hmk
                obtain ⟨t0, -⟩ := HW9.out.thr.at_ HMk.out
                have HX9 := Lib.hid (HW9.out.off.heap HgN.out.2.2 HXb.out)
                have HZ9 := Lib.hid (HW9.out.off.heap HgN.out.2.1 HZb.out)
                have HR9 := Lib.hid (HW9.out.off.heap HgN.out.1 HRb.out)
                obtain ⟨r0, r1, r2⟩ := box3 HR9.out
                rcases HR.out.stp.cases with ⟨e, -⟩ | ⟨bs, os, c, e, -, -, -, -, hc⟩
                · rw [e] at hi; simp at hi
                obtain ⟨rfl, rfl⟩ : av = some ⟨bs, os, none⟩ ∧ cv = c := by injection e with e1 e2 e3; exact ⟨e1, e3⟩
                obtain ⟨s0, s1, s2, s3, hsrc, -⟩ := hc i ys hys
                replace s0 := cell_later HB9.out s0
                replace s1 := cell_later HB9.out s1
                replace s2 := cell_later HB9.out s2
                replace s3 := cell_later HB9.out s3
                have HSees := Lib.hid (sees_any ys w9.drew (hsrc.later HB9.out.drew))
                have hsrc60 := (stepRight_parts (HOk.out.steps ys.2 (List.mem_of_getElem? HSt.out))).2.2.1
                have HSrc := Lib.hid hsrc
                obtain ⟨ysv, kind, src, yo, sorted⟩ := ys
                simp only at s0 s1 s2 s3 HSees HSrc hsrc60 HSt hsrc
                obtain ⟨ya, yc, rfl⟩ := strs_slice hsrc
                clear hc e hmk hys hysm hsrc
                generalize hns : seesN ⟨kind, src, yo, sorted⟩ = ns at HSees
                have HNs := Lib.hid hns
                clear hns
                by_cases hsw : saw.length = ns
                · have hsw1 : ((saw.length : Int) == (ns : Int)) = true := by rw [hsw]; simp
                  have hsw2 : ((saw.length : Int) != (ns : Int)) = false := by rw [hsw]; simp
                  go_region_held3 (fun W => (W.cell? ⟨q9, 0, none⟩ = some (.int .i64 (i : Int)) ∧ W.cell? ⟨q9, 1, none⟩ = some (.slice sa saw.length sc)) ∧ W.cell? ⟨w.heap.size, 1, none⟩ = some (.slice (some ⟨bs, os, none⟩) L.length cv) ∧ W.cell? ⟨g + 1 + 1 + 1, i, none⟩ = some (.bool false) ∧ (W.cell? ⟨bs, os + i * 4, none⟩ = some (.int .i64 kind) ∧ W.cell? ⟨bs, os + i * 4 + 1, none⟩ = some (.slice ya src.length yc) ∧ W.cell? ⟨bs, os + i * 4 + 2, none⟩ = some (.string yo) ∧ W.cell? ⟨bs, os + i * 4 + 3, none⟩ = some (.bool sorted)))
                    (first | (with_reducible exact ⟨⟨e0, e1⟩, r1, t0, s0, s1, s2, s3⟩) | (with_reducible exact HC10.out) | go_keep)
                    (first | (go_at_call 77; (with_reducible refine HSees.out.mono ?_); rintro e w10 ⟨rfl, hb⟩; have HB10 : Hid (Below w9.heap.size w9 w10) := Lib.hid ((Below.refl _ w9).drew.trans hb); have HC10 : Hid ((_ ∧ _) ∧ _ ∧ _ ∧ _ ∧ _ ∧ _ ∧ _) := Lib.hid ⟨⟨cell_later HB10.out e0, cell_later HB10.out e1⟩, cell_later HB10.out r1, cell_later HB10.out t0, cell_later HB10.out s0, cell_later HB10.out s1, cell_later HB10.out s2, cell_later HB10.out s3⟩; clear hb))
                  obtain ⟨⟨e0, e1⟩, r1, t0, s0, s1, s2, s3⟩ := HC10.out
                  have HW10 := Lib.hid (HW9.out.later HB10.out).rebase
                  have HO10 := Lib.hid ((HW9.out.later HB10.out).off)
                  have HD10 := Lib.hid (heap_up HB10.out HDb.out)
                  have HX10 := Lib.hid (heap_up HB10.out HX9.out)
                  have HZ10 := Lib.hid (heap_up HB10.out HZ9.out)
                  have HR10 := Lib.hid (heap_up HB10.out HR9.out)
                  have HBw := Lib.hid (below_trans HB9.out HB10.out)
                  go_wp2_with fail
                  have HSt0 := Lib.hid (show SrcAt r.steps st saw src 0 st.inp from SrcAt.first _ _ _ _)
                  have HLs := Lib.hid (show saw.length = src.length ∨ saw = [] from by
                    have := HNs.out
                    unfold seesN at this
                    simp only at this
                    split at this
                    · right; exact List.eq_nil_of_length_eq_zero (by omega)
                    · left; omega)
                  have hgN : ¬ rdS g q9 := fun hk => by rcases hk with e | e | e <;> omega
                  have HqN := Lib.hid hgN
                  clear hgN e0 e1 e2 r0 r1 r2 t0 s0 s1 s2 s3 HC10
                  go_loopw [80] (fun jv wr2 => ∃ (j nm2 : Nat) (m : ByteArray → Option ByteArray), j ≤ src.length ∧ jv = .int .i64 j ∧ Hid (SrcAt r.steps st saw src j m) ∧ Hid (RdW g L.length w10 st T D nm2 m wr2) ∧ nm2 ≤ nm + j) (fun jv _ => src.length - (intOf jv).toNat)
                  case atStart => exact ⟨0, nm, st.inp, Nat.zero_le _, rfl, HSt0, HW10, by omega⟩
                  case round =>
                    obtain ⟨j, nm2, m, hj, rfl, HAt2, HW2, hnm2⟩ := hrel
                    rename World => wr2
                    have HB2 := Lib.hid (HW2.out.off.below HBw.out HgS.out HBw.out.size)
                    have HD2 := Lib.hid (HW2.out.off.heap HqN.out HD10.out)
                    have HX2 := Lib.hid (HW2.out.off.heap HgN.out.2.2 HX10.out)
                    have HZ2 := Lib.hid (HW2.out.off.heap HgN.out.2.1 HZ10.out)
                    have HR2 := Lib.hid (HW2.out.off.heap HgN.out.1 HR10.out)
                    by_cases hlt2 : j < src.length
                    · obtain ⟨x, hx, -⟩ := getElem?_of_lt hlt2
                      rcases (HSrc.out.later HB2.out).cases with ⟨e, -⟩ | ⟨bx, ox, cx, e, -, -, -, -, hcx⟩
                      · rw [e] at hlt2; simp at hlt2
                      obtain ⟨rfl, rfl⟩ : ya = some ⟨bx, ox, none⟩ ∧ yc = cx := by injection e with e1 e2 e3; exact ⟨e1, e3⟩
                      obtain ⟨xc, xz⟩ := hcx j x hx
                      obtain ⟨r0, r1, r2⟩ := box3 HR2.out
                      have HX := Lib.hid hx
                      have HXz := Lib.hid xz
                      clear hcx e hx xz
                      go_wp2_with fail
                      refine (writer_any r L _ _ x wr2 (HR.out.later HB2.out)).mono ?_
                      rintro e w11 ⟨rfl, hb⟩
                      have HW11 := Lib.hid (HW2.out.later hb)
                      have HB11 := Lib.hid (below_trans HB2.out hb)
                      replace HD2 := Lib.hid (heap_up hb HD2.out)
                      replace HX2 := Lib.hid (heap_up hb HX2.out)
                      replace HZ2 := Lib.hid (heap_up hb HZ2.out)
                      clear hb r0 r1 r2 xc
                      obtain ⟨e0, e1, e2⟩ := box3 HD2.out
                      obtain ⟨x0, x1, -, -⟩ := box2 HX2.out
                      have hlk := HW11.out.map.look2 Tryz.underlying111 (x := x) (Nat.le_trans HXz.out maxLen_val)
                      have HLk : Hid ((Instr.lookup 111 (.map (some (g + 1))) (.string x) true).run Tryz.prog w11 = .ok (.tuple #[.string ((m x).getD ⟨#[]⟩), .bool (m x).isSome]) w11) := Lib.hid hlk
                      clear hlk
                      cases hwr : writerOf r.steps x with
                      | some iw =>
                        have HWr := Lib.hid hwr
                        have hiw : iw < L.length := by have := (List.findIdx?_eq_some_iff_getElem.1 hwr).1; omega
                        have HMw := Lib.hid (HW11.out.marks iw hiw)
                        have hw1 : wIdx (some iw) = (iw : Int) := rfl
                        rw [hw1]
                        clear hw1 hwr
                        have hiw0 : (0 : Int) ≤ (iw : Int) := by omega
                        have hiw1 : (iw : Int) < (L.length : Int) := by omega
                        have hiw2 : ¬ (iw : Int) < 0 := by omega
                        have hiw3 : decide ((iw : Int) < 0) = false := decide_eq_false hiw2
                        cases hmw : st.there iw with
                        | false =>
                          rw [hmw] at HMw
                          obtain rfl : res = none := by rw [← HRes.out]; exact HAt.out.bad HKd.out (by rw [readDn_in rfl HSt.out HNm.out (by rw [HNs.out]; exact hsw), HAt2.out.bad HX.out (name_gone HWr.out hmw)]; rfl)
                          obtain ⟨t0, -⟩ := HW11.out.thr.at_ HMw.out
                          obtain ⟨z0, z1, f0, f1⟩ := box2 HZ2.out
                          clear hmw
                          go_wp2_with fail
                          exact read_none HZ2.out rfl rfl rfl HB11.out (Nat.le_succ _)
                        | true =>
                          rw [hmw] at HMw
                          have HMt := Lib.hid hmw
                          obtain ⟨t0, -⟩ := HW11.out.thr.at_ HMw.out
                          clear hmw
                          by_cases hsn : saw = []
                          · have hlen0 : saw.length = 0 := by rw [hsn]; rfl
                            have HAt3 := Lib.hid (HAt2.out.next_ HX.out (name_blank (m := m) (j := j) HWr.out HMt.out (by rw [hsn]; rfl)))
                            clear hsn
                            go_wp2_with fail
                            go_roundw
                            case rel => exact ⟨j + 1, nm2, m, by omega, by go_num, HAt3, HW11, by omega⟩
                            case measure => simp [intOf]; omega
                          · have hsl : saw.length = src.length := by rcases HLs.out with h | h; exact h; exact absurd h hsn
                            have hl0 : ((saw.length : Int) == 0) = false := beq_eq_false_iff_ne.2 (by omega)
                            obtain ⟨t, ht, -⟩ := getElem?_of_lt (l := saw) (k := j) (by omega)
                            rcases (HStr.out.later HB11.out).cases with ⟨e, -⟩ | ⟨by', oy, cy, e, -, -, -, -, hcy⟩
                            · exact absurd e hsn
                            obtain ⟨rfl, rfl⟩ : sa = some ⟨by', oy, none⟩ ∧ sc = cy := by injection e with e1 e2 e3; exact ⟨e1, e3⟩
                            obtain ⟨y0, -⟩ := hcy j t ht
                            have HT := Lib.hid ht
                            obtain ⟨vw, hvw⟩ := HW11.out.of iw hiw
                            obtain ⟨⟨-, -, o2⟩, -⟩ := HW11.out.arr.at_ hvw
                            simp only at o2
                            have hj1 : (j : Int) < (saw.length : Int) := by omega
                            have hlk := HLk.out
                            clear hcy e ht hsn hvw
                            by_cases hte : t = (st.of iw).out
                            · have HAt3 := Lib.hid (HAt2.out.next_ HX.out (name_same (m := m) (j := j) HWr.out HMt.out HT.out hte))
                              rw [← hte] at o2
                              clear hte
                              go_wp2_with fail
                              go_roundw
                              case rel => exact ⟨j + 1, nm2, m, by omega, by go_num, HAt3, HW11, by omega⟩
                              case measure => simp [intOf]; omega
                            · obtain rfl : res = none := by rw [← HRes.out]; exact HAt.out.bad HKd.out (by rw [readDn_in rfl HSt.out HNm.out (by rw [HNs.out]; exact hsw), HAt2.out.bad HX.out (name_other HWr.out HMt.out HT.out hte)]; rfl)
                              have hte2 : (t.toList == (st.of iw).out.toList) = false := by rw [beq_toList]; exact decide_eq_false hte
                              obtain ⟨z0, z1, f0, f1⟩ := box2 HZ2.out
                              go_wp2_with fail
                              exact read_none HZ2.out rfl rfl rfl HB11.out (Nat.le_succ _)
                      | none =>
                        have HWr := Lib.hid hwr
                        have hw1 : wIdx none = (-1 : Int) := rfl
                        rw [hw1]
                        clear hw1 hwr
                        by_cases hsn : saw = []
                        · have hlen0 : saw.length = 0 := by rw [hsn]; rfl
                          have HAt3 := Lib.hid (HAt2.out.next_ HX.out (inp_blank (m := m) (j := j) HWr.out (by rw [hsn]; rfl)))
                          clear hsn
                          go_wp2_with fail
                          go_roundw
                          case rel => exact ⟨j + 1, nm2, m, by omega, by go_num, HAt3, HW11, by omega⟩
                          case measure => simp [intOf]; omega
                        · have hsl : saw.length = src.length := by rcases HLs.out with h | h; exact h; exact absurd h hsn
                          have hl0 : ((saw.length : Int) == 0) = false := beq_eq_false_iff_ne.2 (by omega)
                          obtain ⟨t, ht, -⟩ := getElem?_of_lt (l := saw) (k := j) (by omega)
                          rcases (HStr.out.later HB11.out).cases with ⟨e, -⟩ | ⟨by', oy, cy, e, -, -, -, -, hcy⟩
                          · exact absurd e hsn
                          obtain ⟨rfl, rfl⟩ : sa = some ⟨by', oy, none⟩ ∧ sc = cy := by injection e with e1 e2 e3; exact ⟨e1, e3⟩
                          obtain ⟨y0, yz⟩ := hcy j t ht
                          have HT := Lib.hid ht
                          have HTz := Lib.hid yz
                          have hj0 : (0 : Int) ≤ (j : Int) := by omega
                          have hj1 : (j : Int) < (saw.length : Int) := by omega
                          clear hcy e ht hsn yz
                          obtain ⟨w12, hrun, hm12, hg12⟩ := HW11.out.map.drew.store Tryz.underlying111 (by unfold maxLen; omega) (x := x) (Nat.le_trans HXz.out maxLen_val) (y := t) (Nat.le_trans HTz.out maxLen_val)
                          have HRun : Hid ((Instr.mapUpdate 111 (.map (some (g + 1))) (.string x) (.string t)).run Tryz.prog w11.drew = .ok () w12) := Lib.hid hrun
                          have HW12 := Lib.hid (HW11.out.drew.put (x := x) (t := t) (hm12.ext (fun z => by by_cases hz : z = x <;> simp [hz])) hg12)
                          clear hrun hm12 hg12
                          cases hmx : m x with
                          | none =>
                            have hlk := HLk.out
                            rw [hmx] at hlk
                            simp only [Option.getD_none, Option.isSome_none] at hlk
                            have HAt3 := Lib.hid (HAt2.out.next_ HX.out (inp_new (j := j) HWr.out HT.out hmx))
                            have hrun := HRun.out
                            clear hmx
                            go_wp2_with fail
                            go_region
                            go_wp2_with fail
                            go_roundw
                            case rel => exact ⟨j + 1, nm2 + 1, _, by omega, by go_num, HAt3, HW12, by omega⟩
                            case measure => simp [intOf]; omega
                          | some u =>
                            have hlk := HLk.out
                            rw [hmx] at hlk
                            simp only [Option.getD_some, Option.isSome_some] at hlk
                            by_cases htu : t = u
                            · subst htu
                              have HAt3 := Lib.hid (HAt2.out.next_ HX.out (inp_same (j := j) HWr.out HT.out hmx))
                              have hrun := HRun.out
                              clear hmx
                              go_wp2_with fail
                              go_region
                              go_wp2_with fail
                              go_roundw
                              case rel => exact ⟨j + 1, nm2 + 1, _, by omega, by go_num, HAt3, HW12, by omega⟩
                              case measure => simp [intOf]; omega
                            · obtain rfl : res = none := by rw [← HRes.out]; exact HAt.out.bad HKd.out (by rw [readDn_in rfl HSt.out HNm.out (by rw [HNs.out]; exact hsw), HAt2.out.bad HX.out (inp_other (j := j) HWr.out HT.out hmx htu)]; rfl)
                              have htu2 : (t.toList == u.toList) = false := by rw [beq_toList]; exact decide_eq_false htu
                              obtain ⟨z0, z1, f0, f1⟩ := box2 HZ2.out
                              clear hmx
                              go_wp2_with fail
                              exact read_none HZ2.out rfl rfl rfl HB11.out (Nat.le_succ _)
                    · obtain rfl : j = src.length := by omega
                      have hlast := HAt2.out.last (Nat.le_refl _)
                      have HAt3 := Lib.hid (HAt.out.next_ HKd.out (readDn_in (d := ⟨(i : Int), saw, out⟩) rfl HSt.out HNm.out (by rw [HNs.out]; exact hsw) |>.trans (by rw [hlast]; rfl)))
                      obtain ⟨e0, e1, e2⟩ := box3 HD2.out
                      obtain ⟨x0, x1, -, -⟩ := box2 HX2.out
                      obtain ⟨t0, t1⟩ := HW2.out.thr.at_ HMk.out
                      obtain ⟨vo, hvo⟩ := HW2.out.of i hi
                      obtain ⟨⟨o0, o1, o2⟩, p0, p1, p2⟩ := HW2.out.arr.at_ hvo
                      have HA := Lib.hid ((HW2.out.onto HO10.out).didA (.slice sa ns sc) ⟨(i : Int), saw, out⟩ hi).drew
                      have HBo := Lib.hid ((HW2.out.onto HO10.out).didB (.slice sa ns sc) ⟨(i : Int), saw, out⟩ hi).drew
                      have HStr2 : Hid (Strs w (.slice sa ns sc) saw) := Lib.hid (by rw [← hsw]; exact HStr.out)
                      have HSaw2 : Hid (∀ y, y ∈ D.set i (.slice sa ns sc, ⟨(i : Int), saw, out⟩) → y ∈ Ld ∨ y = (.slice none 0 0, dnZero)) := Lib.hid (fun y hy => by
                        rcases List.mem_or_eq_of_mem_set hy with h | rfl
                        · exact HSaw.out y h
                        · exact .inl (by rw [← hsw]; exact List.mem_of_getElem? HY.out))
                      have hqg : q9 ≠ g ∧ q9 ≠ g + 1 + 1 + 1 := ⟨by omega, by omega⟩
                      obtain ⟨hq0, hq3⟩ := hqg
                      clear hlast hvo
                      go_wp2_with fail
                      go_region
                      all_goals
                        go_wp2_with fail
                        go_roundw
                        case rel => first | exact ⟨k + 1, _, _, _, nm2, by omega, by go_num, HAt3, HA, by omega, HSaw2⟩ | exact ⟨k + 1, _, _, _, nm2, by omega, by go_num, HAt3, HBo, by omega, HSaw2⟩
                        case measure => simp [intOf]; omega
                · obtain rfl : res = none := by rw [← HRes.out]; exact HAt.out.bad HKd.out (readDn_saw rfl HSt.out (by rw [HNs.out]; exact hsw))
                  have hsw1 : ((saw.length : Int) == (ns : Int)) = false := beq_eq_false_iff_ne.2 (by omega)
                  have hsw2 : ((saw.length : Int) != (ns : Int)) = true := by rw [bne_iff_ne]; omega
                  go_region_held3 (fun W => (W.cell? ⟨q9, 0, none⟩ = some (.int .i64 (i : Int)) ∧ W.cell? ⟨q9, 1, none⟩ = some (.slice sa saw.length sc)) ∧ W.cell? ⟨w.heap.size, 1, none⟩ = some (.slice (some ⟨bs, os, none⟩) L.length cv) ∧ W.cell? ⟨g + 1 + 1 + 1, i, none⟩ = some (.bool false) ∧ (W.cell? ⟨bs, os + i * 4, none⟩ = some (.int .i64 kind) ∧ W.cell? ⟨bs, os + i * 4 + 1, none⟩ = some (.slice ya src.length yc) ∧ W.cell? ⟨bs, os + i * 4 + 2, none⟩ = some (.string yo) ∧ W.cell? ⟨bs, os + i * 4 + 3, none⟩ = some (.bool sorted)))
                    (first | (with_reducible exact ⟨⟨e0, e1⟩, r1, t0, s0, s1, s2, s3⟩) | (with_reducible exact HC10.out) | go_keep)
                    (first | (go_at_call 77; (with_reducible refine HSees.out.mono ?_); rintro e w10 ⟨rfl, hb⟩; have HB10 : Hid (Below w9.heap.size w9 w10) := Lib.hid ((Below.refl _ w9).drew.trans hb); have HC10 : Hid ((_ ∧ _) ∧ _ ∧ _ ∧ _ ∧ _ ∧ _ ∧ _) := Lib.hid ⟨⟨cell_later HB10.out e0, cell_later HB10.out e1⟩, cell_later HB10.out r1, cell_later HB10.out t0, cell_later HB10.out s0, cell_later HB10.out s1, cell_later HB10.out s2, cell_later HB10.out s3⟩; clear hb))
                  obtain ⟨⟨e0, e1⟩, r1, t0, s0, s1, s2, s3⟩ := HC10.out
                  obtain ⟨z0, z1, f0, f1⟩ := box2 (heap_up HB10.out HZ9.out)
                  go_wp2_with fail
                  exact read_none (heap_up HB10.out HZ9.out) rfl rfl rfl (below_trans HB9.out HB10.out) (Nat.le_succ _)
        · obtain rfl : k = L.length := by omega
          have hr := HAt.out.last (by rw [List.length_map, HSz.out]; exact Nat.le_refl _)
          obtain rfl : res = some st := by rw [← HRes.out]; exact hr
          obtain ⟨z0, z1, f0, f1⟩ := box2 (HW.out.off.heap HgN.out.2.1 HZb.out)
          go_wp2_with fail
          refine read_some (D := D) (HW.out.off.heap HgN.out.2.1 HZb.out) rfl rfl rfl HBr.out (Nat.le_succ _) ?_ ⟨by omega, by omega, HSaw.out⟩
          have hne : ∀ q, q ≠ w.heap.size + 1 → ((wr.setCell ⟨w.heap.size + 1, 0, none⟩ (.slice (some ⟨g, 0, none⟩) L.length L.length)).setCell ⟨w.heap.size + 1, 1, none⟩ (.map (some (g + 1)))).heap[q]? = wr.heap[q]? := fun q hq => (heap_set_ne hq).trans (heap_set_ne hq)
          have hbe : Below w.heap.size w ((wr.setCell ⟨w.heap.size + 1, 0, none⟩ (.slice (some ⟨g, 0, none⟩) L.length L.length)).setCell ⟨w.heap.size + 1, 1, none⟩ (.map (some (g + 1)))) := (HBr.out.setCell (by simp) _).setCell (by simp) _
          have hfar : RecFar w.heap.size Ld g (g + 1) D := ⟨by omega, by omega, HSaw.out⟩
          have hsaws := hfar.saws (by rw [← HSz.out] at HL; exact HL.out)
          exact ⟨(hne _ (by omega)).trans HW.out.arr, HW.out.len, fun y hy => ⟨(hsaws y hy).1.later hbe, (hsaws y hy).2⟩, HW.out.of, nm, HW.out.map.of_block (hne _ (by omega))⟩
    · obtain rfl : res = none := by rw [← HRes.out]; unfold readL; rw [if_pos (by simp [hn, hlen])]
      rw [he]
      have hne : ((Ld.length : Int) == (L.length : Int)) = false := beq_eq_false_iff_ne.2 (by omega)
      have hne2 : ((Ld.length : Int) != (L.length : Int)) = true := by rw [bne_iff_ne]; omega
      clear HRes he
      go_wp2_with fail
      exact read_none HZb.out rfl rfl rfl HB0.out (Nat.le_succ _)
  · obtain rfl : res = none := by rw [← HRes.out]; unfold readL; rw [if_pos (.inl he)]
    have h0 : (inspectE r == 0) = false := beq_eq_false_iff_ne.2 he
    have h1 : (inspectE r != 0) = true := by rw [bne_iff_ne]; exact he
    clear HRes he
    generalize inspectE r = q at h0 h1 ⊢
    go_wp2_with fail
    exact read_none HZb.out rfl rfl rfl HB0.out (Nat.le_succ _)
end Go.Proofs.YtacgopankhpnbaaGreatDoor
/- Walks of package blame: Fits, text, Text, both. -/
namespace Go.Proofs.YtacgopankhpnbaaGreatDoor
open Go.RowKit

/-- The value of a record. -/
def recOf (n : Nat) (B : Nat) (Ld : List (Value × Dn)) (w : World) (res : Option RSt) (v : Value) : Prop := match res with
  | none => v = recNone
  | some st => ∃ g bm D, v = recV g bm n ∧ RecIs w g bm n st D ∧ RecFar B Ld g bm D
theorem RdPost.parts {n : Nat} {Ld : List (Value × Dn)} {res : Option RSt} {w w' : World} {e : Ending} (h : RdPost n Ld res w e w') : ∃ x0 x1, e = .returned (.tuple #[.agg #[x0, x1], .bool res.isSome]) ∧ recOf n w.heap.size Ld w' res (.agg #[x0, x1]) ∧ Below w.heap.size w w' := by
  cases res with
  | none => exact ⟨_, _, h.2, rfl, h.1⟩
  | some st => obtain ⟨g, bm, D, e, hr, hf⟩ := h.2; exact ⟨_, _, e, ⟨g, bm, D, rfl, hr, hf⟩, h.1⟩
theorem recOf.later {n B : Nat} {Ld : List (Value × Dn)} {w w' : World} {res : Option RSt} {v : Value} (h : recOf n B Ld w res v) (hb : Below w.heap.size w w') : recOf n B Ld w' res v := by
  cases res with
  | none => exact h
  | some st => obtain ⟨g, bm, D, e, hr, hf⟩ := h; exact ⟨g, bm, D, e, hr.later hb, hf⟩
/-- A record stays as it is where its blocks do, and the list's. -/
theorem recOf.keep {n B : Nat} {Ld : List (Value × Dn)} {u w w' : World} {vl : Value} {res : Option RSt} {v : Value} (h : recOf n B Ld w res v) (hb : ∀ k, B ≤ k → k < w.heap.size → w'.heap[k]? = w.heap[k]?) (hl : Dns u vl Ld) (hu : Below u.heap.size u w') : recOf n B Ld w' res v := by
  cases res with
  | none => exact h
  | some st =>
    obtain ⟨g, bm, D, e, hr, hf⟩ := h
    refine ⟨g, bm, D, e, ⟨(hb _ hf.arr hr.arr.lt).trans hr.arr, hr.len, fun y hy => ⟨((hf.saws hl) y hy).1.later hu, ((hf.saws hl) y hy).2⟩, hr.of, ?_⟩, hf⟩
    obtain ⟨nm, hm⟩ := hr.map
    exact ⟨nm, hm.of_block (hb _ hf.map hm.lt)⟩
/-- The forms of a record's two cells. -/
theorem recOf.form {n B : Nat} {Ld : List (Value × Dn)} {w : World} {res : Option RSt} {x0 x1 : Value} (h : recOf n B Ld w res (.agg #[x0, x1])) : ∃ a m b, x0 = .slice a m m ∧ x1 = .map b := by
  cases res with
  | none =>
    have e : (Value.agg #[x0, x1]) = .agg #[.slice none 0 0, .map none] := h
    injection e with e; simp at e
    exact ⟨none, 0, none, e.1, e.2⟩
  | some st =>
    obtain ⟨g, bm, D, e, -⟩ := h
    injection e with e; simp at e
    exact ⟨some ⟨g, 0, none⟩, n, some bm, e.1, e.2⟩
abbrev recBox (x0 x1 : Value) : Obj := .cells #[x0, x1] 113

set_option maxRecDepth 100000 in
theorem fits_any (r : Rcp) (L : List (Value × Stp)) (Ld : List (Value × Dn)) (vi vs vl : Value) (w : World) (h : RcpIn r L vi vs w) (hl : Dns w vl Ld) :
    Calls Tryz.prog 39 #[rcpV vi vs r.output, vl] w fun e w' => e = .returned (.bool (readL r (Ld.map (·.2))).isSome) ∧ Below w.heap.size w w' := by
  have HB0 := Lib.hid (below_alloc w (rcpBox vi vs r.output))
  have HRd := Lib.hid (read_any r L Ld vi vs vl _ (h.later HB0.out) (hl.later HB0.out))
  obtain ⟨ai, ci, av, cv, rfl, rfl⟩ := h.slices
  obtain ⟨al, cl, rfl⟩ := dns_slice hl
  clear h hl
  generalize readL r (Ld.map (·.2)) = res at HRd ⊢
  go_enter Tryz.func39, Tryz.ntmps39
  go_wp2_with fail
  refine HRd.out.mono ?_
  rintro e w1 hp
  obtain ⟨x0, x1, rfl, hr, hb⟩ := hp.parts
  obtain ⟨a, m, b, rfl, rfl⟩ := hr.form
  have HB1 := Lib.hid (below_trans HB0.out hb)
  clear hp hr hb HRd
  go_wp2_with fail
  go_ret
  exact ⟨rfl, below_trans HB1.out (below_alloc _ _)⟩

/-- What text hands back. -/
def txV (t : Option ByteArray) : Value := match t with
  | some s => .tuple #[.string s, .bool true]
  | none => .tuple #[.string ⟨#[]⟩, .bool false]
theorem findFile_step {l : List Fil} {k : Nat} {f : Fil} {x : ByteArray} (hf : l[k]? = some f) : findFile (l.drop k) x = if f.name = x then some f.text else findFile (l.drop (k + 1)) x := by
  rw [getElem?_drop hf]
  unfold findFile
  rw [List.find?_cons]
  by_cases h : f.name = x
  · simp [h]
  · simp [h]

set_option maxRecDepth 100000 in
set_option maxHeartbeats 4000000 in
theorem text_any (r : Rcp) (L : List (Value × Stp)) (vi vs : Value) (g bm : Nat) (st : RSt) (D : List (Value × Dn)) (x : ByteArray) (w : World) (h : RcpIn r L vi vs w) (hr : RecIs w g bm r.steps.length st D) (hx : x.size ≤ 140737488355328) :
    Calls Tryz.prog 75 #[recV g bm r.steps.length, rcpV vi vs r.output, .string x] w fun e w' => e = .returned (txV (textL r st x)) ∧ Below w.heap.size w w' := by
  have HR := Lib.hid h
  have HRc := Lib.hid hr
  obtain ⟨ai, ci, av, cv, rfl, rfl⟩ := h.slices
  have B1 := below_alloc w (recBox (.slice (some ⟨g, 0, none⟩) r.steps.length r.steps.length) (.map (some bm)))
  have B2 := below_alloc (w.alloc (recBox (.slice (some ⟨g, 0, none⟩) r.steps.length r.steps.length) (.map (some bm)))) (rcpBox (.slice ai r.inputs.length ci) (.slice av L.length cv) r.output)
  have HB0 := Lib.hid (below_trans B1 B2)
  have HX0 := Lib.hid (heap_up B2 (alloc_self w (recBox (.slice (some ⟨g, 0, none⟩) r.steps.length r.steps.length) (.map (some bm)))))
  have HR0 := Lib.hid (alloc_self (w.alloc (recBox (.slice (some ⟨g, 0, none⟩) r.steps.length r.steps.length) (.map (some bm)))) (rcpBox (.slice ai r.inputs.length ci) (.slice av L.length cv) r.output))
  simp only [World.size_alloc] at HR0
  have HXz := Lib.hid hx
  have HTx := Lib.hid (show textL r st x = match writerOf r.steps x with
    | some i => some (st.of i).out
    | none => match st.inp x with
      | some s => some s
      | none => findFile r.inputs x from rfl)
  generalize textL r st x = tx at HTx ⊢
  clear B1 B2 h hr hx
  go_enter Tryz.func75, Tryz.ntmps75
  go_wp2_with fail
  refine (writer_any r L _ _ x _ (HR.out.later HB0.out)).mono ?_
  rintro e w1 ⟨rfl, hb⟩
  replace HX0 := Lib.hid (heap_up hb HX0.out)
  replace HR0 := Lib.hid (heap_up hb HR0.out)
  replace HB0 := Lib.hid (below_trans HB0.out hb)
  clear hb
  have HRw := Lib.hid (HRc.out.later HB0.out)
  obtain ⟨x0, x1, -, -⟩ := box2 HX0.out
  cases hwr : writerOf r.steps x with
  | some i =>
    have hi : i < r.steps.length := (List.findIdx?_eq_some_iff_getElem.1 hwr).1
    obtain rfl : tx = some (st.of i).out := by rw [HTx.out, hwr]
    obtain ⟨v, hv⟩ := HRw.out.of i hi
    obtain ⟨⟨-, -, o2⟩, -⟩ := HRw.out.arr.at_ hv
    simp only at o2
    have hi0 : (0 : Int) ≤ (i : Int) := by omega
    have hi1 : (i : Int) < (r.steps.length : Int) := by omega
    have hw1 : wIdx (some i) = (i : Int) := rfl
    rw [hw1]
    clear hwr hw1 hv
    go_wp2_with fail
    refine bodyPost_ret (v := txV (some (st.of i).out)) (by simp [txV, results, Tryz.results75, go_sem]) rfl ?_
    exact ⟨rfl, HB0.out⟩
  | none =>
    have hw1 : wIdx none = (-1 : Int) := rfl
    rw [hw1]
    obtain ⟨nm, hm⟩ := HRw.out.map
    have hlk := hm.look2 Tryz.underlying111 (x := x) (Nat.le_trans HXz.out maxLen_val)
    have HLk : Hid ((Instr.lookup 111 (.map (some bm)) (.string x) true).run Tryz.prog w1 = .ok (.tuple #[.string ((st.inp x).getD ⟨#[]⟩), .bool (st.inp x).isSome]) w1) := Lib.hid hlk
    clear hlk hm hw1
    cases hin : st.inp x with
    | some s =>
      obtain rfl : tx = some s := by rw [HTx.out, hwr]; simp only [hin]
      have hlk := HLk.out
      rw [hin] at hlk
      simp only [Option.getD_some, Option.isSome_some] at hlk
      clear hwr hin
      go_wp2_with fail
      refine bodyPost_ret (v := txV (some s)) (by simp [txV, results, Tryz.results75, go_sem]) rfl ?_
      exact ⟨rfl, HB0.out⟩
    | none =>
      obtain rfl : tx = findFile r.inputs x := by rw [HTx.out, hwr]; simp only [hin]
      have hlk := HLk.out
      rw [hin] at hlk
      simp only [Option.getD_none, Option.isSome_none] at hlk
      obtain ⟨r0, r1, r2⟩ := box3 HR0.out
      clear hwr hin
      go_wp2_with fail
      have HRi := Lib.hid (HR.out.later HB0.out).inp
      clear hlk
      go_loopw [36] (fun i wr => ∃ k : Nat, k ≤ r.inputs.length ∧ i = .int .i64 k ∧ Hid (findFile r.inputs x = findFile (r.inputs.drop k) x) ∧ Hid (Below w1.heap.size w1 wr)) (fun i _ => r.inputs.length - (intOf i).toNat)
      case atStart => exact ⟨0, Nat.zero_le _, rfl, Lib.hid (by rw [List.drop_zero]), Lib.hid (Below.refl _ _)⟩
      case round =>
        obtain ⟨k, hk, rfl, HF, HBl⟩ := hrel
        rename World => wr
        by_cases hlt : k < r.inputs.length
        · obtain ⟨f, hf, -⟩ := getElem?_of_lt hlt
          have HFs := Lib.hid (findFile_step (x := x) hf)
          rcases (HRi.out.later HBl.out).cases with ⟨e, -⟩ | ⟨b, o, c, e, -, hl1, hl2, -, hc⟩
          · rw [e] at hlt; simp at hlt
          obtain ⟨rfl, rfl⟩ : ai = some ⟨b, o, none⟩ ∧ ci = c := by injection e with e1 e2 e3; exact ⟨e1, e3⟩
          obtain ⟨f0, f1, -, -⟩ := hc k f hf
          clear hc e hf
          obtain ⟨fn, ft⟩ := f
          simp only at f0 f1 HFs
          have HBe := Lib.hid (below_trans (below_trans HB0.out HBl.out) (below_alloc wr (.cells #[.string fn, .string ft] 40)))
          by_cases hfx : fn = x
          · have HE := Lib.hid (show findFile r.inputs x = some ft by rw [HF.out, HFs.out, if_pos hfx])
            subst hfx
            go_wp2_with fail
            refine bodyPost_ret (v := txV (some ft)) (by simp [txV, results, Tryz.results75, go_sem]) rfl ?_
            exact ⟨by rw [HE.out], HBe.out⟩
          · have HE := Lib.hid (show findFile r.inputs x = findFile (r.inputs.drop (k + 1)) x by rw [HF.out, HFs.out, if_neg hfx])
            have hfx2 : (fn.toList == x.toList) = false := by rw [beq_toList]; exact decide_eq_false hfx
            go_wp2_with fail
            go_roundw
            case rel => exact ⟨k + 1, by omega, by go_num, HE, Lib.hid (below_trans HBl.out (below_alloc _ _))⟩
            case measure => simp [intOf]; omega
        · obtain rfl : k = r.inputs.length := by omega
          have HE := Lib.hid (show findFile r.inputs x = none by rw [HF.out, List.drop_length]; rfl)
          go_wp2_with fail
          refine bodyPost_ret (v := txV none) (by simp [txV, results, Tryz.results75, go_sem]) rfl ?_
          exact ⟨by rw [HE.out], below_trans HB0.out HBl.out⟩

/-- What Text, both hand back. -/
def textOf (r : Rcp) (res : Option RSt) (x : ByteArray) : Option ByteArray := match res with
  | none => none
  | some st => textL r st x
set_option maxRecDepth 100000 in
theorem textT_any (r : Rcp) (L : List (Value × Stp)) (Ld : List (Value × Dn)) (vi vs vl : Value) (x : ByteArray) (w : World) (h : RcpIn r L vi vs w) (hl : Dns w vl Ld) (hx : x.size ≤ 140737488355328) :
    Calls Tryz.prog 41 #[rcpV vi vs r.output, vl, .string x] w fun e w' => e = .returned (txV (textOf r (readL r (Ld.map (·.2))) x)) ∧ Below w.heap.size w w' := by
  have HB0 := Lib.hid (below_alloc w (rcpBox vi vs r.output))
  have HRd := Lib.hid (read_any r L Ld vi vs vl _ (h.later HB0.out) (hl.later HB0.out))
  have HR := Lib.hid h
  have HRb := Lib.hid (alloc_self w (rcpBox vi vs r.output))
  have HXz := Lib.hid hx
  obtain ⟨ai, ci, av, cv, rfl, rfl⟩ := h.slices
  obtain ⟨al, cl, rfl⟩ := dns_slice hl
  clear h hl hx
  generalize readL r (Ld.map (·.2)) = res at HRd ⊢
  go_enter Tryz.func41, Tryz.ntmps41
  go_wp2_with fail
  refine HRd.out.mono ?_
  rintro e w1 hp
  cases res with
  | none =>
    obtain ⟨hb, rfl⟩ := hp
    have HB1 := Lib.hid (below_trans HB0.out hb)
    clear hb HRd
    go_wp2_with fail
    refine bodyPost_ret (v := txV none) (by simp [txV, results, Tryz.results41, go_sem]) rfl ?_
    exact ⟨rfl, below_trans HB1.out (below_alloc _ _)⟩
  | some st =>
    obtain ⟨hb, g, bm, D, rfl, hr, -⟩ := hp
    have HB1 := Lib.hid (below_trans (below_trans HB0.out hb) (below_alloc w1 (recBox (.slice (some ⟨g, 0, none⟩) r.steps.length r.steps.length) (.map (some bm)))))
    have HRe := Lib.hid (hr.later (below_alloc w1 (recBox (.slice (some ⟨g, 0, none⟩) r.steps.length r.steps.length) (.map (some bm)))))
    have hrb := heap_up (below_trans hb (below_alloc w1 (recBox (.slice (some ⟨g, 0, none⟩) r.steps.length r.steps.length) (.map (some bm))))) HRb.out
    obtain ⟨r0, r1, r2⟩ := box3 hrb
    have HT := Lib.hid (text_any r L _ _ g bm st D x _ (HR.out.later HB1.out) HRe.out HXz.out)
    obtain ⟨tx, htx⟩ : ∃ tx, textL r st x = tx := ⟨_, rfl⟩
    rw [htx] at HT
    have HE := Lib.hid (show textOf r (some st) x = tx from htx)
    clear htx
    clear hb hr HRd hrb
    go_wp2_with fail
    refine HT.out.mono ?_
    rintro e w2 ⟨rfl, hb⟩
    have HB2 := Lib.hid (below_trans HB1.out hb)
    clear hb
    cases tx with
    | none =>
      unfold txV
      go_wp2_with fail
      refine bodyPost_ret (v := txV none) (by simp [txV, results, Tryz.results41, go_sem]) rfl ?_
      exact ⟨by rw [HE.out], HB2.out⟩
    | some s =>
      unfold txV
      go_wp2_with fail
      refine bodyPost_ret (v := txV (some s)) (by simp [txV, results, Tryz.results41, go_sem]) rfl ?_
      exact ⟨by rw [HE.out], HB2.out⟩
end Go.Proofs.YtacgopankhpnbaaGreatDoor
/- Walks of package blame: both. -/
namespace Go.Proofs.YtacgopankhpnbaaGreatDoor
open Go.RowKit

/-- What both hands back. -/
def BothPost (n : Nat) (La Lb : List (Value × Dn)) (a b : Option RSt) (w : World) (e : Ending) (w' : World) : Prop := Below w.heap.size w w' ∧ ∃ x0 x1 y0 y1, e = .returned (.tuple #[.agg #[x0, x1], .agg #[y0, y1], .bool (a.isSome && b.isSome)]) ∧ recOf n w.heap.size La w' a (.agg #[x0, x1]) ∧ recOf n w.heap.size Lb w' b (.agg #[y0, y1])
section
variable {w W W1 : World} {a : Act} {p n : Nat} {x0 x1 y0 y1 u0 u1 v0 v1 : Value} {ra rb : Option RSt}
theorem four_end (hA : W1 = ((((W.setCell ⟨p, 0, none⟩ x0).setCell ⟨p, 1, none⟩ x1).setCell ⟨p + 1, 0, none⟩ y0).setCell ⟨p + 1, 1, none⟩ y1).drew ∨ W1 = ((((W.setCell ⟨p + 1, 0, none⟩ y0).setCell ⟨p + 1, 1, none⟩ y1).setCell ⟨p, 0, none⟩ x0).setCell ⟨p, 1, none⟩ x1).drew)
    (hz : W.heap[p]? = some (.cells #[u0, u1] 113)) (hy : W.heap[p + 1]? = some (.cells #[v0, v1] 113)) :
    W1.heap[p]? = some (.cells #[x0, x1] 113) ∧ W1.heap[p + 1]? = some (.cells #[y0, y1] 113) ∧ (∀ k, k ≠ p → k ≠ p + 1 → W1.heap[k]? = W.heap[k]?) ∧ ∀ {B : Nat} {w : World}, Below B w W → B ≤ p → Below B w W1 := by
  rcases hA with rfl | rfl
  · refine ⟨?_, ?_, fun k h1 h2 => ?_, fun hb hp => ?_⟩
    · exact (heap_set_ne (by omega)).trans ((heap_set_ne (by omega)).trans (set2 hz))
    · exact set2 ((heap_set_ne (by omega)).trans ((heap_set_ne (by omega)).trans hy))
    · exact (heap_set_ne h2).trans ((heap_set_ne h2).trans ((heap_set_ne h1).trans (heap_set_ne h1)))
    · exact ((((hb.setCell (by simp; omega) _).setCell (by simp; omega) _).setCell (by simp; omega) _).setCell (by simp; omega) _).drew
  · refine ⟨?_, ?_, fun k h1 h2 => ?_, fun hb hp => ?_⟩
    · exact set2 ((heap_set_ne (by omega)).trans ((heap_set_ne (by omega)).trans hz))
    · exact (heap_set_ne (by omega)).trans ((heap_set_ne (by omega)).trans (set2 hy))
    · exact (heap_set_ne h1).trans ((heap_set_ne h1).trans ((heap_set_ne h2).trans (heap_set_ne h2)))
    · exact ((((hb.setCell (by simp; omega) _).setCell (by simp; omega) _).setCell (by simp; omega) _).setCell (by simp; omega) _).drew
theorem both_ret {q : Bool} {B B2 : Nat} {La Lb : List (Value × Dn)} {va vb : Value} (hA : W1 = ((((W.setCell ⟨p, 0, none⟩ x0).setCell ⟨p, 1, none⟩ x1).setCell ⟨p + 1, 0, none⟩ y0).setCell ⟨p + 1, 1, none⟩ y1).drew ∨ W1 = ((((W.setCell ⟨p + 1, 0, none⟩ y0).setCell ⟨p + 1, 1, none⟩ y1).setCell ⟨p, 0, none⟩ x0).setCell ⟨p, 1, none⟩ x1).drew)
    (hz : W.heap[p]? = some (.cells #[u0, u1] 113)) (hy : W.heap[p + 1]? = some (.cells #[v0, v1] 113)) (h6 : a.tmps[6]?.getD undef = .pointer (some ⟨p, 0, none⟩)) (h7 : a.tmps[7]?.getD undef = .pointer (some ⟨p + 1, 0, none⟩)) (h8 : a.tmps[8]?.getD undef = .bool q) (hd : a.defers = [])
    (hq : q = (ra.isSome && rb.isSome)) (hb : Below w.heap.size w W) (hp : w.heap.size ≤ p) (hB : p + 1 < B) (hB2 : p + 1 < B2) (hX : recOf n B La W ra (.agg #[x0, x1])) (hY : recOf n B2 Lb W rb (.agg #[y0, y1])) (ha : Dns w va La) (hbb : Dns w vb Lb) :
    bodyPost Tryz.prog Tryz.f72 (BothPost n La Lb ra rb w) .ret a W1 := by
  obtain ⟨e1, e2, e3, e4⟩ := four_end hA hz hy
  obtain ⟨c0, c1, -, -⟩ := box2 e1
  obtain ⟨d0, d1, -, -⟩ := box2 e2
  have hb1 := e4 hb hp
  have far : ∀ {B' : Nat} {Ld : List (Value × Dn)} {res : Option RSt} {v : Value}, p + 1 < B' → recOf n B' Ld W1 res v → recOf n w.heap.size Ld W1 res v := fun {B' Ld res v} hB' h => by
    cases res with
    | none => exact h
    | some st => obtain ⟨g, bm, D, e, hr, hf⟩ := h; exact ⟨g, bm, D, e, hr, by have := hf.arr; omega, by have := hf.map; omega, hf.mem⟩
  subst hq
  exact bodyPost_ret (v := .tuple #[.agg #[x0, x1], .agg #[y0, y1], .bool (ra.isSome && rb.isSome)]) (by simp [results, Tryz.results72, go_sem, h6, h7, h8, c0, c1, d0, d1]) hd
    ⟨hb1, _, _, _, _, rfl, far hB (hX.keep (fun k hk _ => e3 k (by omega) (by omega)) ha hb1), far hB2 (hY.keep (fun k hk _ => e3 k (by omega) (by omega)) hbb hb1)⟩
end
set_option maxRecDepth 100000 in
set_option maxHeartbeats 4000000 in
theorem both_any (r : Rcp) (L : List (Value × Stp)) (La Lb : List (Value × Dn)) (vi vs va vb : Value) (w : World) (h : RcpIn r L vi vs w) (ha : Dns w va La) (hb : Dns w vb Lb) :
    Calls Tryz.prog 72 #[rcpV vi vs r.output, va, vb] w (BothPost r.steps.length La Lb (readL r (La.map (·.2))) (readL r (Lb.map (·.2))) w) := by
  have HR := Lib.hid h
  have HA := Lib.hid ha
  have HBb := Lib.hid hb
  obtain ⟨ai, ci, av, cv, rfl, rfl⟩ := h.slices
  obtain ⟨aa, ca, rfl⟩ := dns_slice ha
  obtain ⟨ab, cb, rfl⟩ := dns_slice hb
  clear h ha hb
  have B1 := below_alloc w (rcpBox (.slice ai r.inputs.length ci) (.slice av L.length cv) r.output)
  have B2 := below_alloc (w.alloc (rcpBox (.slice ai r.inputs.length ci) (.slice av L.length cv) r.output)) (recBox (.slice none 0 0) (.map none))
  have B3 := below_alloc ((w.alloc (rcpBox (.slice ai r.inputs.length ci) (.slice av L.length cv) r.output)).alloc (recBox (.slice none 0 0) (.map none))) (recBox (.slice none 0 0) (.map none))
  have HB0 := Lib.hid (below_trans (below_trans B1 B2) B3)
  have HRb := Lib.hid (heap_up (below_trans B2 B3) (alloc_self w (rcpBox (.slice ai r.inputs.length ci) (.slice av L.length cv) r.output)))
  have HZa := Lib.hid (heap_up B3 (alloc_self (w.alloc (rcpBox (.slice ai r.inputs.length ci) (.slice av L.length cv) r.output)) (recBox (.slice none 0 0) (.map none))))
  have HZb := Lib.hid (alloc_self ((w.alloc (rcpBox (.slice ai r.inputs.length ci) (.slice av L.length cv) r.output)).alloc (recBox (.slice none 0 0) (.map none))) (recBox (.slice none 0 0) (.map none)))
  simp only [World.size_alloc] at HZa HZb
  clear B1 B2 B3
  have HSz := Lib.hid (Array.getElem?_eq_some_iff.1 HZb.out).1
  have HRda := Lib.hid (read_any r L La _ _ _ _ (HR.out.later HB0.out) (HA.out.later HB0.out))
  generalize readL r (La.map (·.2)) = ra at HRda ⊢
  have HRdb := Lib.hid (fun W (hW : Below w.heap.size w W) => read_any r L Lb _ _ _ W (HR.out.later hW) (HBb.out.later hW))
  generalize readL r (Lb.map (·.2)) = rb at HRdb ⊢
  go_enter Tryz.func72, Tryz.ntmps72
  go_wp2_with fail
  refine HRda.out.mono ?_
  rintro e w1 hp
  obtain ⟨x0, x1, rfl, hr, hb⟩ := hp.parts
  obtain ⟨a, m, b, rfl, rfl⟩ := hr.form
  have HP1 := Lib.hid hb.size
  have hb2 := below_trans hb (below_alloc w1 (recBox (.slice a m m) (.map b)))
  have HX := Lib.hid (hr.later (below_alloc w1 (recBox (.slice a m m) (.map b))))
  replace HRb := Lib.hid (heap_up hb2 HRb.out)
  replace HZa := Lib.hid (heap_up hb2 HZa.out)
  replace HZb := Lib.hid (heap_up hb2 HZb.out)
  replace HB0 := Lib.hid (below_trans HB0.out hb2)
  have HXb := Lib.hid (alloc_self w1 (recBox (.slice a m m) (.map b)))
  have HSz2 := Lib.hid (Array.getElem?_eq_some_iff.1 HZb.out).1
  obtain ⟨r0, r1, r2⟩ := box3 HRb.out
  have HC := Lib.hid (HRdb.out _ HB0.out)
  clear hp hr hb hb2 HRda
  go_wp2_with fail
  refine HC.out.mono ?_
  rintro e w2 hp
  obtain ⟨y0, y1, rfl, hr, hb⟩ := hp.parts
  obtain ⟨a', m', b', rfl, rfl⟩ := hr.form
  have HP2 := Lib.hid hb.size
  have hb2 := below_trans hb (below_alloc w2 (recBox (.slice a' m' m') (.map b')))
  have HY := Lib.hid (hr.later (below_alloc w2 (recBox (.slice a' m' m') (.map b'))))
  replace HX := Lib.hid (HX.out.later hb2)
  replace HZa := Lib.hid (heap_up hb2 HZa.out)
  replace HZb := Lib.hid (heap_up hb2 HZb.out)
  replace HXb := Lib.hid (heap_up hb2 HXb.out)
  replace HB0 := Lib.hid (below_trans HB0.out hb2)
  have HYb := Lib.hid (alloc_self w2 (recBox (.slice a' m' m') (.map b')))
  clear hp hr hb hb2 HC HRdb r0 r1 r2
  obtain ⟨z0, z1, f0, f1⟩ := box2 HZa.out
  obtain ⟨z2, z3, f2, f3⟩ := box2 HZb.out
  obtain ⟨x0, x1, -, -⟩ := box2 HXb.out
  obtain ⟨y0, y1, -, -⟩ := box2 HYb.out
  generalize hq1 : ra.isSome = q1
  generalize hq2 : rb.isSome = q2
  have HQ1 := Lib.hid hq1
  have HQ2 := Lib.hid hq2
  clear hq1 hq2
  have hn0 : w1.heap.size ≠ w.heap.size + 1 := by have := HSz.out; have h := HP1.out; omega
  have hn1 : w1.heap.size ≠ w.heap.size + 1 + 1 := by have := HSz.out; have h := HP1.out; omega
  have hn2 : w2.heap.size ≠ w.heap.size + 1 := by have := HSz2.out; have h := HP2.out; omega
  have hn3 : w2.heap.size ≠ w.heap.size + 1 + 1 := by have := HSz2.out; have h := HP2.out; omega
  have hm0 := hn0.symm
  have hm1 := hn1.symm
  have hm2 := hn2.symm
  have hm3 := hn3.symm
  cases q1 with
  | true =>
    go_wp2_with fail
    generalize w2.alloc (recBox (.slice a' m' m') (.map b')) = w3 at HYb HX HY HZa HZb HXb HB0 x0 x1 y0 y1 z0 z1 z2 z3 f0 f1 f2 f3 ⊢
    generalize w2.heap.size = p2 at HYb hn2 hn3 hm2 hm3 y0 y1 ⊢
    generalize w1.heap.size = p1 at HXb hn0 hn1 hm0 hm1 x0 x1 ⊢
    go_region
    all_goals
      go_wp2_with fail
      first | exact both_ret (p := w.heap.size + 1) (.inl rfl) HZa.out HZb.out rfl rfl rfl rfl (by rw [HQ1.out, HQ2.out]; rfl) HB0.out (Nat.le_succ _) HSz.out HSz2.out HX.out HY.out HA.out HBb.out | exact both_ret (p := w.heap.size + 1) (.inr rfl) HZa.out HZb.out rfl rfl rfl rfl (by rw [HQ1.out, HQ2.out]; rfl) HB0.out (Nat.le_succ _) HSz.out HSz2.out HX.out HY.out HA.out HBb.out
  | false =>
    go_wp2_with fail
    generalize w2.alloc (recBox (.slice a' m' m') (.map b')) = w3 at HYb HX HY HZa HZb HXb HB0 x0 x1 y0 y1 z0 z1 z2 z3 f0 f1 f2 f3 ⊢
    generalize w2.heap.size = p2 at HYb hn2 hn3 hm2 hm3 y0 y1 ⊢
    generalize w1.heap.size = p1 at HXb hn0 hn1 hm0 hm1 x0 x1 ⊢
    go_region
    all_goals
      go_wp2_with fail
      first | exact both_ret (p := w.heap.size + 1) (.inl rfl) HZa.out HZb.out rfl rfl rfl rfl (by rw [HQ1.out]; rfl) HB0.out (Nat.le_succ _) HSz.out HSz2.out HX.out HY.out HA.out HBb.out | exact both_ret (p := w.heap.size + 1) (.inr rfl) HZa.out HZb.out rfl rfl rfl rfl (by rw [HQ1.out]; rfl) HB0.out (Nat.le_succ _) HSz.out HSz2.out HX.out HY.out HA.out HBb.out
end Go.Proofs.YtacgopankhpnbaaGreatDoor
/- Walks of package build: Slice's visit. -/
namespace Go.Proofs.YtacgopankhpnbaaGreatDoor
open Go.RowKit

theorem also_true {st : Nat → Bool} {i j : Nat} (h : st j = true) : also st i j = true := by unfold also; split <;> simp [h]
theorem foldl_true {g : (Nat → Bool) → Nat → (Nat → Bool)} (hg : ∀ st i j, st j = true → g st i j = true) : ∀ (l : List Nat) (st : Nat → Bool) (j : Nat), st j = true → l.foldl g st j = true
  | [], _, _, h => h
  | a :: l, st, j, h => foldl_true hg l (g st a) j (hg st a j h)
theorem grow_true (needs : Nat → List Nat) : ∀ (f : Nat) (st : Nat → Bool) (i j : Nat), st j = true → grow needs f st i j = true
  | 0, _, _, _, h => h
  | f + 1, st, i, j, h => by
    rw [grow]
    split
    · exact h
    · exact foldl_true (grow_true needs f) _ _ _ (also_true h)
theorem leftN_mono {a b : Nat → Bool} (h : ∀ j, a j = true → b j = true) : ∀ n, leftN b n ≤ leftN a n
  | 0 => Nat.le_refl _
  | n + 1 => by
    have := leftN_mono h n
    rw [leftN, leftN]
    cases ha : a n with
    | true => rw [h n ha]; simp; omega
    | false => simp only [Bool.false_eq_true, if_false]; split <;> omega
theorem foldl_snoc {α : Type} (g : α → Nat → α) (l : List Nat) (st : α) {k x : Nat} (hx : l[k]? = some x) : (l.take (k + 1)).foldl g st = g ((l.take k).foldl g st) x := by
  rw [List.take_add_one, hx]; simp

/-- What Slice's visit keeps. -/
structure Sl (r : Rcp) (L : List (Value × Stp)) (vi vs : Value) (bw bi bm pi pg pv : Nat) (w : World) (st : Nat → Bool) : Prop where
  box : w.heap[pi]? = some (.cells #[.map (some bm)] 104)
  gr : w.heap[pg]? = some (grfBox vi vs r.output bw bi)
  fn : w.heap[pv]? = some (.cells #[.func (.func 66) #[] #[.pointer (some ⟨pi, 0, none⟩), .pointer (some ⟨pg, 0, none⟩), .pointer (some ⟨pv, 0, none⟩)]] 107)
  grf : Grf r L vi vs bw bi w
  ne : bw ≠ bm
  map : DoneN w bm st L.length
section
variable {r : Rcp} {L : List (Value × Stp)} {vi vs : Value} {bw bi bm pi pg pv : Nat} {w w' : World} {st : Nat → Bool}
theorem Sl.later (h : Sl r L vi vs bw bi bm pi pg pv w st) (hb : Below w.heap.size w w') : Sl r L vi vs bw bi bm pi pg pv w' st :=
  ⟨heap_up hb h.box, heap_up hb h.gr, heap_up hb h.fn, h.grf.later hb, h.ne, h.map.later hb⟩
theorem Sl.set (h : Sl r L vi vs bw bi bm pi pg pv w st) {i : Nat} (hi : i < L.length) (hd : st i = false) :
    ∃ w', (Instr.mapUpdate 104 (.map (some bm)) (.int .i64 i) (.bool true)).run Tryz.prog w = .ok () w' ∧ Sl r L vi vs bw bi bm pi pg pv w' (also st i) ∧ Only bm w w' := by
  obtain ⟨w', h1, h2, h3⟩ := h.map.set hi hd (by have := h.grf.few; omega)
  have ho := only_grown h3
  have hM := h.map.isMap
  exact ⟨w', h1, ⟨hM.box ho h.box, hM.box ho h.gr, hM.box ho h.fn, h.grf.onlyMap hM ho h.ne, h.ne, h2⟩, ho⟩
/-- What visit comes to. -/
def SlPost (r : Rcp) (L : List (Value × Stp)) (vi vs : Value) (bw bi bm pi pg pv : Nat) (w : World) (st : Nat → Bool) (e : Ending) (w' : World) : Prop :=
  e = .returned (.tuple #[]) ∧ Sl r L vi vs bw bi bm pi pg pv w' st ∧ Only bm w w'
end
theorem enters_slice1 : ∀ args w, (callFunc 66 args).run Tryz.prog w = .ok (.enter 66 args) w := enters_of Tryz.func66 (by kernel_rfl) rfl

set_option maxRecDepth 100000 in
set_option maxHeartbeats 4000000 in
theorem slice1_any (r : Rcp) (L : List (Value × Stp)) (vi vs : Value) (bw bi bm pi pg pv : Nat) (hlen : r.steps.length = L.length) : ∀ (f : Nat) (w : World) (st : Nat → Bool) (i : Nat), Sl r L vi vs bw bi bm pi pg pv w st → i < L.length → leftN st L.length < f →
    Calls Tryz.prog 66 #[.int .i64 i, .pointer (some ⟨pi, 0, none⟩), .pointer (some ⟨pg, 0, none⟩), .pointer (some ⟨pv, 0, none⟩)] w (SlPost r L vi vs bw bi bm pi pg pv w (grow (needsAt r.steps) f st i))
  | 0, w, st, i, _, _, h => absurd h (by omega)
  | f + 1, w, st, i, h, hi, hf => by
    have IH := Lib.hid (slice1_any r L vi vs bw bi bm pi pg pv hlen f)
    have hl := h.map.is.look (i := i) (by have := h.grf.few; omega)
    have c0 := box1 h.box
    have eg := enters_slice1
    cases hst : st i with
    | true =>
      have HG := Lib.hid (show grow (needsAt r.steps) (f + 1) st i = st by rw [grow, if_pos hst])
      have HS := Lib.hid h
      rw [hst] at hl
      clear h hst IH hf
      go_enter Tryz.func66, Tryz.ntmps66
      go_wp2_with fail
      go_end0
      exact ⟨rfl, by rw [HG.out]; exact HS.out, Only.refl _ _⟩
    | false =>
      have HG := Lib.hid (show grow (needsAt r.steps) (f + 1) st i = (needsAt r.steps i).foldl (grow (needsAt r.steps) f) (also st i) by rw [grow, if_neg (by simp [hst])])
      obtain ⟨w1, hrun, h1, ho1⟩ := h.set hi hst
      have hz := leftN_also hst L.length hi
      have hz1 : leftN (also st i) L.length < f := by omega
      have HZ := Lib.hid hz1
      have HS1 := Lib.hid h1
      have HO1 := Lib.hid ho1
      have HN := Lib.hid (h1.grf.needs hi)
      obtain ⟨g0, g1, g2, g3, g4⟩ := box5 h1.gr
      rw [hst] at hl
      rw [HG.out]
      have HLt := Lib.hid (fun j (hj : j ∈ needsAt r.steps i) => show j < L.length by rw [← hlen]; exact needsAt_lt hj)
      generalize needsAt r.steps i = l at HN HLt ⊢
      have HNd := Lib.hid hlen
      clear h hst hz hz1 h1 ho1 hlen hf HG
      go_enter Tryz.func66, Tryz.ntmps66
      go_wp2_with fail
      refine HN.out.mono ?_
      rintro e w2 ⟨v, rfl, hI, -, hb⟩
      have HS2 := Lib.hid (HS1.out.later hb)
      have HO2 := Lib.hid (HO1.out.trans (Only.of_below hb))
      have HI := Lib.hid hI
      obtain ⟨a, c, hv⟩ : ∃ a c, v = .slice a l.length c := by
        obtain ⟨a, c, hv, -⟩ := hI
        exact ⟨a, c, by rw [hv]; simp⟩
      have hll : l.length ≤ 9223372036854775807 := by
        obtain ⟨a, c, hv, h1, h2, -⟩ := hI
        simp at h1; omega
      subst hv
      clear hI hb g0 g1 g2 g3 g4 c0 hl hrun HS1
      go_wp2_with fail
      go_loopw [17] (fun idx wr => ∃ k : Nat, k ≤ l.length ∧ idx = .int .i64 k ∧ Hid (Sl r L vi vs bw bi bm pi pg pv wr ((l.take k).foldl (grow (needsAt r.steps) f) (also st i))) ∧ Hid (Only bm w2 wr)) (fun idx _ => l.length - (intOf idx).toNat)
      case atStart => exact ⟨0, Nat.zero_le _, rfl, HS2, Lib.hid (Only.refl _ _)⟩
      case round =>
        obtain ⟨k, hk, rfl, HS, HO⟩ := hrel
        rename World => wr
        by_cases hlt : k < l.length
        · obtain ⟨x, hx, hxm⟩ := getElem?_of_lt hlt
          rcases (HI.out.onlyMap HS2.out.map.isMap HO.out).cases with ⟨e, -⟩ | ⟨b, o, cc, e, -, -, -, -, hc⟩
          · rw [natInts, List.map_eq_nil_iff] at e; subst e; simp at hlt
          obtain ⟨rfl, rfl⟩ : a = some ⟨b, o, none⟩ ∧ c = cc := by injection e with e1 e2 e3; exact ⟨e1, e3⟩
          have cx : wr.cell? ⟨b, o + k, none⟩ = some (.int .i64 x) := hc k x (by simp [natInts, hx])
          have cv := box1 HS.out.fn
          have hlx : leftN ((l.take k).foldl (grow (needsAt r.steps) f) (also st i)) L.length < f := Nat.lt_of_le_of_lt (leftN_mono (fun j hj => foldl_true (grow_true _ _) _ _ _ hj) _) HZ.out
          have HC := Lib.hid (IH.out wr _ x HS.out (HLt.out x hxm) hlx)
          have HSn := Lib.hid (foldl_snoc (grow (needsAt r.steps) f) l (also st i) hx)
          rw [← HSn.out] at HC
          clear hc e hx hxm hlx
          go_wp2_with (go_at_fn 66; (with_reducible refine HC.out.mono ?_); rintro e w3 ⟨rfl, h3, ho3⟩)
          go_roundw
          case rel => exact ⟨k + 1, by omega, by go_num, Lib.hid h3, Lib.hid (HO.out.trans ho3)⟩
          case measure => simp [intOf]; omega
        · obtain rfl : k = l.length := by omega
          rw [List.take_length] at HS
          go_wp2_with fail
          go_end0
          exact ⟨rfl, HS.out, HO2.out.trans HO.out⟩
end Go.Proofs.YtacgopankhpnbaaGreatDoor
/- Walks of package build: Slice. -/
namespace Go.Proofs.YtacgopankhpnbaaGreatDoor
open Go.RowKit

/-- The steps below k that are in. -/
def inTo (st : Nat → Bool) (k : Nat) : List Nat := (List.range k).filter st
theorem inTo_yes {st : Nat → Bool} {k : Nat} (h : st k = true) : inTo st (k + 1) = inTo st k ++ [k] := by
  unfold inTo; rw [List.range_succ, List.filter_append]; simp [h]
theorem inTo_no {st : Nat → Bool} {k : Nat} (h : st k = false) : inTo st (k + 1) = inTo st k := by
  unfold inTo; rw [List.range_succ, List.filter_append]; simp [h]
theorem inTo_len (st : Nat → Bool) (k : Nat) : (inTo st k).length ≤ k := by
  unfold inTo
  have := List.length_filter_le st (List.range k)
  simpa using this
abbrev sliceFn (pi pg pv : Nat) : Value := .func (.func 66) #[] #[.pointer (some ⟨pi, 0, none⟩), .pointer (some ⟨pg, 0, none⟩), .pointer (some ⟨pv, 0, none⟩)]
/-- The world in which Slice's visit begins; wg: the graph's box is there. -/
abbrev sliceWorld (wg : World) (pg : Nat) : World := ((wg.alloc (.map #[] 0)).alloc (.cells #[.map (some wg.heap.size)] 104)).alloc (.cells #[sliceFn (wg.heap.size + 1) pg (wg.heap.size + 1 + 1)] 107)
theorem Sl.first {r : Rcp} {L : List (Value × Stp)} {vi vs : Value} {bw bi pg : Nat} {wg : World} (h : Grf r L vi vs bw bi wg) (hg : wg.heap[pg]? = some (grfBox vi vs r.output bw bi)) :
    Sl r L vi vs bw bi wg.heap.size (wg.heap.size + 1) pg (wg.heap.size + 1 + 1) (sliceWorld wg pg) (fun _ => false) := by
  have B1 := below_alloc wg (.map #[] 0)
  have B2 := below_alloc (wg.alloc (.map #[] 0)) (.cells #[.map (some wg.heap.size)] 104)
  have B3 := below_alloc ((wg.alloc (.map #[] 0)).alloc (.cells #[.map (some wg.heap.size)] 104)) (.cells #[sliceFn (wg.heap.size + 1) pg (wg.heap.size + 1 + 1)] 107)
  have hbw : bw < wg.heap.size := by obtain ⟨nw, hw⟩ := h.wr; exact hw.lt
  refine ⟨?_, heap_up (below_trans (below_trans B1 B2) B3) hg, ?_, h.later (below_trans (below_trans B1 B2) B3), by omega, (DoneN.first wg L.length (by have := h.few; omega)).later (below_trans B2 B3)⟩
  · have := heap_up B3 (alloc_self (wg.alloc (.map #[] 0)) (.cells #[.map (some wg.heap.size)] 104))
    simpa only [World.size_alloc] using this
  · have := alloc_self ((wg.alloc (.map #[] 0)).alloc (.cells #[.map (some wg.heap.size)] 104)) (.cells #[sliceFn (wg.heap.size + 1) pg (wg.heap.size + 1 + 1)] 107)
    simpa only [World.size_alloc] using this

set_option maxRecDepth 100000 in
set_option maxHeartbeats 8000000 in
theorem slice_good (r : Rcp) (L : List (Value × Stp)) (vi vs : Value) (w : World) (h : RcpIn r L vi vs w) (he : inspectE r = 0) :
    Calls Tryz.prog 30 #[rcpV vi vs r.output] w (NeedsPost (sliceL r) w) := by
  have HI := Lib.hid (h.later (below_alloc w (rcpBox vi vs r.output))).inspect
  have HE := Lib.hid (show sliceL r = inTo (inSlice r) L.length by unfold sliceL sliceAll inTo; rw [if_neg (by simp [he]), h.len])
  rw [HE.out]
  have HR := Lib.hid (inspectE_ok he)
  have HRcp := Lib.hid h
  have hlen := h.len
  have hL60 : L.length ≤ 60 := by have := HR.out.few; omega
  have HSrc := Lib.hid (show ∀ y, y ∈ L → y.2.src.length ≤ 1000000 from fun y hy => by
    have := HR.out.steps y.2 (by rw [← h.map]; exact List.mem_map.2 ⟨y, hy, rfl⟩)
    have := (stepRight_parts this).2.2.1
    omega)
  have HOut := Lib.hid h.out
  obtain ⟨i0, hi0, hz0, hz1, hz2⟩ := info_parts intInfo
  have hmm := @run_makeMap Tryz.prog
  have eg := enters_slice1
  obtain ⟨ai, ci, av, cv, rfl, rfl⟩ := h.slices
  have H0 := Lib.hid he
  have HLen := Lib.hid hlen
  clear h he hlen HE
  go_enter Tryz.func30, Tryz.ntmps30
  go_wp2_with fail
  refine HI.out.mono ?_
  rintro e w2 ⟨rfl, hb, hm⟩
  obtain ⟨nw, ni, hmw, -⟩ := hm H0.out
  have B4 := below_alloc w2 (grfBox (.slice ai r.inputs.length ci) (.slice av L.length cv) r.output (w.heap.size + 1 + 1 + 1) (w.heap.size + 1 + 1 + 1 + 1))
  have HB := Lib.hid (below_trans (below_trans (below_alloc w _) hb) B4)
  have HMW := Lib.hid (show MapIs kStr vInt (w2.alloc (grfBox (.slice ai r.inputs.length ci) (.slice av L.length cv) r.output (w.heap.size + 1 + 1 + 1) (w.heap.size + 1 + 1 + 1 + 1))) (w.heap.size + 1 + 1 + 1) nw (wMap r.steps) by
    have := hmw.later B4; simpa only [World.size_alloc] using this)
  have HG := Lib.hid (show Grf r L (.slice ai r.inputs.length ci) (.slice av L.length cv) (w.heap.size + 1 + 1 + 1) (w.heap.size + 1 + 1 + 1 + 1) (w2.alloc (grfBox (.slice ai r.inputs.length ci) (.slice av L.length cv) r.output (w.heap.size + 1 + 1 + 1) (w.heap.size + 1 + 1 + 1 + 1))) from
    ⟨HRcp.out.later HB.out, ⟨nw, HMW.out⟩, hL60, HSrc.out⟩)
  have HRb := Lib.hid (heap_up (below_trans hb B4) (alloc_self w (rcpBox (.slice ai r.inputs.length ci) (.slice av L.length cv) r.output)))
  have HSl := Lib.hid (Sl.first (pg := w2.heap.size) HG.out (alloc_self w2 _))
  have hsz : (w2.alloc (grfBox (.slice ai r.inputs.length ci) (.slice av L.length cv) r.output (w.heap.size + 1 + 1 + 1) (w.heap.size + 1 + 1 + 1 + 1))).heap.size = w2.heap.size + 1 := World.size_alloc _ _
  have HB1 := below_alloc (w2.alloc (grfBox (.slice ai r.inputs.length ci) (.slice av L.length cv) r.output (w.heap.size + 1 + 1 + 1) (w.heap.size + 1 + 1 + 1 + 1))) (.map #[] 0)
  have HBs := Lib.hid (below_trans (below_trans HB1 (below_alloc _ (.cells #[.map (some (w2.heap.size + 1))] 104))) (below_alloc _ (.cells #[sliceFn (w2.heap.size + 1 + 1) w2.heap.size (w2.heap.size + 1 + 1 + 1)] 107)))
  simp only [sliceWorld, World.size_alloc] at HSl
  rw [H0.out]
  have hlk := (HMW.out.later HBs.out).look2 Tryz.underlying98 (x := r.output) (Nat.le_trans HOut.out maxLen_val)
  have hlk' : (Instr.lookup 98 (.map (some (w.heap.size + 1 + 1 + 1))) (.string r.output) true).run Tryz.prog _ = .ok (.tuple #[.int .i64 ((wMap r.steps r.output).getD 0), .bool (wMap r.steps r.output).isSome]) _ := hlk
  obtain ⟨r0, r1, r2⟩ := box3 (heap_up HBs.out HRb.out)
  have s0 := box1 HSl.out.box
  have s1 := box1 HSl.out.fn
  have HVis := Lib.hid (fun i (hi : i < L.length) => slice1_any r L _ _ _ _ _ _ _ _ HLen.out (r.steps.length + 1) _ _ i HSl.out hi (by rw [leftN_all]; have := HLen.out; omega))
  have HBw := Lib.hid (below_trans HB.out HBs.out)
  have hbm := HBs.out.size
  rw [hsz] at hbm
  have HSz2 : Hid (w.heap.size ≤ w2.heap.size + 1) := Lib.hid (by have := HB.out.size; rw [hsz] at this; exact this)
  clear hb hm hmw HI B4 HB1 hlk hsz
  have HRs := Lib.hid (heap_up HBs.out HRb.out)
  cases hw : writerOf r.steps r.output with
  | none =>
    have HIn := Lib.hid (show inSlice r = fun _ => false by unfold inSlice; rw [hw])
    have e1 : wMap r.steps r.output = none := by unfold wMap; rw [hw]; rfl
    rw [e1] at hlk'
    simp only [Option.getD_none, Option.isSome_none] at hlk'
    clear e1 hw HVis
    go_wp2_with fail
    clear hlk'
    generalize (fun _ : Nat => false) = st at HSl HIn
    clear r0 r2 s0 s1 HMW HG HRb HB HBs hbm
    generalize (((w2.alloc (grfBox (.slice ai r.inputs.length ci) (.slice av L.length cv) r.output (w.heap.size + 1 + 1 + 1) (w.heap.size + 1 + 1 + 1 + 1))).alloc (.map #[] 0)).alloc (.cells #[.map (some (w2.heap.size + 1))] 104)).alloc (.cells #[sliceFn (w2.heap.size + 1 + 1) w2.heap.size (w2.heap.size + 1 + 1 + 1)] 107) = W at HSl HBw HRs r1 ⊢
    go_loopw [9, 35] (fun v i wr => ∃ k : Nat, k ≤ L.length ∧ i = .int .i64 k ∧ Hid (Gath W (inTo st k) v wr)) (fun _ i _ => L.length - (intOf i).toNat)
    case atStart => exact ⟨0, Nat.zero_le _, rfl, Lib.hid (Gath.first W)⟩
    case round =>
      obtain ⟨k, hk, rfl, HA⟩ := hrel
      rename World => wr
      rename Value => vo
      by_cases hlt : k < L.length
      · have hbA := HA.out.below
        have d0 := box1 (heap_up hbA HSl.out.box)
        have hlk := (HSl.out.map.is.later hbA).look (i := k) (by omega)
        have hin := inTo_len st k
        have hbz : W.heap.size ≤ wr.heap.size := hbA.size
        have HNy := Lib.hid (fun h => inTo_yes (st := st) (k := k) h)
        have HNn := Lib.hid (fun h => inTo_no (st := st) (k := k) h)
        cases hq : st k with
        | false =>
          rw [hq] at hlk
          replace HNn := Lib.hid (HNn.out hq)
          clear hq HNy
          go_wp2_with fail
          go_roundw
          case rel => exact ⟨k + 1, by omega, by go_num, Lib.hid (by rw [HNn.out]; exact HA.out)⟩
          case measure => simp [intOf]; omega
        | true =>
          rw [hq] at hlk
          replace HNy := Lib.hid (HNy.out hq)
          clear hq HNn
          go_wp2_with (at_builtin; refine wpList_append_own _ rfl _ _ 26 rfl W.heap.size 3 i0 (.int .i64 0) 1 8 Tryz.underlying26 hi0 hz0 hz1 hz2 rfl (by decide) _ _ _ rfl (HA.out.own.alloc _) ⟨wr.heap.size, 0, none⟩ 1 1 [.int .i64 k] rfl rfl (cell_one_new _ _ _) (by simp [Value.oneCell']) (by unfold maxLen; omega) (by omega) (by simp; omega) ?_)
          intro v' w4 hown hgrow _
          have HNew := Lib.hid (HA.out.added (by simpa [natInts] using hown) hgrow)
          clear hown hgrow
          go_wp2_with fail
          go_roundw
          case rel => exact ⟨k + 1, by omega, by go_num, Lib.hid (by rw [HNy.out]; exact HNew.out)⟩
          case measure => simp [intOf]; omega
      · obtain rfl : k = L.length := by omega
        go_wp2_with fail
        go_ret
        have HPo := HA.out.post HBw.out
        rw [← HIn.out] at HPo
        exact HPo
  | some i =>
    have HIn := Lib.hid (show inSlice r = grow (needsAt r.steps) (r.steps.length + 1) (fun _ => false) i by unfold inSlice; rw [hw])
    have e1 : wMap r.steps r.output = some (i : Int) := by unfold wMap; rw [hw]; rfl
    have hi : i < L.length := by rw [← HLen.out]; exact int_wf hw
    rw [e1] at hlk'
    simp only [Option.getD_some, Option.isSome_some] at hlk'
    clear e1 hw
    go_wp2_with fail
    refine (HVis.out i hi).mono ?_
    rintro e W ⟨rfl, h3, ho3⟩
    have HRs3 := Lib.hid (HSl.out.map.isMap.box ho3 HRs.out)
    have r1' := (box3 HRs3.out).2.1
    have HBw3 := Lib.hid (ho3.below HBw.out HSz2.out HBw.out.size)
    have HSl3 := Lib.hid h3
    clear h3 ho3 hlk' r0 r1 r2 s0 s1 HMW HG HRb HB HBs hbm HSl HBw HRs hi HVis
    have HSl := HSl3
    have HBw := HBw3
    clear HSl3 HBw3
    go_wp2_with fail
    generalize grow (needsAt r.steps) (r.steps.length + 1) (fun _ => false) i = st at HSl HIn
    go_loopw [9, 35] (fun v i wr => ∃ k : Nat, k ≤ L.length ∧ i = .int .i64 k ∧ Hid (Gath W (inTo st k) v wr)) (fun _ i _ => L.length - (intOf i).toNat)
    case atStart => exact ⟨0, Nat.zero_le _, rfl, Lib.hid (Gath.first W)⟩
    case round =>
      obtain ⟨k, hk, rfl, HA⟩ := hrel
      rename World => wr
      rename Value => vo
      by_cases hlt : k < L.length
      · have hbA := HA.out.below
        have d0 := box1 (heap_up hbA HSl.out.box)
        have hlk := (HSl.out.map.is.later hbA).look (i := k) (by omega)
        have hin := inTo_len st k
        have hbz : W.heap.size ≤ wr.heap.size := hbA.size
        have HNy := Lib.hid (fun h => inTo_yes (st := st) (k := k) h)
        have HNn := Lib.hid (fun h => inTo_no (st := st) (k := k) h)
        cases hq : st k with
        | false =>
          rw [hq] at hlk
          replace HNn := Lib.hid (HNn.out hq)
          clear hq HNy
          go_wp2_with fail
          go_roundw
          case rel => exact ⟨k + 1, by omega, by go_num, Lib.hid (by rw [HNn.out]; exact HA.out)⟩
          case measure => simp [intOf]; omega
        | true =>
          rw [hq] at hlk
          replace HNy := Lib.hid (HNy.out hq)
          clear hq HNn
          go_wp2_with (at_builtin; refine wpList_append_own _ rfl _ _ 26 rfl W.heap.size 3 i0 (.int .i64 0) 1 8 Tryz.underlying26 hi0 hz0 hz1 hz2 rfl (by decide) _ _ _ rfl (HA.out.own.alloc _) ⟨wr.heap.size, 0, none⟩ 1 1 [.int .i64 k] rfl rfl (cell_one_new _ _ _) (by simp [Value.oneCell']) (by unfold maxLen; omega) (by omega) (by simp; omega) ?_)
          intro v' w4 hown hgrow _
          have HNew := Lib.hid (HA.out.added (by simpa [natInts] using hown) hgrow)
          clear hown hgrow
          go_wp2_with fail
          go_roundw
          case rel => exact ⟨k + 1, by omega, by go_num, Lib.hid (by rw [HNy.out]; exact HNew.out)⟩
          case measure => simp [intOf]; omega
      · obtain rfl : k = L.length := by omega
        go_wp2_with fail
        go_ret
        have HPo := HA.out.post HBw.out
        rw [← HIn.out] at HPo
        exact HPo

theorem slice_any (r : Rcp) (L : List (Value × Stp)) (vi vs : Value) (w : World) (h : RcpIn r L vi vs w) : Calls Tryz.prog 30 #[rcpV vi vs r.output] w (NeedsPost (sliceL r) w) := by
  by_cases he : inspectE r = 0
  · exact slice_good r L vi vs w h he
  · refine (slice_bad r L vi vs w h he).mono ?_
    rintro e w' ⟨rfl, hb⟩
    rw [show sliceL r = [] by unfold sliceL; rw [if_pos he]]
    exact ⟨_, rfl, ⟨none, 0, rfl, by simp, by simp, fun h => absurd rfl h⟩, fun a n c e => by (cases e), hb⟩
theorem order_any (r : Rcp) (L : List (Value × Stp)) (vi vs : Value) (w : World) (h : RcpIn r L vi vs w) : Calls Tryz.prog 33 #[rcpV vi vs r.output] w (NeedsPost (orderL r) w) := by
  by_cases he : inspectE r = 0
  · exact order_good r L vi vs w h he
  · refine (order_bad r L vi vs w h he).mono ?_
    rintro e w' ⟨rfl, hb⟩
    rw [show orderL r = [] by unfold orderL; rw [if_pos he]]
    exact ⟨_, rfl, ⟨none, 0, rfl, by simp, by simp, fun h => absurd rfl h⟩, fun a n c e => by (cases e), hb⟩
end Go.Proofs.YtacgopankhpnbaaGreatDoor
