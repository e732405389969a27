/- What the walk of ladinglaw32.StepSorts wants: its calls of step.Do, with the texts opaque. -/
import Derived.Test.YtacgopankhpnbaaGreatDoorSmall
import Derived.Test.YtacgopankhpnbaaGreatDoorSortsLaw
namespace Go.Proofs.YtacgopankhpnbaaGreatDoor
open Go.RowKit

/-- The step that StepSorts runs. -/
abbrev sortStp : Stp := ⟨3, [⟨#[97]⟩], ⟨#[98]⟩, false⟩
theorem do_sort (t : ByteArray) (h1 : t.size ≤ 65536) (h2 : (rowsB (sortedLines t)).size ≤ 65536) :
    doStep C0 sortStp [⟨⟨#[97]⟩, t⟩] [] [] 0 0 = .ok (rowsB (sortedLines t), [t], 0, 0) := by
  have r1 : stepRight sortStp = true := by decide +kernel
  have r2 : rightFiles [⟨⟨#[97]⟩, t⟩] = true := by
    have n : isName ⟨#[97]⟩ = true := by decide +kernel
    simp [rightFiles, rightFrom, n]; omega
  have r3 : findFile [⟨⟨#[97]⟩, t⟩] sortStp.out = none := by
    show ((List.find? _ _).map _) = none
    rw [show ([⟨⟨#[97]⟩, t⟩] : List Fil).find? (fun f => decide (f.name = ⟨#[98]⟩)) = none from by
      simp only [List.find?_eq_none, List.mem_singleton, forall_eq]; simp]
    rfl
  have r4 : sawOf [⟨⟨#[97]⟩, t⟩] sortStp.src = some [t] := by
    show sawOf _ [_] = _
    have : findFile [⟨⟨#[97]⟩, t⟩] ⟨#[97]⟩ = some t := by simp [findFile]
    simp [sawOf, this]
  unfold doStep
  rw [r1, r2, r3, r4]
  simp only [Bool.not_true, Bool.false_or]
  rw [if_neg (by decide), if_neg (by simp), if_neg (by simp)]
  have hw : writeStep sortStp [t] [] [] 0 0 = (rowsB (sortedLines t), [t], 0, 0) := by
    unfold writeStep
    rw [if_neg (by decide), if_pos rfl]
    rfl
  simp only [hw]
  rw [if_neg (by decide), if_neg (by omega)]

theorem byte_ne' {c : UInt8} (h : ((c.toNat : Int) == 10) = false) : c ≠ 10 := byte_ne (by rw [bne, h]; rfl)
theorem sort_call (t : ByteArray) (vf vl : Value) (w : World) (hG : Glob w) (hsrc : Strs w vf [⟨#[97]⟩]) (hfil : Fils w vl [⟨⟨#[97]⟩, t⟩]) (h1 : t.size ≤ 65536) (h2 : (rowsB (sortedLines t)).size ≤ 65536) :
    Calls Tryz.prog 17 #[.agg #[.int .i64 3, vf, .string ⟨#[98]⟩, .bool false], vl, .agg #[.slice none 0 0, .slice none 0 0, .slice none 0 0], .agg #[.int .i64 0, .int .i64 0]] w
      (fun e w' => Below w.heap.size w w' ∧ ∃ vfl vsaw, e = .returned (.tuple #[vfl, vsaw, .agg #[.int .i64 0, .int .i64 0], .int .i64 0]) ∧ Fils w' vfl [⟨⟨#[97]⟩, t⟩, ⟨⟨#[98]⟩, rowsB (sortedLines t)⟩] ∧ Strs w' vsaw [t]) := by
  have := do_any C0 sortStp [⟨⟨#[97]⟩, t⟩] [] [] vf vl (.slice none 0 0) (.slice none 0 0) (.slice none 0 0) 0 0 w ⟨hG, hsrc, by decide, hfil, ints_nil _, ints_nil _, ⟨_, _, _, rfl⟩, by decide, by decide, by simp, by simp⟩ (by decide)
  rw [do_sort t h1 h2] at this
  exact this

theorem alloc_self_drew (d : World) (o : Obj) : (d.alloc o).drew.heap[d.heap.size]? = some o := alloc_self d o
theorem alloc_self3 (d : World) (u v o : Obj) : (((d.alloc u).alloc v).alloc o).heap[d.heap.size + 1 + 1]? = some o := by
  have := alloc_self ((d.alloc u).alloc v) o
  simpa only [World.size_alloc] using this
theorem heap_later {w w' : World} {k : Nat} {o : Obj} (hb : Below w.heap.size w w') (h : w.heap[k]? = some o) : w'.heap[k]? = some o := (hb.block _ (heap_lt h)).trans h
theorem box4 {w : World} {k : Nat} {a b c d : Value} {t : TypeId} {fr : Nat × Nat} (h : w.heap[k]? = some (.cells #[a, b, c, d] t fr)) :
    w.cell? ⟨k, 0, none⟩ = some a ∧ w.cell? ⟨k, 1, none⟩ = some b ∧ w.cell? ⟨k, 2, none⟩ = some c ∧ w.cell? ⟨k, 3, none⟩ = some d := by
  simp only [World.cell?, h]; simp
theorem fil_size {t : ByteArray} (h : t.size ≤ 65536) : ∀ f, f ∈ [(⟨⟨#[97]⟩, t⟩ : Fil)] → f.name.size ≤ 140737488355328 ∧ f.text.size ≤ 140737488355328 := by
  intro f hf
  rw [List.mem_singleton.1 hf]
  exact ⟨(by decide : (⟨#[97]⟩ : ByteArray).size ≤ 140737488355328), by show t.size ≤ _; omega⟩
theorem last2 {f : Fil} {n text : ByteArray} {a : Option Addr} {c : Nat} {w : World} (h : Fils w (.slice a [f, ⟨n, text⟩].length c) [f, ⟨n, text⟩]) :
    Calls Tryz.prog 22 #[.slice a 2 c] w fun e w' => e = .returned (.string text) ∧ w = w' := last_any _ _ w h
/-- The sizes on the road. -/
structure SortsSizes (text row : ByteArray) : Prop where
  s1 : text.size ≤ 65536
  r1 : (rowsB (sortedLines text)).size ≤ 65536
  s2 : (rowsB (sortedLines text)).size ≤ 65536
  r2 : (rowsB (sortedLines (rowsB (sortedLines text)))).size ≤ 65536
  s3 : (row ++ ⟨#[10]⟩ ++ text).size ≤ 65536
  r3 : (rowsB (sortedLines (row ++ ⟨#[10]⟩ ++ text))).size ≤ 65536
  s4 : (text ++ row ++ ⟨#[10]⟩).size ≤ 65536
  r4 : (rowsB (sortedLines (text ++ row ++ ⟨#[10]⟩))).size ≤ 65536
theorem sorts_sizes {text row : ByteArray} (h : SortsLaw text row) (h1 : text.size ≤ 2001) (h2 : ¬ 100 < row.size) : Hid (SortsSizes text row) := by
  have a := h.size
  have b := h.more
  have c : (rowsB (sortedLines ((text ++ row) ++ nl))).size = _ := (congrArg ByteArray.size h.ahead).symm.trans b
  have n1 : nl.size = 1 := rfl
  exact Lib.hid ⟨by omega, by omega, by omega, by rw [h.again]; omega, by show ((row ++ nl) ++ text).size ≤ _; simp only [ByteArray.size_append]; omega, by show (rowsB (sortedLines ((row ++ nl) ++ text))).size ≤ _; omega, by show ((text ++ row) ++ nl).size ≤ _; simp only [ByteArray.size_append]; omega, by show (rowsB (sortedLines ((text ++ row) ++ nl))).size ≤ _; omega⟩
/-- No byte 10. -/
theorem row_clean {row : ByteArray} (h : ∀ j, j < row.size → row.data.toList.getD j 0 ≠ 10) : (10 : UInt8) ∉ row.data.toList := by
  intro hm
  obtain ⟨i, hi, e⟩ := List.getElem_of_mem hm
  refine h i (by simpa using hi) ?_
  rw [List.getD_eq_getElem?_getD, List.getElem?_eq_getElem hi]; exact e
theorem ends_nl (text : ByteArray) : (text ++ ⟨#[10]⟩).data.toList = [] ∨ (text ++ ⟨#[10]⟩ : ByteArray).data.toList.getLast? = some 10 := by
  right; simp
theorem ends_self {text : ByteArray} (h : 0 < text.size) (h2 : text[text.size - 1] = 10) : text.data.toList = [] ∨ text.data.toList.getLast? = some 10 := by
  right
  rw [List.getLast?_eq_getElem?, List.getElem?_eq_getElem (by simp; omega)]
  have : text.data.toList.length - 1 = text.size - 1 := by simp
  simp only [this]
  rw [← h2]; rfl
theorem ends_none {text : ByteArray} (h : ¬ 0 < text.size) : text.data.toList = [] ∨ text.data.toList.getLast? = some 10 := by
  left
  apply List.eq_nil_of_length_eq_zero
  have : text.data.toList.length = text.size := by simp
  omega


/-- What a call of Do with a StSort comes to; the new text is opaque. -/
def sortPost (d : World) (t : ByteArray) (e : Ending) (w' : World) : Prop := Below d.heap.size d w' ∧ ∃ p q x y r, e = .returned (.tuple #[.slice p 2 q, .slice x 1 y, .agg #[.int .i64 0, .int .i64 0], .int .i64 0]) ∧
  Hid (Fils w' (.slice p 2 q) [⟨⟨#[97]⟩, t⟩, ⟨⟨#[98]⟩, r⟩]) ∧ Hid (r = rowsB (sortedLines t))
theorem sort_at (t : ByteArray) (vf vl : Value) (d w : World) (hG : Glob w) (hd : Below d.heap.size d w) (hsrc : Strs w vf [⟨#[97]⟩]) (hfil : Fils w vl [⟨⟨#[97]⟩, t⟩]) (h1 : t.size ≤ 65536) (h2 : (rowsB (sortedLines t)).size ≤ 65536) :
    Calls Tryz.prog 17 #[.agg #[.int .i64 3, vf, .string ⟨#[98]⟩, .bool false], vl, .agg #[.slice none 0 0, .slice none 0 0, .slice none 0 0], .agg #[.int .i64 0, .int .i64 0]] w (sortPost d t) := by
  refine (sort_call t vf vl w hG hsrc hfil h1 h2).mono ?_
  rintro e w' ⟨hb, vA, vS, rfl, hA, hT⟩
  obtain ⟨p1, q1, r1⟩ := fils_slice hA
  obtain ⟨x1, y1, z1⟩ := strs_slice hT
  subst r1 z1
  exact ⟨below_trans hd hb, p1, q1, x1, y1, _, rfl, Lib.hid hA, Lib.hid rfl⟩
theorem sort_new (t : ByteArray) (vf : Value) (d : World) (b : Nat) (hb : b = d.heap.size) (hG : Glob d) (hsrc : Strs d vf [⟨#[97]⟩]) (h1 : t.size ≤ 65536) (h2 : (rowsB (sortedLines t)).size ≤ 65536) :
    Calls Tryz.prog 17 #[.agg #[.int .i64 3, vf, .string ⟨#[98]⟩, .bool false], .slice (some ⟨b, 0, none⟩) 1 1, .agg #[.slice none 0 0, .slice none 0 0, .slice none 0 0], .agg #[.int .i64 0, .int .i64 0]] (d.alloc (.cells #[.string ⟨#[97]⟩, .string t] 40)) (sortPost d t) := by
  subst hb
  have B := below_alloc d (.cells #[.string ⟨#[97]⟩, .string t] 40)
  exact sort_at t vf _ d _ (hG.later B) B (hsrc.later B) (fils_made [⟨⟨#[97]⟩, t⟩] (alloc_self d _) rfl (by simp) (fil_size h1)) h1 h2
theorem sort_new_drew (t : ByteArray) (vf : Value) (d : World) (b : Nat) (hb : b = d.heap.size) (hG : Glob d) (hsrc : Strs d vf [⟨#[97]⟩]) (h1 : t.size ≤ 65536) (h2 : (rowsB (sortedLines t)).size ≤ 65536) :
    Calls Tryz.prog 17 #[.agg #[.int .i64 3, vf, .string ⟨#[98]⟩, .bool false], .slice (some ⟨b, 0, none⟩) 1 1, .agg #[.slice none 0 0, .slice none 0 0, .slice none 0 0], .agg #[.int .i64 0, .int .i64 0]] (d.alloc (.cells #[.string ⟨#[97]⟩, .string t] 40)).drew (sortPost d t) := by
  subst hb
  have B := (below_alloc d (.cells #[.string ⟨#[97]⟩, .string t] 40)).drew
  exact sort_at t vf _ d _ (hG.later B) B (hsrc.later B) (fils_made [⟨⟨#[97]⟩, t⟩] (alloc_self_drew d _) rfl (by simp) (fil_size h1)) h1 h2
theorem last2' {f : Fil} {n text : ByteArray} {a : Option Addr} {c : Nat} {w : World} (h : Fils w (.slice a 2 c) [f, ⟨n, text⟩]) :
    Calls Tryz.prog 22 #[.slice a 2 c] w fun e w' => e = .returned (.string text) ∧ w = w' := last_any _ _ w h
/-- The step, once laid. -/
abbrev stepObj (b : Nat) : Obj := .cells #[.int .i64 3, .slice (some ⟨b, 0, none⟩) 1 1, .string ⟨#[98]⟩, .bool false] 24
/-- What is kept from call to call: the globals, the step's names, the step's box (block b + 1). -/
structure Kept (w : World) (b : Nat) (d : World) : Prop where
  glob : Glob d
  below : Below w.heap.size w d
  src : Strs d (.slice (some ⟨b, 0, none⟩) 1 1) [⟨#[97]⟩]
  box : d.heap[b + 1]? = some (.cells #[.int .i64 3, .slice (some ⟨b, 0, none⟩) 1 1, .string ⟨#[98]⟩, .bool false] 24 (0, 0))
theorem Kept.later {w d d' : World} {b : Nat} (h : Kept w b d) (hb : Below d.heap.size d d') : Kept w b d' :=
  ⟨h.glob.later hb, below_trans h.below hb, h.src.later hb, heap_later hb h.box⟩
theorem Kept.first {w w1 : World} (hG : Glob w) (hb : Below w.heap.size w w1) : Kept w w1.heap.size ((w1.alloc (.cells #[.string ⟨#[97]⟩] 9)).alloc (stepObj w1.heap.size)) := by
  have B1 := below_alloc w1 (.cells #[.string ⟨#[97]⟩] 9)
  have B2 := below_alloc (w1.alloc (.cells #[.string ⟨#[97]⟩] 9)) (stepObj w1.heap.size)
  have B := below_trans (below_trans hb B1) B2
  exact ⟨hG.later B, B, (strs_made [⟨#[97]⟩] (alloc_self w1 _) rfl (by decide) (small_sizes _ (by decide))).later B2, alloc_self2 w1 _ _⟩
theorem Kept.cells {w d : World} {b : Nat} (h : Kept w b d) : d.cell? ⟨b + 1, 0, none⟩ = some (.int .i64 3) ∧ d.cell? ⟨b + 1, 1, none⟩ = some (.slice (some ⟨b, 0, none⟩) 1 1) ∧ d.cell? ⟨b + 1, 2, none⟩ = some (.string ⟨#[98]⟩) ∧ d.cell? ⟨b + 1, 3, none⟩ = some (.bool false) := box4 h.box
theorem Kept.lt {w d : World} {b : Nat} (h : Kept w b d) : b + 1 < d.heap.size := heap_lt h.box
/-- The plain law with the texts opaque. -/
structure SortsOut (T row r1 r2 r3 r4 : ByteArray) : Prop where
  ok : linesOk r1 = true
  same : linesN r1 = linesN T
  size : r1.size = T.size
  again : r2 = r1
  ahead : r3 = r4
  more : r3.size = T.size + row.size + 1
theorem sorts_out {T row r1 r2 r3 r4 : ByteArray} (h : SortsLaw T row) (h1 : r1 = rowsB (sortedLines T)) (h2 : r2 = rowsB (sortedLines r1)) (h3 : r3 = rowsB (sortedLines (row ++ ⟨#[10]⟩ ++ T))) (h4 : r4 = rowsB (sortedLines (T ++ row ++ ⟨#[10]⟩))) : SortsOut T row r1 r2 r3 r4 := by
  subst h1
  exact ⟨h.ok, h.same, h.size, h2.trans h.again, h3.trans (h.ahead.trans h4.symm), (congrArg ByteArray.size h3).trans h.more⟩
theorem sizes2 {T row r1 : ByteArray} (h : SortsSizes T row) (h1 : r1 = rowsB (sortedLines T)) : r1.size ≤ 65536 ∧ (rowsB (sortedLines r1)).size ≤ 65536 := by
  subst h1; exact ⟨h.s2, h.r2⟩
theorem set_same {w : World} {b i : Nat} {cs : Array Value} {t : TypeId} {fr : Nat × Nat} {v : Value} (h : w.heap[b]? = some (.cells cs t fr)) (hv : cs[i]? = some v) : w.setCell ⟨b, i, none⟩ v = w := by
  have e : cs.setIfInBounds i v = cs := by
    apply Array.ext_getElem?
    intro j
    rw [Array.getElem?_setIfInBounds]
    by_cases hj : i = j
    · subst hj
      have hi := Array.getElem?_eq_some_iff.1 hv
      simp [hi.1, hi.2]
    · simp [hj]
  unfold World.setCell
  congr 1
  apply Array.ext_getElem?
  intro j
  rw [Array.getElem?_modify]
  by_cases hj : b = j
  · subst hj
    simp [h, e]
  · simp [hj]
/-- The new box of a [2]int. -/
abbrev usedObj : Obj := .cells #[.int .i64 0, .int .i64 0] 31
/-- A box of two zeros: what a store of two zeros wants, and what it comes to. -/
theorem zero_box {w : World} {b : Nat} (h : w.heap[b]? = some usedObj) : w.cell? ⟨b, 0, none⟩ = some (.int .i64 0) ∧ w.cell? ⟨b, 1, none⟩ = some (.int .i64 0) ∧ w.frozen? ⟨b, 0, none⟩ = false ∧ w.frozen? ⟨b, 1, none⟩ = false ∧
    w.setCell ⟨b, 0, none⟩ (.int .i64 0) = w ∧ w.setCell ⟨b, 1, none⟩ (.int .i64 0) = w := by
  refine ⟨?_, ?_, ?_, ?_, set_same h rfl, set_same h rfl⟩
  · simp only [World.cell?, h]; simp
  · simp only [World.cell?, h]; simp
  · simp only [World.frozen?, h]; simp
  · simp only [World.frozen?, h]; simp
/-- What stands behind the second call. -/
structure Cut2 (w : World) (b : Nat) (T r1 : ByteArray) (p1 : Option Addr) (q1 : Nat) (p2 : Option Addr) (q2 : Nat) (r2 : ByteArray) (wx : World) : Prop where
  fils2 : Fils wx (.slice p2 2 q2) [⟨⟨#[97]⟩, r1⟩, ⟨⟨#[98]⟩, r2⟩]
  eq2 : r2 = rowsB (sortedLines r1)
  kept : Kept w b wx
  fils1 : Fils wx (.slice p1 2 q1) [⟨⟨#[97]⟩, T⟩, ⟨⟨#[98]⟩, r1⟩]
theorem Cut2.later {w : World} {b : Nat} {T r1 : ByteArray} {p1 p2 : Option Addr} {q1 q2 : Nat} {r2 : ByteArray} {wx wy : World} (h : Cut2 w b T r1 p1 q1 p2 q2 r2 wx) (hb : Below wx.heap.size wx wy) : Cut2 w b T r1 p1 q1 p2 q2 r2 wy :=
  ⟨h.fils2.later hb, h.eq2, h.kept.later hb, h.fils1.later hb⟩
theorem sort_new_drew2 (t : ByteArray) (vf : Value) (d : World) (b : Nat) (hb : b = d.heap.size) (hG : Glob d) (hsrc : Strs d vf [⟨#[97]⟩]) (h1 : t.size ≤ 65536) (h2 : (rowsB (sortedLines t)).size ≤ 65536) :
    Calls Tryz.prog 17 #[.agg #[.int .i64 3, vf, .string ⟨#[98]⟩, .bool false], .slice (some ⟨b, 0, none⟩) 1 1, .agg #[.slice none 0 0, .slice none 0 0, .slice none 0 0], .agg #[.int .i64 0, .int .i64 0]] ((d.alloc (.cells #[.string ⟨#[97]⟩, .string t] 40)).alloc usedObj).drew
      (sortPost ((d.alloc (.cells #[.string ⟨#[97]⟩, .string t] 40)).alloc usedObj) t) := by
  subst hb
  have B1 := below_alloc d (.cells #[.string ⟨#[97]⟩, .string t] 40)
  have B2 := below_alloc (d.alloc (.cells #[.string ⟨#[97]⟩, .string t] 40)) usedObj
  have B := (below_trans B1 B2).drew
  exact sort_at t vf _ _ _ (hG.later B) (Below.refl _ _).drew (hsrc.later B) ((fils_made [⟨⟨#[97]⟩, t⟩] (alloc_self d _) rfl (by simp) (fil_size h1)).later B2.drew) h1 h2
/-- The three ways in which the second call may come: the new variable's box behind it, just ahead of it, or ahead of the files. -/
theorem way_a {w d d2 : World} {b : Nat} {T r1 r2 : ByteArray} {p1 p2 : Option Addr} {q1 q2 : Nat} (hK : Kept w b d) (hA : Fils d (.slice p1 2 q1) [⟨⟨#[97]⟩, T⟩, ⟨⟨#[98]⟩, r1⟩]) (hd : Below d.heap.size d d2) (h2 : Fils d2 (.slice p2 2 q2) [⟨⟨#[97]⟩, r1⟩, ⟨⟨#[98]⟩, r2⟩]) (he : r2 = rowsB (sortedLines r1)) :
    Cut2 w b T r1 p1 q1 p2 q2 r2 d2 := ⟨h2, he, hK.later hd, hA.later hd⟩
theorem way_b {w d d2 : World} {b : Nat} {T r1 r2 : ByteArray} {p1 p2 : Option Addr} {q1 q2 : Nat} {o : Obj} (hK : Kept w b d) (hA : Fils d (.slice p1 2 q1) [⟨⟨#[97]⟩, T⟩, ⟨⟨#[98]⟩, r1⟩]) (hd : Below ((d.alloc o).alloc usedObj).heap.size ((d.alloc o).alloc usedObj) d2) (h2 : Fils d2 (.slice p2 2 q2) [⟨⟨#[97]⟩, r1⟩, ⟨⟨#[98]⟩, r2⟩]) (he : r2 = rowsB (sortedLines r1)) :
    Cut2 w b T r1 p1 q1 p2 q2 r2 d2 ∧ d2.heap[d.heap.size + 1]? = some usedObj :=
  ⟨way_a hK hA (below_trans (below_trans (below_alloc _ _) (below_alloc _ _)) hd) h2 he, heap_later hd (alloc_self2 d _ _)⟩
theorem way_c {w d d2 : World} {b : Nat} {T r1 r2 : ByteArray} {p1 p2 : Option Addr} {q1 q2 : Nat} (hK : Kept w b d) (hA : Fils d (.slice p1 2 q1) [⟨⟨#[97]⟩, T⟩, ⟨⟨#[98]⟩, r1⟩]) (hd : Below (d.alloc usedObj).heap.size (d.alloc usedObj) d2) (h2 : Fils d2 (.slice p2 2 q2) [⟨⟨#[97]⟩, r1⟩, ⟨⟨#[98]⟩, r2⟩]) (he : r2 = rowsB (sortedLines r1)) :
    Cut2 w b T r1 p1 q1 p2 q2 r2 d2 ∧ d2.heap[d.heap.size]? = some usedObj :=
  ⟨way_a hK hA (below_trans (below_alloc _ _) hd) h2 he, heap_later hd (alloc_self d _)⟩
theorem last2e {f : Fil} {n text text' : ByteArray} {a : Option Addr} {c : Nat} {w : World} (h : Fils w (.slice a 2 c) [f, ⟨n, text⟩]) (e : text = text') :
    Calls Tryz.prog 22 #[.slice a 2 c] w fun e w' => e = .returned (.string text') ∧ w = w' := e ▸ last_any _ _ w h
theorem lines_e (s : ByteArray) (w : World) (n : Int) (b : Bool) (hs : s.size ≤ 65536) (hn : (linesN s : Int) = n) (hb : linesOk s = b) :
    Calls Tryz.prog 23 #[.string s] w fun e w' => e = .returned (.tuple #[.int .i64 n, .bool b]) ∧ w = w' := by
  subst hn hb
  exact lines_any s w (by omega)
end Go.Proofs.YtacgopankhpnbaaGreatDoor
