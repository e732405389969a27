/- Texts of this seat, joined: StepSpec, DoSpec, BuildSpec, VisitLaw, RunSpec, RankLaw, RefuseLaw, SortLaw, SmallSpec, BuildEx. -/
import Derived.Lib.ItoaNum
import Derived.Lib.Split
import Derived.Lib.Strings
import Derived.Lib.Join
import Derived.KernelRfl
/- Package step in plain words: what its functions compute. No program in sight. -/
namespace Go.Proofs.YtacgopankhpnbaaGreatDoor

def nameByte (c : UInt8) : Bool := decide (33 ≤ (c.toNat : Int)) && decide ((c.toNat : Int) ≤ 126)
/-- step.isName -/
def isName (s : ByteArray) : Bool := s.data.toList.all nameByte && !s.toList.isEmpty && decide (s.size ≤ 20)

structure Stp where
  kind : Int
  src : List ByteArray
  out : ByteArray
  sorted : Bool
structure Fil where
  name : ByteArray
  text : ByteArray

/-- step.Right -/
def stepRight (s : Stp) : Bool :=
  if (!isName s.out || s.src.any fun x => !isName x) then false
  else if s.kind = 2 then decide (s.src.length ≤ 60)
  else if s.kind = 1 then decide (s.src.length ≤ 60) && !s.sorted
  else if s.kind = 0 ∨ s.kind = 3 ∨ s.kind = 4 ∨ s.kind = 5 then decide (s.src.length = 1) && !s.sorted
  else false

/-- step.Pure -/
def stepPure (s : Stp) : Bool := stepRight s && decide (s.kind ≠ 4) && (decide (s.kind ≠ 2) || s.sorted)

/-- step.RightFiles: the loop, with the names that are known. -/
def rightFrom : List Fil → List ByteArray → Bool
  | [], _ => true
  | f :: r, known => if (known.any fun x => decide (x = f.name)) || !isName f.name || decide (65536 < f.text.size) then false else rightFrom r (f.name :: known)
def rightFiles (l : List Fil) : Bool := rightFrom l [] && decide (l.length ≤ 60)

/-- step.Find -/
def findFile (l : List Fil) (name : ByteArray) : Option ByteArray := (l.find? fun f => decide (f.name = name)).map (·.text)

/-- What step.rows writes: each string, and a byte 10. -/
def rowsL (l : List ByteArray) : List UInt8 := l.flatMap fun s => s.data.toList ++ [10]
def rowsB (l : List ByteArray) : ByteArray := ⟨(rowsL l).toArray⟩

/-- slices.Sort at strings. -/
def sortB (l : List ByteArray) : List ByteArray := ((l.map (·.data.toList)).mergeSort fun x y => decide (x ≤ y)).map fun x => ⟨x.toArray⟩

def nl : ByteArray := ⟨#[10]⟩
/-- The lines of a text that is not empty. -/
def linesOf (text : ByteArray) : List ByteArray :=
  Lib.splitB nl 0 (Lib.countB ⟨(Lib.trimSuffix text.data.toList [10]).toArray⟩ nl) ⟨(Lib.trimSuffix text.data.toList [10]).toArray⟩
/-- step.sorted -/
def sortedLines (text : ByteArray) : List ByteArray := if text.toList.isEmpty then [] else sortB (linesOf text)

/-- Which one of n a number names. -/
def pickIdx (x : Int) (n : Nat) : Nat := (x % (n : Int)).toNat
/-- The names that are left, in the order of the world; u: how many numbers have been used. -/
def pickAll (order : List Int) : Nat → Nat → List ByteArray → List ByteArray
  | 0, _, _ => []
  | f + 1, u, left => match left[pickIdx (order.getD u 0) left.length]? with
    | none => []
    | some x => x :: pickAll order f (u + 1) (left.eraseIdx (pickIdx (order.getD u 0) left.length))

/-- strings.Join with the empty string. -/
def joinB (l : List ByteArray) : ByteArray := ⟨(Lib.join (l.map (·.data.toList)) []).toArray⟩

/-- wire.Int -/
def wireInt (n : Int) : ByteArray := ⟨(Lib.itoa n ++ [59]).toArray⟩
end Go.Proofs.YtacgopankhpnbaaGreatDoor
/- Package step in plain words: write and Do. No program in sight. -/
namespace Go.Proofs.YtacgopankhpnbaaGreatDoor

/-- What a StStamp writes. -/
def stampB (t : ByteArray) (n : Int) : ByteArray := (t ++ wireInt n) ++ ⟨#[10]⟩

/-- step.write, kinds but StCompile: the text, what was seen, how much has been used. -/
def writeStep (s : Stp) (saw : List ByteArray) (clock order : List Int) (u0 u1 : Int) : ByteArray × List ByteArray × Int × Int :=
  if s.kind = 0 ∨ s.kind = 1 then (joinB saw, saw, u0, u1)
  else if s.kind = 3 then (rowsB (sortedLines (saw.headD ByteArray.empty)), saw, u0, u1)
  else if s.kind = 4 then (stampB (saw.headD ByteArray.empty) (clock.getD u0.toNat 0), saw, u0 + 1, u1)
  else if s.sorted then (rowsB (sortB s.src), [], u0, u1)
  else (rowsB (pickAll order s.src.length u1.toNat (sortB s.src)), [], u0, u1 + s.src.length)

/-- What step.Do returns: an error, or the text that was written, what was seen, and what has been used. -/
abbrev DoRes := Except Int (ByteArray × List ByteArray × Int × Int)

/-- What a step sees. -/
def sawOf (files : List Fil) : List ByteArray → Option (List ByteArray)
  | [] => some []
  | x :: r => match findFile files x, sawOf files r with
    | some t, some l => some (t :: l)
    | _, _ => none

/-- step.Do; C: what a StCompile comes to (an error, a text). -/
def doStep (C : ByteArray → Int × ByteArray) (s : Stp) (files : List Fil) (clock order : List Int) (u0 u1 : Int) : DoRes :=
  if !stepRight s || !rightFiles files || decide (min u0 u1 < 0) then .error 1
  else if (findFile files s.out).isSome then .error 5
  else if 60 ≤ files.length then .error 6
  else match sawOf files s.src with
    | none => .error 4
    | some saw =>
      if s.kind = 5 then
        if (C (saw.headD ByteArray.empty)).1 ≠ 0 then .error (C (saw.headD ByteArray.empty)).1
        else if 65536 < (C (saw.headD ByteArray.empty)).2.size then .error 6
        else .ok ((C (saw.headD ByteArray.empty)).2, saw, u0, u1)
      else if 65536 < (writeStep s saw clock order u0 u1).1.size then .error 6
      else .ok (writeStep s saw clock order u0 u1)

/-- The files behind a step. -/
def doFiles (s : Stp) (files : List Fil) (text : ByteArray) : List Fil := files ++ [⟨s.out, text⟩]
end Go.Proofs.YtacgopankhpnbaaGreatDoor
/- Package build in plain words: recipes, who writes a file, what a step needs, what is refused. No program in sight. -/
namespace Go.Proofs.YtacgopankhpnbaaGreatDoor

structure Rcp where
  inputs : List Fil
  steps : List Stp
  output : ByteArray

/-- The step that writes a file. -/
def writerOf (steps : List Stp) (x : ByteArray) : Option Nat := steps.findIdx? fun s => decide (s.out = x)
/-- Is it an input? -/
def isInput (inputs : List Fil) (x : ByteArray) : Bool := inputs.any fun f => decide (f.name = x)
/-- graph.known, while k steps have been entered. -/
def knownTo (r : Rcp) (k : Nat) (x : ByteArray) : Bool := (writerOf (r.steps.take k) x).isSome || isInput r.inputs x
def known (r : Rcp) (x : ByteArray) : Bool := (writerOf r.steps x).isSome || isInput r.inputs x
/-- graph.needs, of a step. -/
def needsOf (steps : List Stp) (s : Stp) : List Nat := s.src.filterMap (writerOf steps)
def needsAt (steps : List Stp) (i : Nat) : List Nat := match steps[i]? with
  | some s => needsOf steps s
  | none => []
/-- From step k on, somebody writes what is there already. -/
def twiceFrom (r : Rcp) : Nat → Nat → Bool
  | _, 0 => false
  | k, n + 1 => (match r.steps[k]? with
    | some s => knownTo r k s.out
    | none => false) || twiceFrom r (k + 1) n
def twice (r : Rcp) : Bool := twiceFrom r 0 r.steps.length

/-- The marks of a walk over the steps: 0 new, 1 open, 2 shut. -/
abbrev Marks := Nat → Int
def mark (st : Marks) (i : Nat) (x : Int) : Marks := fun j => if j = i then x else st j
/-- slices.ContainsFunc with a function that keeps marks. -/
def anyV {σ : Type} (g : σ → Nat → σ × Bool) : σ → List Nat → σ × Bool
  | st, [] => (st, false)
  | st, k :: r => if (g st k).2 then ((g st k).1, true) else anyV g (g st k).1 r
/-- circle's visit, so many levels deep. -/
def visit (needs : Nat → List Nat) : Nat → Marks → Nat → Marks × Bool
  | 0, st, _ => (st, true)
  | f + 1, st, i =>
    if st i ≠ 0 then (st, decide (st i = 1))
    else if (anyV (visit needs f) (mark st i 1) (needs i)).2 then ((anyV (visit needs f) (mark st i 1) (needs i)).1, true)
    else (mark (anyV (visit needs f) (mark st i 1) (needs i)).1 i 2, false)
/-- graph.circle: the loop, from step k on, n steps. -/
def circleFrom (needs : Nat → List Nat) (f : Nat) : Nat → Nat → Marks → Bool
  | _, 0, _ => false
  | k, n + 1, st => (visit needs f st k).2 || circleFrom needs f (k + 1) n (visit needs f st k).1
def circle (steps : List Stp) : Bool := circleFrom (needsAt steps) (steps.length + 1) 0 steps.length (fun _ => 0)

/-- build.inspect: the error. -/
def inspectE (r : Rcp) : Int :=
  if !rightFiles r.inputs || decide (60 < r.steps.length) || r.steps.any (fun s => !stepRight s) then 1
  else if twice r then 5
  else if 60 < r.inputs.length + r.steps.length then 6
  else if !known r r.output || r.steps.any (fun s => s.src.any fun x => !known r x) then 4
  else if circle r.steps then 15
  else 0
/-- graph.ready: which steps can come, when some are done. -/
def canCome (steps : List Stp) (done : Nat → Bool) (i : Nat) : Bool := !done i && !(needsAt steps i).any fun k => !done k
def readyOf (steps : List Stp) (done : Nat → Bool) : List Nat := (List.range steps.length).filter (canCome steps done)
end Go.Proofs.YtacgopankhpnbaaGreatDoor
/- circle's walk over the marks: what it keeps, how deep it goes. No program in sight. -/
namespace Go.Proofs.YtacgopankhpnbaaGreatDoor

theorem mark_same (st : Marks) (i : Nat) (x : Int) : mark st i x i = x := by simp [mark]
theorem mark_other (st : Marks) {i j : Nat} (x : Int) (h : j ≠ i) : mark st i x j = st j := by simp [mark, h]

theorem anyV_keeps {g : Marks → Nat → Marks × Bool} (hg : ∀ st k j, st j ≠ 0 → (g st k).1 j = st j) : ∀ (l : List Nat) (st : Marks) (j : Nat), st j ≠ 0 → (anyV g st l).1 j = st j
  | [], _, _, _ => rfl
  | k :: r, st, j, h => by
    rw [anyV]
    have h1 := hg st k j h
    split
    · exact h1
    · rw [anyV_keeps hg r _ j (by rw [h1]; exact h), h1]
theorem visit_keeps (needs : Nat → List Nat) : ∀ (f : Nat) (st : Marks) (i j : Nat), st j ≠ 0 → (visit needs f st i).1 j = st j
  | 0, _, _, _, _ => rfl
  | f + 1, st, i, j, h => by
    rw [visit]
    split
    · rfl
    · rename_i hi
      have hij : j ≠ i := fun e => hi (e ▸ h)
      have h1 : mark st i 1 j = st j := mark_other st 1 hij
      have h2 := anyV_keeps (visit_keeps needs f) (needs i) (mark st i 1) j (by rw [h1]; exact h)
      split
      · rw [h2, h1]
      · show mark _ i 2 j = st j
        rw [mark_other _ _ hij, h2, h1]

/-- How many of the first n are new. -/
def zeros (st : Marks) : Nat → Nat
  | 0 => 0
  | n + 1 => zeros st n + if st n = 0 then 1 else 0
/-- How many stores there may be yet. -/
def pot (st : Marks) : Nat → Nat
  | 0 => 0
  | n + 1 => pot st n + if st n = 0 then 2 else if st n = 1 then 1 else 0
theorem zeros_le {st st' : Marks} (h : ∀ j, st j ≠ 0 → st' j ≠ 0) : ∀ n, zeros st' n ≤ zeros st n
  | 0 => Nat.le_refl _
  | n + 1 => by
    have := zeros_le h n
    rw [zeros, zeros]
    by_cases e : st n = 0
    · rw [if_pos e]; split <;> omega
    · rw [if_neg e, if_neg (h n e)]; omega
theorem zeros_out (st : Marks) {i : Nat} (x : Int) : ∀ n, n ≤ i → zeros (mark st i x) n = zeros st n
  | 0, _ => rfl
  | n + 1, h => by rw [zeros, zeros, zeros_out st x n (by omega), mark_other st x (by omega)]
theorem zeros_mark {st : Marks} {i : Nat} (h0 : st i = 0) : ∀ n, i < n → zeros (mark st i 1) n + 1 = zeros st n
  | 0, h => absurd h (by omega)
  | n + 1, h => by
    rw [zeros, zeros]
    by_cases e : i = n
    · subst e
      rw [zeros_out st 1 i (Nat.le_refl _), mark_same, h0]; simp
    · have := zeros_mark h0 n (by omega)
      rw [mark_other st 1 (by omega)]
      split <;> omega
theorem pot_out (st : Marks) {i : Nat} (x : Int) : ∀ n, n ≤ i → pot (mark st i x) n = pot st n
  | 0, _ => rfl
  | n + 1, h => by rw [pot, pot, pot_out st x n (by omega), mark_other st x (by omega)]
theorem pot_mark {st : Marks} {i : Nat} {x : Int} (h : (st i = 0 ∧ x = 1) ∨ (st i = 1 ∧ x = 2)) : ∀ n, i < n → pot (mark st i x) n + 1 = pot st n
  | 0, h => absurd h (by omega)
  | n + 1, hn => by
    rw [pot, pot]
    by_cases e : i = n
    · subst e
      rw [pot_out st x i (Nat.le_refl _), mark_same]
      rcases h with ⟨h, rfl⟩ | ⟨h, rfl⟩ <;> rw [h] <;> simp
    · have := pot_mark h n (by omega)
      rw [mark_other st x (by omega)]
      split
      · omega
      · split <;> omega
theorem pot_new : ∀ n, pot (fun _ => 0) n = 2 * n
  | 0 => rfl
  | n + 1 => by rw [pot, pot_new n]; simp; omega
theorem zeros_new : ∀ n, zeros (fun _ => 0) n = n
  | 0 => rfl
  | n + 1 => by rw [zeros, zeros_new n]; simp
theorem visit_zeros (needs : Nat → List Nat) (f : Nat) (st : Marks) (i n : Nat) : zeros (visit needs f st i).1 n ≤ zeros st n :=
  zeros_le (fun j h => by rw [visit_keeps needs f st i j h]; exact h) n
theorem needsOf_lt {steps : List Stp} {s : Stp} {j : Nat} (h : j ∈ needsOf steps s) : j < steps.length := by
  unfold needsOf at h
  obtain ⟨x, -, hx⟩ := List.mem_filterMap.1 h
  unfold writerOf at hx
  exact (List.findIdx?_eq_some_iff_getElem.1 hx).1
theorem needsAt_lt {steps : List Stp} {i j : Nat} (h : j ∈ needsAt steps i) : j < steps.length := by
  unfold needsAt at h
  split at h
  · exact needsOf_lt h
  · cases h
end Go.Proofs.YtacgopankhpnbaaGreatDoor
/- Package build in plain words: Run, Order, Slice, Pure. No program in sight. -/
namespace Go.Proofs.YtacgopankhpnbaaGreatDoor

/-- What was done for a step. -/
structure Dn where
  step : Int
  saw : List ByteArray
  out : ByteArray

/-- build.choose: which one of a list that is not empty. -/
def chooseL (l : List Nat) (next : List Int) (u : Nat) : Nat := l.getD (pickIdx (next.getD u 0) l.length) 0
/-- One more is done. -/
def also (done : Nat → Bool) (i : Nat) : Nat → Bool := fun j => if j = i then true else done j

/-- build.Run's loop: the error, or what was done, and the files. -/
def runFrom (C : ByteArray → Int × ByteArray) (steps : List Stp) (clock order next : List Int) : Nat → (Nat → Bool) → List Dn → List Fil → Int → Int → Except Int (List Dn × List Fil)
  | 0, _, out, files, _, _ => .ok (out, files)
  | f + 1, done, out, files, u0, u1 =>
    if (readyOf steps done).isEmpty then .ok (out, files)
    else match steps[chooseL (readyOf steps done) next out.length]? with
      | none => .ok (out, files)
      | some s => match doStep C s files clock order u0 u1 with
        | .error e => .error e
        | .ok (text, saw, a, b) => runFrom C steps clock order next f (also done (chooseL (readyOf steps done) next out.length)) (out ++ [⟨chooseL (readyOf steps done) next out.length, saw, text⟩]) (doFiles s files text) a b
/-- build.Run, behind inspect. -/
def runAll (C : ByteArray → Int × ByteArray) (r : Rcp) (clock order next : List Int) : Except Int (List Dn × List Fil) :=
  runFrom C r.steps clock order next (r.steps.length + 1) (fun _ => false) [] r.inputs 0 0
/-- build.Run. -/
def runL (C : ByteArray → Int × ByteArray) (r : Rcp) (clock order next : List Int) : Except Int (List Dn × ByteArray) :=
  if inspectE r ≠ 0 then .error (inspectE r)
  else match runAll C r clock order next with
    | .error e => .error e
    | .ok (out, files) => .ok (out, (findFile files r.output).getD ByteArray.empty)

/-- build.Order's loop. -/
def orderFrom (steps : List Stp) : Nat → (Nat → Bool) → List Nat → List Nat
  | 0, _, out => out
  | f + 1, done, out => match readyOf steps done with
    | [] => out
    | i :: _ => orderFrom steps f (also done i) (out ++ [i])
/-- build.Order, behind inspect. -/
def orderAll (steps : List Stp) : List Nat := orderFrom steps (steps.length + 1) (fun _ => false) []
def orderL (r : Rcp) : List Nat := if inspectE r ≠ 0 then [] else orderAll r.steps

/-- Slice's visit, so many levels deep. -/
def grow (needs : Nat → List Nat) : Nat → (Nat → Bool) → Nat → (Nat → Bool)
  | 0, st, _ => st
  | f + 1, st, i => if st i then st else (needs i).foldl (grow needs f) (also st i)
/-- The steps on which the output depends. -/
def inSlice (r : Rcp) : Nat → Bool := match writerOf r.steps r.output with
  | some i => grow (needsAt r.steps) (r.steps.length + 1) (fun _ => false) i
  | none => fun _ => false
def sliceAll (r : Rcp) : List Nat := (List.range r.steps.length).filter (inSlice r)
def sliceL (r : Rcp) : List Nat := if inspectE r ≠ 0 then [] else sliceAll r
/-- build.Pure. -/
def pureL (r : Rcp) : Bool := decide (inspectE r = 0) && !(sliceL r).any fun i => match r.steps[i]? with
  | some s => !stepPure s
  | none => true
end Go.Proofs.YtacgopankhpnbaaGreatDoor
/- circle finds no circle: then the steps have ranks; and every step comes. No program in sight. -/
namespace Go.Proofs.YtacgopankhpnbaaGreatDoor

/-- Marks are 0, 1, 2; what a shut step needs is shut, and has a lower rank. -/
structure Sound (needs : Nat → List Nat) (st : Marks) (rk : Nat → Nat) : Prop where
  vals : ∀ i, st i = 0 ∨ st i = 1 ∨ st i = 2
  shut : ∀ i, st i = 2 → ∀ k, k ∈ needs i → st k = 2 ∧ rk k < rk i
def SoundE (needs : Nat → List Nat) (st : Marks) : Prop := ∃ rk, Sound needs st rk

theorem SoundE.open_ {needs : Nat → List Nat} {st : Marks} {i : Nat} (h : SoundE needs st) (h0 : st i = 0) : SoundE needs (mark st i 1) := by
  obtain ⟨rk, h1, h2⟩ := h
  refine ⟨rk, fun j => ?_, fun j hj k hk => ?_⟩
  · by_cases e : j = i
    · subst e; rw [mark_same]; exact .inr (.inl rfl)
    · rw [mark_other _ _ e]; exact h1 j
  · have hji : j ≠ i := by rintro rfl; rw [mark_same] at hj; omega
    rw [mark_other _ _ hji] at hj
    obtain ⟨h3, h4⟩ := h2 j hj k hk
    have hki : k ≠ i := by rintro rfl; omega
    rw [mark_other _ _ hki]
    exact ⟨h3, h4⟩
theorem le_sum (rk : Nat → Nat) : ∀ (l : List Nat) (k : Nat), k ∈ l → rk k ≤ (l.map rk).sum
  | [], _, h => by cases h
  | a :: r, k, h => by
    rw [List.map_cons, List.sum_cons]
    rcases List.mem_cons.1 h with rfl | h
    · omega
    · have := le_sum rk r k h; omega
theorem SoundE.shut_ {needs : Nat → List Nat} {st : Marks} {i : Nat} (h : SoundE needs st) (h0 : st i = 1) (hn : ∀ k, k ∈ needs i → st k = 2) : SoundE needs (mark st i 2) := by
  obtain ⟨rk, h1, h2⟩ := h
  refine ⟨fun j => if j = i then ((needs i).map rk).sum + 1 else rk j, fun j => ?_, fun j hj k hk => ?_⟩
  · by_cases e : j = i
    · subst e; rw [mark_same]; exact .inr (.inr rfl)
    · rw [mark_other _ _ e]; exact h1 j
  · by_cases e : j = i
    · subst e
      have hk2 := hn k hk
      have hki : k ≠ j := by rintro rfl; omega
      rw [mark_other _ _ hki, if_neg hki, if_pos rfl]
      exact ⟨hk2, by have := le_sum rk _ _ hk; omega⟩
    · rw [mark_other _ _ e] at hj
      obtain ⟨h3, h4⟩ := h2 j hj k hk
      have hki : k ≠ i := by rintro rfl; omega
      rw [mark_other _ _ hki, if_neg hki, if_neg e]
      exact ⟨h3, h4⟩

/-- What a visit that finds no circle leaves. -/
def ShutOk (needs : Nat → List Nat) (g : Marks → Nat → Marks × Bool) : Prop := ∀ st i, SoundE needs st → (g st i).2 = false → SoundE needs (g st i).1 ∧ (g st i).1 i = 2
theorem anyV_ok {needs : Nat → List Nat} {g : Marks → Nat → Marks × Bool} (hg : ShutOk needs g) (hk : ∀ st k j, st j ≠ 0 → (g st k).1 j = st j) : ∀ (l : List Nat) (st : Marks), SoundE needs st → (anyV g st l).2 = false →
    SoundE needs (anyV g st l).1 ∧ ∀ k, k ∈ l → (anyV g st l).1 k = 2
  | [], st, h, _ => ⟨h, fun k hk => by cases hk⟩
  | a :: r, st, h, hf => by
    rw [anyV] at hf ⊢
    by_cases e : (g st a).2 = true
    · rw [if_pos e] at hf; cases hf
    · rw [if_neg e] at hf ⊢
      have e' : (g st a).2 = false := by simpa using e
      obtain ⟨h1, h2⟩ := hg st a h e'
      obtain ⟨h3, h4⟩ := anyV_ok hg hk r _ h1 hf
      refine ⟨h3, fun k hm => ?_⟩
      rcases List.mem_cons.1 hm with rfl | hm
      · rw [anyV_keeps hk r _ k (by rw [h2]; decide), h2]
      · exact h4 k hm
theorem visit_shut (needs : Nat → List Nat) : ∀ f, ShutOk needs (visit needs f)
  | 0, st, i, _, hf => by cases hf
  | f + 1, st, i, h, hf => by
    rw [visit] at hf ⊢
    by_cases e : st i ≠ 0
    · rw [if_pos e] at hf ⊢
      have h1 : st i ≠ 1 := of_decide_eq_false hf
      obtain ⟨rk, hv, hs⟩ := h
      refine ⟨⟨rk, hv, hs⟩, ?_⟩
      show st i = 2
      rcases hv i with h0 | h0 | h0
      · exact absurd h0 e
      · exact absurd h0 h1
      · exact h0
    · rw [if_neg e] at hf ⊢
      have h0 : st i = 0 := Classical.not_not.1 e
      by_cases e2 : (anyV (visit needs f) (mark st i 1) (needs i)).2 = true
      · rw [if_pos e2] at hf; cases hf
      · rw [if_neg e2]
        have e3 : (anyV (visit needs f) (mark st i 1) (needs i)).2 = false := by simpa using e2
        obtain ⟨h3, h4⟩ := anyV_ok (visit_shut needs f) (visit_keeps needs f) (needs i) (mark st i 1) (h.open_ h0) e3
        have h5 : (anyV (visit needs f) (mark st i 1) (needs i)).1 i = 1 := by
          rw [anyV_keeps (visit_keeps needs f) (needs i) (mark st i 1) i (by rw [mark_same]; decide), mark_same]
        exact ⟨h3.shut_ h5 h4, mark_same _ _ _⟩
theorem circleFrom_ok (needs : Nat → List Nat) (f : Nat) : ∀ (n k : Nat) (st : Marks), SoundE needs st → (∀ j, j < k → st j = 2) → circleFrom needs f k n st = false → ∃ st', SoundE needs st' ∧ ∀ j, j < k + n → st' j = 2
  | 0, k, st, h, hk, _ => ⟨st, h, hk⟩
  | n + 1, k, st, h, hk, hf => by
    rw [circleFrom, Bool.or_eq_false_iff] at hf
    obtain ⟨h1, h2⟩ := visit_shut needs f st k h hf.1
    obtain ⟨st', h3, h4⟩ := circleFrom_ok needs f n (k + 1) _ h1 (fun j hj => by
      by_cases e : j = k
      · subst e; exact h2
      · rw [visit_keeps needs f st k j (by rw [hk j (by omega)]; decide)]; exact hk j (by omega)) hf.2
    exact ⟨st', h3, fun j hj => h4 j (by omega)⟩
/-- Without a circle there are ranks. -/
theorem circle_rank {steps : List Stp} (h : circle steps = false) : ∃ rk : Nat → Nat, ∀ i k, k ∈ needsAt steps i → rk k < rk i := by
  obtain ⟨st, ⟨rk, hv, hs⟩, h2⟩ := circleFrom_ok (needsAt steps) _ steps.length 0 (fun _ => 0) ⟨fun _ => 0, fun _ => .inl rfl, fun i hi => by cases hi⟩ (fun j hj => absurd hj (by omega)) h
  refine ⟨rk, fun i k hk => (hs i (h2 i ?_) k hk).2⟩
  rw [Nat.zero_add]
  unfold needsAt at hk
  split at hk
  · rename_i s hs
    exact (List.getElem?_eq_some_iff.1 hs).1
  · cases hk

/-- While something is left, something can come. -/
theorem ready_some {steps : List Stp} (h : circle steps = false) (done : Nat → Bool) {i : Nat} (hi : i < steps.length) (hd : done i = false) : readyOf steps done ≠ [] := by
  obtain ⟨rk, hr⟩ := circle_rank h
  have key : ∀ n i, rk i ≤ n → i < steps.length → done i = false → readyOf steps done ≠ [] := by
    intro n
    induction n with
    | zero =>
      intro i hn hi hd he
      have : i ∈ readyOf steps done := by
        unfold readyOf
        rw [List.mem_filter]
        refine ⟨List.mem_range.2 hi, ?_⟩
        unfold canCome
        rw [hd]
        have : (needsAt steps i).any (fun k => !done k) = false := by
          rw [List.any_eq_false]
          intro k hk
          have := hr i k hk
          omega
        rw [this]; rfl
      rw [he] at this; cases this
    | succ n ih =>
      intro i hn hi hd
      by_cases hc : (needsAt steps i).any (fun k => !done k) = true
      · obtain ⟨k, hk, hkd⟩ := List.any_eq_true.1 hc
        have h1 := hr i k hk
        have h2 := needsAt_lt hk
        exact ih k (by omega) h2 (by simpa using hkd)
      · intro he
        have : i ∈ readyOf steps done := by
          unfold readyOf
          rw [List.mem_filter]
          refine ⟨List.mem_range.2 hi, ?_⟩
          unfold canCome
          rw [hd]
          have : (needsAt steps i).any (fun k => !done k) = false := by simpa using hc
          rw [this]; rfl
        rw [he] at this; cases this
  exact key (rk i) i (Nat.le_refl _) hi hd
theorem ready_mem {steps : List Stp} {done : Nat → Bool} {i : Nat} (h : i ∈ readyOf steps done) : i < steps.length ∧ done i = false ∧ ∀ k, k ∈ needsAt steps i → done k = true := by
  unfold readyOf at h
  rw [List.mem_filter] at h
  obtain ⟨h1, h2⟩ := h
  unfold canCome at h2
  rw [Bool.and_eq_true, Bool.not_eq_true', Bool.not_eq_true'] at h2
  refine ⟨List.mem_range.1 h1, h2.1, fun k hk => ?_⟩
  have := List.any_eq_false.1 h2.2 k hk
  simpa using this
theorem choose_mem {l : List Nat} (next : List Int) (u : Nat) (h : l ≠ []) : chooseL l next u ∈ l := by
  unfold chooseL
  have hl : 0 < l.length := List.length_pos_iff.2 h
  have hp : pickIdx (next.getD u 0) l.length < l.length := by
    unfold pickIdx
    have h1 := Int.emod_lt_of_pos (next.getD u 0) (show (0 : Int) < (l.length : Int) by omega)
    have h2 := Int.emod_nonneg (next.getD u 0) (show (l.length : Int) ≠ 0 by omega)
    omega
  rw [List.getD_eq_getElem?_getD, List.getElem?_eq_getElem hp]
  exact List.getElem_mem hp
/-- How many of the first n are left. -/
def leftN (done : Nat → Bool) : Nat → Nat
  | 0 => 0
  | n + 1 => leftN done n + if done n then 0 else 1
theorem leftN_out (done : Nat → Bool) {i : Nat} : ∀ n, n ≤ i → leftN (also done i) n = leftN done n
  | 0, _ => rfl
  | n + 1, h => by rw [leftN, leftN, leftN_out done n (by omega)]; simp [also, show n ≠ i by omega]
theorem leftN_also {done : Nat → Bool} {i : Nat} (h : done i = false) : ∀ n, i < n → leftN (also done i) n + 1 = leftN done n
  | 0, hn => absurd hn (by omega)
  | n + 1, hn => by
    rw [leftN, leftN]
    by_cases e : i = n
    · subst e; rw [leftN_out done i (Nat.le_refl _)]; simp [also, h]
    · have := leftN_also h n (by omega)
      have e2 : also done i n = done n := by simp [also, show n ≠ i by omega]
      rw [e2]; omega
theorem leftN_le (done : Nat → Bool) : ∀ n, leftN done n ≤ n
  | 0 => Nat.le_refl _
  | n + 1 => by have := leftN_le done n; rw [leftN]; split <;> omega
theorem leftN_pos {done : Nat → Bool} {i n : Nat} (hi : i < n) (h : done i = false) : 0 < leftN done n := by
  have := leftN_also h n hi
  omega
end Go.Proofs.YtacgopankhpnbaaGreatDoor
/- What is refused of a right recipe with one more step. No program in sight. -/
namespace Go.Proofs.YtacgopankhpnbaaGreatDoor

/-- The parts of a right recipe. -/
structure RightR (r : Rcp) : Prop where
  files : rightFiles r.inputs = true
  few : r.steps.length ≤ 60
  steps : ∀ s, s ∈ r.steps → stepRight s = true
  once : twice r = false
  room : r.inputs.length + r.steps.length ≤ 60
  out : known r r.output = true
  srcs : ∀ s, s ∈ r.steps → ∀ x, x ∈ s.src → known r x = true
  circ : circle r.steps = false
theorem inspectE_ok {r : Rcp} (h : inspectE r = 0) : RightR r := by
  unfold inspectE at h
  split at h
  · cases h
  rename_i h1
  split at h
  · cases h
  rename_i h2
  split at h
  · cases h
  rename_i h3
  split at h
  · cases h
  rename_i h4
  split at h
  · cases h
  rename_i h5
  have e1 : rightFiles r.inputs = true ∧ ¬ 60 < r.steps.length ∧ (r.steps.any fun s => !stepRight s) = false := by
    rw [Bool.not_eq_true, Bool.or_eq_false_iff, Bool.or_eq_false_iff] at h1
    exact ⟨by simpa using h1.1.1, by simpa using h1.1.2, h1.2⟩
  have e4 : known r r.output = true ∧ (r.steps.any fun s => s.src.any fun x => !known r x) = false := by
    rw [Bool.not_eq_true, Bool.or_eq_false_iff] at h4
    exact ⟨by simpa using h4.1, h4.2⟩
  refine ⟨e1.1, by omega, fun s hs => ?_, by simpa using h2, by omega, e4.1, fun s hs x hx => ?_, by simpa using h5⟩
  · have := List.any_eq_false.1 e1.2.2 s hs
    simpa using this
  · have := List.any_eq_false.1 e4.2 s hs
    rw [Bool.not_eq_true, List.any_eq_false] at this
    have := this x hx
    simpa using this
theorem inspectE_of {r : Rcp} (h : RightR r) : inspectE r = 0 := by
  have h3 : (r.steps.any fun s => !stepRight s) = false := by rw [List.any_eq_false]; intro s hs; simp [h.steps s hs]
  have h4 : (r.steps.any fun s => s.src.any fun x => !known r x) = false := by
    rw [List.any_eq_false]
    intro s hs
    simp only [List.any_eq_true, not_exists, not_and]
    intro x hx
    simp [h.srcs s hs x hx]
  have h2 := h.few
  have h5 := h.room
  unfold inspectE
  rw [h.files, h3, decide_eq_false (by omega), h.once, h.out, h4, h.circ]
  simp; omega

/-- A recipe with one more step. -/
def more (r : Rcp) (t : Stp) : Rcp := { r with steps := r.steps ++ [t] }
theorem writerOf_more (l : List Stp) (t : Stp) (x : ByteArray) : writerOf (l ++ [t]) x = match writerOf l x with
    | some i => some i
    | none => if t.out = x then some l.length else none := by
  unfold writerOf
  rw [List.findIdx?_append]
  cases h : l.findIdx? (fun s => decide (s.out = x)) with
  | some i => rfl
  | none =>
    by_cases e : t.out = x
    · simp [e, List.findIdx?_cons]
    · simp [e, List.findIdx?_cons]
theorem known_more (r : Rcp) (t : Stp) (x : ByteArray) : known (more r t) x = (known r x || decide (t.out = x)) := by
  unfold known more
  rw [writerOf_more]
  cases writerOf r.steps x with
  | some i => simp
  | none =>
    by_cases e : t.out = x
    · simp [e]
    · simp [e]
theorem twiceFrom_iff (r : Rcp) : ∀ (n k : Nat), twiceFrom r k n = true ↔ ∃ j s, k ≤ j ∧ j < k + n ∧ r.steps[j]? = some s ∧ knownTo r j s.out = true
  | 0, k => by
    constructor
    · intro h; cases h
    · rintro ⟨j, s, h1, h2, -⟩; omega
  | n + 1, k => by
    rw [twiceFrom, Bool.or_eq_true, twiceFrom_iff r n (k + 1)]
    constructor
    · rintro (h | ⟨j, s, h1, h2, h3, h4⟩)
      · cases hs : r.steps[k]? with
        | none => rw [hs] at h; cases h
        | some s => rw [hs] at h; exact ⟨k, s, Nat.le_refl _, by omega, hs, h⟩
      · exact ⟨j, s, by omega, by omega, h3, h4⟩
    · rintro ⟨j, s, h1, h2, h3, h4⟩
      by_cases e : j = k
      · subst e; rw [h3]; exact .inl h4
      · exact .inr ⟨j, s, by omega, by omega, h3, h4⟩
theorem twice_iff (r : Rcp) : twice r = true ↔ ∃ j s, r.steps[j]? = some s ∧ knownTo r j s.out = true := by
  unfold twice
  rw [twiceFrom_iff]
  constructor
  · rintro ⟨j, s, -, -, h3, h4⟩; exact ⟨j, s, h3, h4⟩
  · rintro ⟨j, s, h3, h4⟩
    exact ⟨j, s, by omega, by have := (List.getElem?_eq_some_iff.1 h3).1; omega, h3, h4⟩
theorem twice_more (r : Rcp) (t : Stp) (h : twice r = false) : twice (more r t) = known r t.out := by
  rw [Bool.eq_iff_iff, twice_iff]
  constructor
  · rintro ⟨j, s, h3, h4⟩
    have hj := (List.getElem?_eq_some_iff.1 h3).1
    have hj2 : j < r.steps.length + 1 := by simpa [more] using hj
    by_cases e : j = r.steps.length
    · subst e
      have : s = t := by simpa [more] using h3.symm
      subst this
      unfold knownTo more at h4
      simpa [known] using h4
    · exfalso
      have : twice r = true := (twice_iff r).2 ⟨j, s, by
        have : (r.steps ++ [t])[j]? = some s := h3
        rwa [List.getElem?_append_left (by omega)] at this, by
        unfold knownTo more at h4
        unfold knownTo
        rwa [List.take_append_of_le_length (by omega)] at h4⟩
      rw [h] at this; cases this
  · intro hk
    refine ⟨r.steps.length, t, by simp [more], ?_⟩
    unfold knownTo more
    simpa [known] using hk
/-- A step that copies. -/
abbrev copyStep (x y : ByteArray) : Stp := ⟨0, [x], y, false⟩
theorem copyStep_right {x y : ByteArray} (hx : isName x = true) (hy : isName y = true) : stepRight (copyStep x y) = true := by
  simp [stepRight, hx, hy]
section
variable {r : Rcp} (h : RightR r) (h59 : r.inputs.length + r.steps.length < 60)
include h h59
theorem more_head {t : Stp} (ht : stepRight t = true) : (!rightFiles (more r t).inputs || decide (60 < (more r t).steps.length) || (more r t).steps.any (fun s => !stepRight s)) = false := by
  have h3 : ((more r t).steps.any fun s => !stepRight s) = false := by
    rw [List.any_eq_false]
    intro s hs
    have hs' : s ∈ r.steps ++ [t] := hs
    rcases List.mem_append.1 hs' with hs' | hs'
    · simp [h.steps s hs']
    · simp at hs'; subst hs'; simp [ht]
  have h4 : (more r t).steps.length = r.steps.length + 1 := by simp [more]
  have h5 : rightFiles (more r t).inputs = true := h.files
  rw [h3, h5, decide_eq_false (by omega)]; rfl
theorem refuse_twice {s : Stp} (hs : s ∈ r.steps) : inspectE (more r (copyStep s.out s.out)) = 5 := by
  have hn : isName s.out = true := by
    have := h.steps s hs
    unfold stepRight at this
    split at this
    · cases this
    · rename_i hh
      simp only [Bool.or_eq_true, not_or, Bool.not_eq_true', Bool.not_eq_false] at hh
      exact hh.1
  have hk : known r s.out = true := by
    unfold known
    cases hw : writerOf r.steps s.out with
    | some i => rfl
    | none =>
      unfold writerOf at hw
      rw [List.findIdx?_eq_none_iff] at hw
      have := hw s hs
      simp at this
  unfold inspectE
  rw [more_head h h59 (copyStep_right hn hn), twice_more r _ h.once, hk]; simp
theorem refuse_none {x y : ByteArray} (hx : isName x = true) (hy : isName y = true) (hkx : known r x = false) (hky : known r y = false) (hne : y ≠ x) : inspectE (more r (copyStep x y)) = 4 := by
  have hlen : (more r (copyStep x y)).inputs.length + (more r (copyStep x y)).steps.length = r.inputs.length + r.steps.length + 1 := by simp [more]; omega
  have hu : ((more r (copyStep x y)).steps.any fun s => s.src.any fun z => !known (more r (copyStep x y)) z) = true := by
    rw [List.any_eq_true]
    refine ⟨copyStep x y, by simp [more], ?_⟩
    rw [List.any_eq_true]
    exact ⟨x, by simp, by rw [known_more, hkx]; simp [hne]⟩
  unfold inspectE
  rw [more_head h h59 (copyStep_right hx hy), twice_more r _ h.once, hky, hu, Bool.or_true, hlen]
  simp; omega
theorem refuse_round {x : ByteArray} (hx : isName x = true) (hkx : known r x = false) : inspectE (more r (copyStep x x)) = 15 := by
  have hlen : (more r (copyStep x x)).inputs.length + (more r (copyStep x x)).steps.length = r.inputs.length + r.steps.length + 1 := by simp [more]; omega
  have hu : ((more r (copyStep x x)).steps.any fun s => s.src.any fun z => !known (more r (copyStep x x)) z) = false := by
    rw [List.any_eq_false]
    intro s hs
    have hs' : s ∈ r.steps ++ [copyStep x x] := hs
    simp only [List.any_eq_true, not_exists, not_and]
    intro z hz
    rw [known_more]
    rcases List.mem_append.1 hs' with hs' | hs'
    · simp [h.srcs s hs' z hz]
    · simp at hs'; subst hs'
      simp at hz; subst hz
      simp
  have ho : known (more r (copyStep x x)) (more r (copyStep x x)).output = true := by
    have : (more r (copyStep x x)).output = r.output := rfl
    rw [known_more, this, h.out]; rfl
  have hw : writerOf r.steps x = none := by
    unfold known at hkx
    rw [Bool.or_eq_false_iff] at hkx
    simpa using hkx.1
  have hc : circle (more r (copyStep x x)).steps = true := by
    cases hc : circle (more r (copyStep x x)).steps with
    | true => rfl
    | false =>
      exfalso
      obtain ⟨rk, hr⟩ := circle_rank hc
      have := hr r.steps.length r.steps.length (by
        have e : (more r (copyStep x x)).steps[r.steps.length]? = some (copyStep x x) := by simp [more]
        unfold needsAt
        rw [e]
        unfold needsOf
        rw [List.mem_filterMap]
        refine ⟨x, by simp, ?_⟩
        show writerOf (r.steps ++ [copyStep x x]) x = _
        rw [writerOf_more, hw]; simp)
      omega
  unfold inspectE
  rw [more_head h h59 (copyStep_right hx hx), twice_more r _ h.once, hkx, hu, ho, hlen, hc]
  simp; omega
omit h59 in
theorem refuse_output {x : ByteArray} (hkx : known r x = false) : inspectE { r with output := x } = 4 := by
  have h3 : (r.steps.any fun s => !stepRight s) = false := by rw [List.any_eq_false]; intro s hs; simp [h.steps s hs]
  have h2 := h.few
  have h5 := h.room
  have hk : known { r with output := x } x = false := hkx
  have ht : twice { r with output := x } = false := by
    rw [Bool.eq_false_iff]
    intro ht
    rw [twice_iff] at ht
    have := h.once
    rw [Bool.eq_false_iff] at this
    exact this ((twice_iff r).2 ht)
  unfold inspectE
  rw [ht]
  show (if (!rightFiles r.inputs || decide (60 < r.steps.length) || r.steps.any fun s => !stepRight s) = true then (1 : Int) else _) = 4
  rw [h.files, h3, decide_eq_false (by omega), hk]
  simp; omega
end
end Go.Proofs.YtacgopankhpnbaaGreatDoor
/- Plain facts on the sort of strings. No program in sight. -/
namespace Go.Proofs.YtacgopankhpnbaaGreatDoor

abbrev leB (x y : List UInt8) : Bool := decide (x ≤ y)
theorem leB_trans (a b c : List UInt8) (h : leB a b = true) (k : leB b c = true) : leB a c = true := by
  simp only [leB, decide_eq_true_eq] at *; exact List.le_trans h k
theorem leB_total (a b : List UInt8) : (leB a b || leB b a) = true := by
  simp only [leB, Bool.or_eq_true, decide_eq_true_eq]; exact List.le_total a b
theorem leB_anti {a b : List UInt8} (h : leB a b = true) (k : leB b a = true) : a = b := by
  simp only [leB, decide_eq_true_eq] at *; exact List.le_antisymm h k

abbrev msort (l : List (List UInt8)) : List (List UInt8) := l.mergeSort fun x y => decide (x ≤ y)
theorem msort_sorted (l : List (List UInt8)) : (msort l).Pairwise fun a b => leB a b = true := List.pairwise_mergeSort leB_trans leB_total l
theorem msort_perm (l : List (List UInt8)) : (msort l).Perm l := List.mergeSort_perm l _
theorem sorted_unique {l l' : List (List UInt8)} (h : l.Pairwise fun a b => leB a b = true) (h' : l'.Pairwise fun a b => leB a b = true) (p : l.Perm l') : l = l' :=
  List.Perm.eq_of_pairwise (le := fun a b => leB a b = true) (fun _ _ _ _ h k => leB_anti h k) h h' p
theorem msort_of_perm {l l' : List (List UInt8)} (p : l.Perm l') : msort l = msort l' :=
  sorted_unique (msort_sorted l) (msort_sorted l') (((msort_perm l).trans p).trans (msort_perm l').symm)
theorem msort_of_sorted {l : List (List UInt8)} (h : l.Pairwise fun a b => leB a b = true) : msort l = l := List.mergeSort_of_pairwise h

/-- Insertion, for reckoning. -/
def insertS (x : List UInt8) : List (List UInt8) → List (List UInt8)
  | [] => [x]
  | y :: l => if leB x y then x :: y :: l else y :: insertS x l
def isort : List (List UInt8) → List (List UInt8)
  | [] => []
  | x :: l => insertS x (isort l)
theorem insertS_perm (x : List UInt8) (l : List (List UInt8)) : (insertS x l).Perm (x :: l) := by
  induction l with
  | nil => exact List.Perm.refl _
  | cons y l ih =>
    rw [insertS]
    split
    · exact List.Perm.refl _
    · exact ((ih.cons y).trans (List.Perm.swap x y l))
theorem insertS_sorted (x : List UInt8) (l : List (List UInt8)) (h : l.Pairwise fun a b => leB a b = true) : (insertS x l).Pairwise fun a b => leB a b = true := by
  induction l with
  | nil => simp [insertS]
  | cons y l ih =>
    rw [insertS]
    rw [List.pairwise_cons] at h
    split
    · rename_i hxy
      rw [List.pairwise_cons]
      refine ⟨fun z hz => ?_, List.pairwise_cons.2 h⟩
      rcases List.mem_cons.1 hz with rfl | hz
      · exact hxy
      · exact leB_trans _ _ _ hxy (h.1 z hz)
    · rename_i hxy
      have hyx : leB y x = true := by
        have := leB_total x y
        simp only [Bool.or_eq_true] at this
        rcases this with h' | h'
        · exact absurd h' hxy
        · exact h'
      rw [List.pairwise_cons]
      refine ⟨fun z hz => ?_, ih h.2⟩
      rcases List.mem_cons.1 ((insertS_perm x l).mem_iff.1 hz) with rfl | hz
      · exact hyx
      · exact h.1 z hz
theorem isort_perm (l : List (List UInt8)) : (isort l).Perm l := by
  induction l with
  | nil => exact List.Perm.refl _
  | cons x l ih => exact (insertS_perm x _).trans (ih.cons x)
theorem isort_sorted (l : List (List UInt8)) : (isort l).Pairwise fun a b => leB a b = true := by
  induction l with
  | nil => simp [isort]
  | cons x l ih => exact insertS_sorted x _ ih
theorem msort_eq (l : List (List UInt8)) : msort l = isort l := sorted_unique (msort_sorted l) (isort_sorted l) ((msort_perm l).trans (isort_perm l).symm)
theorem sortB_eq (l : List ByteArray) : sortB l = (isort (l.map (·.data.toList))).map fun x => ⟨x.toArray⟩ := by
  unfold sortB; rw [show (l.map (·.data.toList)).mergeSort (fun x y => decide (x ≤ y)) = isort (l.map (·.data.toList)) from msort_eq _]
example : sortB [⟨#[50]⟩, ⟨#[49]⟩] = [⟨#[49]⟩, ⟨#[50]⟩] := by rw [sortB_eq]; decide +kernel
end Go.Proofs.YtacgopankhpnbaaGreatDoor
/- The examples of ladinglaw32.small, reckoned. No program in sight. -/
namespace Go.Proofs.YtacgopankhpnbaaGreatDoor

abbrev C0 : ByteArray → Int × ByteArray := fun _ => (0, ByteArray.empty)
/-- ladinglaw32.files -/
def lawFiles : List Fil := [⟨⟨#[97]⟩, ⟨#[50, 10, 49, 10]⟩⟩, ⟨⟨#[98]⟩, ⟨#[120]⟩⟩]

theorem ex1 : doStep C0 ⟨3, [⟨#[97]⟩], ⟨#[99]⟩, false⟩ lawFiles [] [] 0 0 = .ok (⟨#[49, 10, 50, 10]⟩, [⟨#[50, 10, 49, 10]⟩], 0, 0) := by
  simp only [doStep, writeStep, sortedLines, sortB_eq]; kernel_rfl
theorem ex2 : doStep C0 ⟨4, [⟨#[98]⟩], ⟨#[99]⟩, false⟩ lawFiles [70, 80] [] 1 0 = .ok (⟨#[120, 56, 48, 59, 10]⟩, [⟨#[120]⟩], 2, 0) := by
  simp only [doStep, writeStep, sortedLines, sortB_eq]; kernel_rfl
theorem ex3 : doStep C0 ⟨2, [⟨#[98]⟩, ⟨#[97]⟩], ⟨#[99]⟩, false⟩ lawFiles [] [1] 0 0 = .ok (⟨#[98, 10, 97, 10]⟩, [], 0, 2) := by
  simp only [doStep, writeStep, sortedLines, sortB_eq]; kernel_rfl
theorem ex4 : doStep C0 ⟨2, [⟨#[98]⟩, ⟨#[97]⟩], ⟨#[99]⟩, true⟩ lawFiles [] [1] 0 0 = .ok (⟨#[97, 10, 98, 10]⟩, [], 0, 0) := by
  simp only [doStep, writeStep, sortedLines, sortB_eq]; kernel_rfl
theorem ex5 : doStep C0 ⟨1, [⟨#[98]⟩, ⟨#[97]⟩, ⟨#[98]⟩], ⟨#[98]⟩, false⟩ lawFiles [] [] 0 0 = .error 5 := by
  simp only [doStep, writeStep, sortedLines, sortB_eq]; kernel_rfl
theorem ex6 : doStep C0 ⟨0, [⟨#[100]⟩], ⟨#[99]⟩, false⟩ lawFiles [] [] 0 0 = .error 4 := by
  simp only [doStep, writeStep, sortedLines, sortB_eq]; kernel_rfl
theorem ex7 : findFile lawFiles ⟨#[98]⟩ = some ⟨#[120]⟩ := by kernel_rfl
theorem ex8 : rightFiles lawFiles = true := by kernel_rfl
theorem ex9 : stepRight ⟨0, [⟨#[98]⟩], ⟨#[97]⟩, false⟩ = true := by kernel_rfl
theorem ex10 : stepRight ⟨0, [], ⟨#[]⟩, false⟩ = false := by kernel_rfl
theorem ex11 : stepPure ⟨1, [], ⟨#[97]⟩, false⟩ = true := by kernel_rfl
theorem ex12 : stepPure ⟨2, [], ⟨#[97]⟩, false⟩ = false := by kernel_rfl
end Go.Proofs.YtacgopankhpnbaaGreatDoor
/- The example of ladinglaw33.small, reckoned. No program in sight. -/
namespace Go.Proofs.YtacgopankhpnbaaGreatDoor

def exInputs : List Fil := [⟨⟨#[97]⟩, ⟨#[120]⟩⟩, ⟨⟨#[98]⟩, ⟨#[121]⟩⟩]
def exSteps : List Stp := [⟨1, [⟨#[98]⟩, ⟨#[97]⟩], ⟨#[99]⟩, false⟩, ⟨4, [⟨#[99]⟩], ⟨#[100]⟩, false⟩, ⟨0, [⟨#[97]⟩], ⟨#[101]⟩, false⟩]
/-- ladinglaw33.example -/
def exR (output : ByteArray) : Rcp := ⟨exInputs, exSteps, output⟩
theorem exRun : runL C0 (exR ⟨#[100]⟩) [7] [] [1] = .ok ([⟨2, [⟨#[120]⟩], ⟨#[120]⟩⟩, ⟨0, [⟨#[121]⟩, ⟨#[120]⟩], ⟨#[121, 120]⟩⟩, ⟨1, [⟨#[121, 120]⟩], ⟨#[121, 120, 55, 59, 10]⟩⟩], ⟨#[121, 120, 55, 59, 10]⟩) := by kernel_rfl
theorem exOrder : orderL (exR ⟨#[100]⟩) = [0, 1, 2] := by kernel_rfl
theorem exSliceD : sliceL (exR ⟨#[100]⟩) = [0, 1] := by kernel_rfl
theorem exSliceC : sliceL (exR ⟨#[99]⟩) = [0] := by kernel_rfl
theorem exPureD : pureL (exR ⟨#[100]⟩) = false := by kernel_rfl
theorem exPureC : pureL (exR ⟨#[99]⟩) = true := by kernel_rfl
end Go.Proofs.YtacgopankhpnbaaGreatDoor
