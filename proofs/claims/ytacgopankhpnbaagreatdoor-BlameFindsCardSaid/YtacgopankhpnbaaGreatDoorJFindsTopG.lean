/- Texts of this seat, joined: StepSpec, DoSpec, BuildSpec, VisitLaw, RunSpec, RankLaw, RefuseLaw, BlameSpec, ReadLaw, BlameLaw, SortLaw, SmallSpec, BuildEx. -/
import Derived.Lib.ItoaNum
import Derived.Lib.Split
import Derived.Lib.Strings
import Derived.Lib.Join
import Derived.KernelRfl
/- Package step in plain words: what its functions compute. No program in sight. -/
namespace Go.Proofs.YtacgopankhpnbaaGreatDoor

def nameByte (c : UInt8) : Bool := decide (33 ≤ (c.toNat : Int)) && decide ((c.toNat : Int) ≤ 126)
/-- step.isName -/
def isName (s : ByteArray) : Bool := s.data.toList.all nameByte && !s.toList.isEmpty && decide (s.size ≤ 20)

structure Stp where
  kind : Int
  src : List ByteArray
  out : ByteArray
  sorted : Bool
structure Fil where
  name : ByteArray
  text : ByteArray

/-- step.Right -/
def stepRight (s : Stp) : Bool :=
  if (!isName s.out || s.src.any fun x => !isName x) then false
  else if s.kind = 2 then decide (s.src.length ≤ 60)
  else if s.kind = 1 then decide (s.src.length ≤ 60) && !s.sorted
  else if s.kind = 0 ∨ s.kind = 3 ∨ s.kind = 4 ∨ s.kind = 5 then decide (s.src.length = 1) && !s.sorted
  else false

/-- step.Pure -/
def stepPure (s : Stp) : Bool := stepRight s && decide (s.kind ≠ 4) && (decide (s.kind ≠ 2) || s.sorted)

/-- step.RightFiles: the loop, with the names that are known. -/
def rightFrom : List Fil → List ByteArray → Bool
  | [], _ => true
  | f :: r, known => if (known.any fun x => decide (x = f.name)) || !isName f.name || decide (65536 < f.text.size) then false else rightFrom r (f.name :: known)
def rightFiles (l : List Fil) : Bool := rightFrom l [] && decide (l.length ≤ 60)

/-- step.Find -/
def findFile (l : List Fil) (name : ByteArray) : Option ByteArray := (l.find? fun f => decide (f.name = name)).map (·.text)

/-- What step.rows writes: each string, and a byte 10. -/
def rowsL (l : List ByteArray) : List UInt8 := l.flatMap fun s => s.data.toList ++ [10]
def rowsB (l : List ByteArray) : ByteArray := ⟨(rowsL l).toArray⟩

/-- slices.Sort at strings. -/
def sortB (l : List ByteArray) : List ByteArray := ((l.map (·.data.toList)).mergeSort fun x y => decide (x ≤ y)).map fun x => ⟨x.toArray⟩

def nl : ByteArray := ⟨#[10]⟩
/-- The lines of a text that is not empty. -/
def linesOf (text : ByteArray) : List ByteArray :=
  Lib.splitB nl 0 (Lib.countB ⟨(Lib.trimSuffix text.data.toList [10]).toArray⟩ nl) ⟨(Lib.trimSuffix text.data.toList [10]).toArray⟩
/-- step.sorted -/
def sortedLines (text : ByteArray) : List ByteArray := if text.toList.isEmpty then [] else sortB (linesOf text)

/-- Which one of n a number names. -/
def pickIdx (x : Int) (n : Nat) : Nat := (x % (n : Int)).toNat
/-- The names that are left, in the order of the world; u: how many numbers have been used. -/
def pickAll (order : List Int) : Nat → Nat → List ByteArray → List ByteArray
  | 0, _, _ => []
  | f + 1, u, left => match left[pickIdx (order.getD u 0) left.length]? with
    | none => []
    | some x => x :: pickAll order f (u + 1) (left.eraseIdx (pickIdx (order.getD u 0) left.length))

/-- strings.Join with the empty string. -/
def joinB (l : List ByteArray) : ByteArray := ⟨(Lib.join (l.map (·.data.toList)) []).toArray⟩

/-- wire.Int -/
def wireInt (n : Int) : ByteArray := ⟨(Lib.itoa n ++ [59]).toArray⟩
end Go.Proofs.YtacgopankhpnbaaGreatDoor
/- Package step in plain words: write and Do. No program in sight. -/
namespace Go.Proofs.YtacgopankhpnbaaGreatDoor

/-- What a StStamp writes. -/
def stampB (t : ByteArray) (n : Int) : ByteArray := (t ++ wireInt n) ++ ⟨#[10]⟩

/-- step.write, kinds but StCompile: the text, what was seen, how much has been used. -/
def writeStep (s : Stp) (saw : List ByteArray) (clock order : List Int) (u0 u1 : Int) : ByteArray × List ByteArray × Int × Int :=
  if s.kind = 0 ∨ s.kind = 1 then (joinB saw, saw, u0, u1)
  else if s.kind = 3 then (rowsB (sortedLines (saw.headD ByteArray.empty)), saw, u0, u1)
  else if s.kind = 4 then (stampB (saw.headD ByteArray.empty) (clock.getD u0.toNat 0), saw, u0 + 1, u1)
  else if s.sorted then (rowsB (sortB s.src), [], u0, u1)
  else (rowsB (pickAll order s.src.length u1.toNat (sortB s.src)), [], u0, u1 + s.src.length)

/-- What step.Do returns: an error, or the text that was written, what was seen, and what has been used. -/
abbrev DoRes := Except Int (ByteArray × List ByteArray × Int × Int)

/-- What a step sees. -/
def sawOf (files : List Fil) : List ByteArray → Option (List ByteArray)
  | [] => some []
  | x :: r => match findFile files x, sawOf files r with
    | some t, some l => some (t :: l)
    | _, _ => none

/-- step.Do; C: what a StCompile comes to (an error, a text). -/
def doStep (C : ByteArray → Int × ByteArray) (s : Stp) (files : List Fil) (clock order : List Int) (u0 u1 : Int) : DoRes :=
  if !stepRight s || !rightFiles files || decide (min u0 u1 < 0) then .error 1
  else if (findFile files s.out).isSome then .error 5
  else if 60 ≤ files.length then .error 6
  else match sawOf files s.src with
    | none => .error 4
    | some saw =>
      if s.kind = 5 then
        if (C (saw.headD ByteArray.empty)).1 ≠ 0 then .error (C (saw.headD ByteArray.empty)).1
        else if 65536 < (C (saw.headD ByteArray.empty)).2.size then .error 6
        else .ok ((C (saw.headD ByteArray.empty)).2, saw, u0, u1)
      else if 65536 < (writeStep s saw clock order u0 u1).1.size then .error 6
      else .ok (writeStep s saw clock order u0 u1)

/-- The files behind a step. -/
def doFiles (s : Stp) (files : List Fil) (text : ByteArray) : List Fil := files ++ [⟨s.out, text⟩]
end Go.Proofs.YtacgopankhpnbaaGreatDoor
/- Package build in plain words: recipes, who writes a file, what a step needs, what is refused. No program in sight. -/
namespace Go.Proofs.YtacgopankhpnbaaGreatDoor

structure Rcp where
  inputs : List Fil
  steps : List Stp
  output : ByteArray

/-- The step that writes a file. -/
def writerOf (steps : List Stp) (x : ByteArray) : Option Nat := steps.findIdx? fun s => decide (s.out = x)
/-- Is it an input? -/
def isInput (inputs : List Fil) (x : ByteArray) : Bool := inputs.any fun f => decide (f.name = x)
/-- graph.known, while k steps have been entered. -/
def knownTo (r : Rcp) (k : Nat) (x : ByteArray) : Bool := (writerOf (r.steps.take k) x).isSome || isInput r.inputs x
def known (r : Rcp) (x : ByteArray) : Bool := (writerOf r.steps x).isSome || isInput r.inputs x
/-- graph.needs, of a step. -/
def needsOf (steps : List Stp) (s : Stp) : List Nat := s.src.filterMap (writerOf steps)
def needsAt (steps : List Stp) (i : Nat) : List Nat := match steps[i]? with
  | some s => needsOf steps s
  | none => []
/-- From step k on, somebody writes what is there already. -/
def twiceFrom (r : Rcp) : Nat → Nat → Bool
  | _, 0 => false
  | k, n + 1 => (match r.steps[k]? with
    | some s => knownTo r k s.out
    | none => false) || twiceFrom r (k + 1) n
def twice (r : Rcp) : Bool := twiceFrom r 0 r.steps.length

/-- The marks of a walk over the steps: 0 new, 1 open, 2 shut. -/
abbrev Marks := Nat → Int
def mark (st : Marks) (i : Nat) (x : Int) : Marks := fun j => if j = i then x else st j
/-- slices.ContainsFunc with a function that keeps marks. -/
def anyV {σ : Type} (g : σ → Nat → σ × Bool) : σ → List Nat → σ × Bool
  | st, [] => (st, false)
  | st, k :: r => if (g st k).2 then ((g st k).1, true) else anyV g (g st k).1 r
/-- circle's visit, so many levels deep. -/
def visit (needs : Nat → List Nat) : Nat → Marks → Nat → Marks × Bool
  | 0, st, _ => (st, true)
  | f + 1, st, i =>
    if st i ≠ 0 then (st, decide (st i = 1))
    else if (anyV (visit needs f) (mark st i 1) (needs i)).2 then ((anyV (visit needs f) (mark st i 1) (needs i)).1, true)
    else (mark (anyV (visit needs f) (mark st i 1) (needs i)).1 i 2, false)
/-- graph.circle: the loop, from step k on, n steps. -/
def circleFrom (needs : Nat → List Nat) (f : Nat) : Nat → Nat → Marks → Bool
  | _, 0, _ => false
  | k, n + 1, st => (visit needs f st k).2 || circleFrom needs f (k + 1) n (visit needs f st k).1
def circle (steps : List Stp) : Bool := circleFrom (needsAt steps) (steps.length + 1) 0 steps.length (fun _ => 0)

/-- build.inspect: the error. -/
def inspectE (r : Rcp) : Int :=
  if !rightFiles r.inputs || decide (60 < r.steps.length) || r.steps.any (fun s => !stepRight s) then 1
  else if twice r then 5
  else if 60 < r.inputs.length + r.steps.length then 6
  else if !known r r.output || r.steps.any (fun s => s.src.any fun x => !known r x) then 4
  else if circle r.steps then 15
  else 0
/-- graph.ready: which steps can come, when some are done. -/
def canCome (steps : List Stp) (done : Nat → Bool) (i : Nat) : Bool := !done i && !(needsAt steps i).any fun k => !done k
def readyOf (steps : List Stp) (done : Nat → Bool) : List Nat := (List.range steps.length).filter (canCome steps done)
end Go.Proofs.YtacgopankhpnbaaGreatDoor
/- circle's walk over the marks: what it keeps, how deep it goes. No program in sight. -/
namespace Go.Proofs.YtacgopankhpnbaaGreatDoor

theorem mark_same (st : Marks) (i : Nat) (x : Int) : mark st i x i = x := by simp [mark]
theorem mark_other (st : Marks) {i j : Nat} (x : Int) (h : j ≠ i) : mark st i x j = st j := by simp [mark, h]

theorem anyV_keeps {g : Marks → Nat → Marks × Bool} (hg : ∀ st k j, st j ≠ 0 → (g st k).1 j = st j) : ∀ (l : List Nat) (st : Marks) (j : Nat), st j ≠ 0 → (anyV g st l).1 j = st j
  | [], _, _, _ => rfl
  | k :: r, st, j, h => by
    rw [anyV]
    have h1 := hg st k j h
    split
    · exact h1
    · rw [anyV_keeps hg r _ j (by rw [h1]; exact h), h1]
theorem visit_keeps (needs : Nat → List Nat) : ∀ (f : Nat) (st : Marks) (i j : Nat), st j ≠ 0 → (visit needs f st i).1 j = st j
  | 0, _, _, _, _ => rfl
  | f + 1, st, i, j, h => by
    rw [visit]
    split
    · rfl
    · rename_i hi
      have hij : j ≠ i := fun e => hi (e ▸ h)
      have h1 : mark st i 1 j = st j := mark_other st 1 hij
      have h2 := anyV_keeps (visit_keeps needs f) (needs i) (mark st i 1) j (by rw [h1]; exact h)
      split
      · rw [h2, h1]
      · show mark _ i 2 j = st j
        rw [mark_other _ _ hij, h2, h1]

/-- How many of the first n are new. -/
def zeros (st : Marks) : Nat → Nat
  | 0 => 0
  | n + 1 => zeros st n + if st n = 0 then 1 else 0
/-- How many stores there may be yet. -/
def pot (st : Marks) : Nat → Nat
  | 0 => 0
  | n + 1 => pot st n + if st n = 0 then 2 else if st n = 1 then 1 else 0
theorem zeros_le {st st' : Marks} (h : ∀ j, st j ≠ 0 → st' j ≠ 0) : ∀ n, zeros st' n ≤ zeros st n
  | 0 => Nat.le_refl _
  | n + 1 => by
    have := zeros_le h n
    rw [zeros, zeros]
    by_cases e : st n = 0
    · rw [if_pos e]; split <;> omega
    · rw [if_neg e, if_neg (h n e)]; omega
theorem zeros_out (st : Marks) {i : Nat} (x : Int) : ∀ n, n ≤ i → zeros (mark st i x) n = zeros st n
  | 0, _ => rfl
  | n + 1, h => by rw [zeros, zeros, zeros_out st x n (by omega), mark_other st x (by omega)]
theorem zeros_mark {st : Marks} {i : Nat} (h0 : st i = 0) : ∀ n, i < n → zeros (mark st i 1) n + 1 = zeros st n
  | 0, h => absurd h (by omega)
  | n + 1, h => by
    rw [zeros, zeros]
    by_cases e : i = n
    · subst e
      rw [zeros_out st 1 i (Nat.le_refl _), mark_same, h0]; simp
    · have := zeros_mark h0 n (by omega)
      rw [mark_other st 1 (by omega)]
      split <;> omega
theorem pot_out (st : Marks) {i : Nat} (x : Int) : ∀ n, n ≤ i → pot (mark st i x) n = pot st n
  | 0, _ => rfl
  | n + 1, h => by rw [pot, pot, pot_out st x n (by omega), mark_other st x (by omega)]
theorem pot_mark {st : Marks} {i : Nat} {x : Int} (h : (st i = 0 ∧ x = 1) ∨ (st i = 1 ∧ x = 2)) : ∀ n, i < n → pot (mark st i x) n + 1 = pot st n
  | 0, h => absurd h (by omega)
  | n + 1, hn => by
    rw [pot, pot]
    by_cases e : i = n
    · subst e
      rw [pot_out st x i (Nat.le_refl _), mark_same]
      rcases h with ⟨h, rfl⟩ | ⟨h, rfl⟩ <;> rw [h] <;> simp
    · have := pot_mark h n (by omega)
      rw [mark_other st x (by omega)]
      split
      · omega
      · split <;> omega
theorem pot_new : ∀ n, pot (fun _ => 0) n = 2 * n
  | 0 => rfl
  | n + 1 => by rw [pot, pot_new n]; simp; omega
theorem zeros_new : ∀ n, zeros (fun _ => 0) n = n
  | 0 => rfl
  | n + 1 => by rw [zeros, zeros_new n]; simp
theorem visit_zeros (needs : Nat → List Nat) (f : Nat) (st : Marks) (i n : Nat) : zeros (visit needs f st i).1 n ≤ zeros st n :=
  zeros_le (fun j h => by rw [visit_keeps needs f st i j h]; exact h) n
theorem needsOf_lt {steps : List Stp} {s : Stp} {j : Nat} (h : j ∈ needsOf steps s) : j < steps.length := by
  unfold needsOf at h
  obtain ⟨x, -, hx⟩ := List.mem_filterMap.1 h
  unfold writerOf at hx
  exact (List.findIdx?_eq_some_iff_getElem.1 hx).1
theorem needsAt_lt {steps : List Stp} {i j : Nat} (h : j ∈ needsAt steps i) : j < steps.length := by
  unfold needsAt at h
  split at h
  · exact needsOf_lt h
  · cases h
end Go.Proofs.YtacgopankhpnbaaGreatDoor
/- Package build in plain words: Run, Order, Slice, Pure. No program in sight. -/
namespace Go.Proofs.YtacgopankhpnbaaGreatDoor

/-- What was done for a step. -/
structure Dn where
  step : Int
  saw : List ByteArray
  out : ByteArray

/-- build.choose: which one of a list that is not empty. -/
def chooseL (l : List Nat) (next : List Int) (u : Nat) : Nat := l.getD (pickIdx (next.getD u 0) l.length) 0
/-- One more is done. -/
def also (done : Nat → Bool) (i : Nat) : Nat → Bool := fun j => if j = i then true else done j

/-- build.Run's loop: the error, or what was done, and the files. -/
def runFrom (C : ByteArray → Int × ByteArray) (steps : List Stp) (clock order next : List Int) : Nat → (Nat → Bool) → List Dn → List Fil → Int → Int → Except Int (List Dn × List Fil)
  | 0, _, out, files, _, _ => .ok (out, files)
  | f + 1, done, out, files, u0, u1 =>
    if (readyOf steps done).isEmpty then .ok (out, files)
    else match steps[chooseL (readyOf steps done) next out.length]? with
      | none => .ok (out, files)
      | some s => match doStep C s files clock order u0 u1 with
        | .error e => .error e
        | .ok (text, saw, a, b) => runFrom C steps clock order next f (also done (chooseL (readyOf steps done) next out.length)) (out ++ [⟨chooseL (readyOf steps done) next out.length, saw, text⟩]) (doFiles s files text) a b
/-- build.Run, behind inspect. -/
def runAll (C : ByteArray → Int × ByteArray) (r : Rcp) (clock order next : List Int) : Except Int (List Dn × List Fil) :=
  runFrom C r.steps clock order next (r.steps.length + 1) (fun _ => false) [] r.inputs 0 0
/-- build.Run. -/
def runL (C : ByteArray → Int × ByteArray) (r : Rcp) (clock order next : List Int) : Except Int (List Dn × ByteArray) :=
  if inspectE r ≠ 0 then .error (inspectE r)
  else match runAll C r clock order next with
    | .error e => .error e
    | .ok (out, files) => .ok (out, (findFile files r.output).getD ByteArray.empty)

/-- build.Order's loop. -/
def orderFrom (steps : List Stp) : Nat → (Nat → Bool) → List Nat → List Nat
  | 0, _, out => out
  | f + 1, done, out => match readyOf steps done with
    | [] => out
    | i :: _ => orderFrom steps f (also done i) (out ++ [i])
/-- build.Order, behind inspect. -/
def orderAll (steps : List Stp) : List Nat := orderFrom steps (steps.length + 1) (fun _ => false) []
def orderL (r : Rcp) : List Nat := if inspectE r ≠ 0 then [] else orderAll r.steps

/-- Slice's visit, so many levels deep. -/
def grow (needs : Nat → List Nat) : Nat → (Nat → Bool) → Nat → (Nat → Bool)
  | 0, st, _ => st
  | f + 1, st, i => if st i then st else (needs i).foldl (grow needs f) (also st i)
/-- The steps on which the output depends. -/
def inSlice (r : Rcp) : Nat → Bool := match writerOf r.steps r.output with
  | some i => grow (needsAt r.steps) (r.steps.length + 1) (fun _ => false) i
  | none => fun _ => false
def sliceAll (r : Rcp) : List Nat := (List.range r.steps.length).filter (inSlice r)
def sliceL (r : Rcp) : List Nat := if inspectE r ≠ 0 then [] else sliceAll r
/-- build.Pure. -/
def pureL (r : Rcp) : Bool := decide (inspectE r = 0) && !(sliceL r).any fun i => match r.steps[i]? with
  | some s => !stepPure s
  | none => true
end Go.Proofs.YtacgopankhpnbaaGreatDoor
/- circle finds no circle: then the steps have ranks; and every step comes. No program in sight. -/
namespace Go.Proofs.YtacgopankhpnbaaGreatDoor

/-- Marks are 0, 1, 2; what a shut step needs is shut, and has a lower rank. -/
structure Sound (needs : Nat → List Nat) (st : Marks) (rk : Nat → Nat) : Prop where
  vals : ∀ i, st i = 0 ∨ st i = 1 ∨ st i = 2
  shut : ∀ i, st i = 2 → ∀ k, k ∈ needs i → st k = 2 ∧ rk k < rk i
def SoundE (needs : Nat → List Nat) (st : Marks) : Prop := ∃ rk, Sound needs st rk

theorem SoundE.open_ {needs : Nat → List Nat} {st : Marks} {i : Nat} (h : SoundE needs st) (h0 : st i = 0) : SoundE needs (mark st i 1) := by
  obtain ⟨rk, h1, h2⟩ := h
  refine ⟨rk, fun j => ?_, fun j hj k hk => ?_⟩
  · by_cases e : j = i
    · subst e; rw [mark_same]; exact .inr (.inl rfl)
    · rw [mark_other _ _ e]; exact h1 j
  · have hji : j ≠ i := by rintro rfl; rw [mark_same] at hj; omega
    rw [mark_other _ _ hji] at hj
    obtain ⟨h3, h4⟩ := h2 j hj k hk
    have hki : k ≠ i := by rintro rfl; omega
    rw [mark_other _ _ hki]
    exact ⟨h3, h4⟩
theorem le_sum (rk : Nat → Nat) : ∀ (l : List Nat) (k : Nat), k ∈ l → rk k ≤ (l.map rk).sum
  | [], _, h => by cases h
  | a :: r, k, h => by
    rw [List.map_cons, List.sum_cons]
    rcases List.mem_cons.1 h with rfl | h
    · omega
    · have := le_sum rk r k h; omega
theorem SoundE.shut_ {needs : Nat → List Nat} {st : Marks} {i : Nat} (h : SoundE needs st) (h0 : st i = 1) (hn : ∀ k, k ∈ needs i → st k = 2) : SoundE needs (mark st i 2) := by
  obtain ⟨rk, h1, h2⟩ := h
  refine ⟨fun j => if j = i then ((needs i).map rk).sum + 1 else rk j, fun j => ?_, fun j hj k hk => ?_⟩
  · by_cases e : j = i
    · subst e; rw [mark_same]; exact .inr (.inr rfl)
    · rw [mark_other _ _ e]; exact h1 j
  · by_cases e : j = i
    · subst e
      have hk2 := hn k hk
      have hki : k ≠ j := by rintro rfl; omega
      rw [mark_other _ _ hki, if_neg hki, if_pos rfl]
      exact ⟨hk2, by have := le_sum rk _ _ hk; omega⟩
    · rw [mark_other _ _ e] at hj
      obtain ⟨h3, h4⟩ := h2 j hj k hk
      have hki : k ≠ i := by rintro rfl; omega
      rw [mark_other _ _ hki, if_neg hki, if_neg e]
      exact ⟨h3, h4⟩

/-- What a visit that finds no circle leaves. -/
def ShutOk (needs : Nat → List Nat) (g : Marks → Nat → Marks × Bool) : Prop := ∀ st i, SoundE needs st → (g st i).2 = false → SoundE needs (g st i).1 ∧ (g st i).1 i = 2
theorem anyV_ok {needs : Nat → List Nat} {g : Marks → Nat → Marks × Bool} (hg : ShutOk needs g) (hk : ∀ st k j, st j ≠ 0 → (g st k).1 j = st j) : ∀ (l : List Nat) (st : Marks), SoundE needs st → (anyV g st l).2 = false →
    SoundE needs (anyV g st l).1 ∧ ∀ k, k ∈ l → (anyV g st l).1 k = 2
  | [], st, h, _ => ⟨h, fun k hk => by cases hk⟩
  | a :: r, st, h, hf => by
    rw [anyV] at hf ⊢
    by_cases e : (g st a).2 = true
    · rw [if_pos e] at hf; cases hf
    · rw [if_neg e] at hf ⊢
      have e' : (g st a).2 = false := by simpa using e
      obtain ⟨h1, h2⟩ := hg st a h e'
      obtain ⟨h3, h4⟩ := anyV_ok hg hk r _ h1 hf
      refine ⟨h3, fun k hm => ?_⟩
      rcases List.mem_cons.1 hm with rfl | hm
      · rw [anyV_keeps hk r _ k (by rw [h2]; decide), h2]
      · exact h4 k hm
theorem visit_shut (needs : Nat → List Nat) : ∀ f, ShutOk needs (visit needs f)
  | 0, st, i, _, hf => by cases hf
  | f + 1, st, i, h, hf => by
    rw [visit] at hf ⊢
    by_cases e : st i ≠ 0
    · rw [if_pos e] at hf ⊢
      have h1 : st i ≠ 1 := of_decide_eq_false hf
      obtain ⟨rk, hv, hs⟩ := h
      refine ⟨⟨rk, hv, hs⟩, ?_⟩
      show st i = 2
      rcases hv i with h0 | h0 | h0
      · exact absurd h0 e
      · exact absurd h0 h1
      · exact h0
    · rw [if_neg e] at hf ⊢
      have h0 : st i = 0 := Classical.not_not.1 e
      by_cases e2 : (anyV (visit needs f) (mark st i 1) (needs i)).2 = true
      · rw [if_pos e2] at hf; cases hf
      · rw [if_neg e2]
        have e3 : (anyV (visit needs f) (mark st i 1) (needs i)).2 = false := by simpa using e2
        obtain ⟨h3, h4⟩ := anyV_ok (visit_shut needs f) (visit_keeps needs f) (needs i) (mark st i 1) (h.open_ h0) e3
        have h5 : (anyV (visit needs f) (mark st i 1) (needs i)).1 i = 1 := by
          rw [anyV_keeps (visit_keeps needs f) (needs i) (mark st i 1) i (by rw [mark_same]; decide), mark_same]
        exact ⟨h3.shut_ h5 h4, mark_same _ _ _⟩
theorem circleFrom_ok (needs : Nat → List Nat) (f : Nat) : ∀ (n k : Nat) (st : Marks), SoundE needs st → (∀ j, j < k → st j = 2) → circleFrom needs f k n st = false → ∃ st', SoundE needs st' ∧ ∀ j, j < k + n → st' j = 2
  | 0, k, st, h, hk, _ => ⟨st, h, hk⟩
  | n + 1, k, st, h, hk, hf => by
    rw [circleFrom, Bool.or_eq_false_iff] at hf
    obtain ⟨h1, h2⟩ := visit_shut needs f st k h hf.1
    obtain ⟨st', h3, h4⟩ := circleFrom_ok needs f n (k + 1) _ h1 (fun j hj => by
      by_cases e : j = k
      · subst e; exact h2
      · rw [visit_keeps needs f st k j (by rw [hk j (by omega)]; decide)]; exact hk j (by omega)) hf.2
    exact ⟨st', h3, fun j hj => h4 j (by omega)⟩
/-- Without a circle there are ranks. -/
theorem circle_rank {steps : List Stp} (h : circle steps = false) : ∃ rk : Nat → Nat, ∀ i k, k ∈ needsAt steps i → rk k < rk i := by
  obtain ⟨st, ⟨rk, hv, hs⟩, h2⟩ := circleFrom_ok (needsAt steps) _ steps.length 0 (fun _ => 0) ⟨fun _ => 0, fun _ => .inl rfl, fun i hi => by cases hi⟩ (fun j hj => absurd hj (by omega)) h
  refine ⟨rk, fun i k hk => (hs i (h2 i ?_) k hk).2⟩
  rw [Nat.zero_add]
  unfold needsAt at hk
  split at hk
  · rename_i s hs
    exact (List.getElem?_eq_some_iff.1 hs).1
  · cases hk

/-- While something is left, something can come. -/
theorem ready_some {steps : List Stp} (h : circle steps = false) (done : Nat → Bool) {i : Nat} (hi : i < steps.length) (hd : done i = false) : readyOf steps done ≠ [] := by
  obtain ⟨rk, hr⟩ := circle_rank h
  have key : ∀ n i, rk i ≤ n → i < steps.length → done i = false → readyOf steps done ≠ [] := by
    intro n
    induction n with
    | zero =>
      intro i hn hi hd he
      have : i ∈ readyOf steps done := by
        unfold readyOf
        rw [List.mem_filter]
        refine ⟨List.mem_range.2 hi, ?_⟩
        unfold canCome
        rw [hd]
        have : (needsAt steps i).any (fun k => !done k) = false := by
          rw [List.any_eq_false]
          intro k hk
          have := hr i k hk
          omega
        rw [this]; rfl
      rw [he] at this; cases this
    | succ n ih =>
      intro i hn hi hd
      by_cases hc : (needsAt steps i).any (fun k => !done k) = true
      · obtain ⟨k, hk, hkd⟩ := List.any_eq_true.1 hc
        have h1 := hr i k hk
        have h2 := needsAt_lt hk
        exact ih k (by omega) h2 (by simpa using hkd)
      · intro he
        have : i ∈ readyOf steps done := by
          unfold readyOf
          rw [List.mem_filter]
          refine ⟨List.mem_range.2 hi, ?_⟩
          unfold canCome
          rw [hd]
          have : (needsAt steps i).any (fun k => !done k) = false := by simpa using hc
          rw [this]; rfl
        rw [he] at this; cases this
  exact key (rk i) i (Nat.le_refl _) hi hd
theorem ready_mem {steps : List Stp} {done : Nat → Bool} {i : Nat} (h : i ∈ readyOf steps done) : i < steps.length ∧ done i = false ∧ ∀ k, k ∈ needsAt steps i → done k = true := by
  unfold readyOf at h
  rw [List.mem_filter] at h
  obtain ⟨h1, h2⟩ := h
  unfold canCome at h2
  rw [Bool.and_eq_true, Bool.not_eq_true', Bool.not_eq_true'] at h2
  refine ⟨List.mem_range.1 h1, h2.1, fun k hk => ?_⟩
  have := List.any_eq_false.1 h2.2 k hk
  simpa using this
theorem choose_mem {l : List Nat} (next : List Int) (u : Nat) (h : l ≠ []) : chooseL l next u ∈ l := by
  unfold chooseL
  have hl : 0 < l.length := List.length_pos_iff.2 h
  have hp : pickIdx (next.getD u 0) l.length < l.length := by
    unfold pickIdx
    have h1 := Int.emod_lt_of_pos (next.getD u 0) (show (0 : Int) < (l.length : Int) by omega)
    have h2 := Int.emod_nonneg (next.getD u 0) (show (l.length : Int) ≠ 0 by omega)
    omega
  rw [List.getD_eq_getElem?_getD, List.getElem?_eq_getElem hp]
  exact List.getElem_mem hp
/-- How many of the first n are left. -/
def leftN (done : Nat → Bool) : Nat → Nat
  | 0 => 0
  | n + 1 => leftN done n + if done n then 0 else 1
theorem leftN_out (done : Nat → Bool) {i : Nat} : ∀ n, n ≤ i → leftN (also done i) n = leftN done n
  | 0, _ => rfl
  | n + 1, h => by rw [leftN, leftN, leftN_out done n (by omega)]; simp [also, show n ≠ i by omega]
theorem leftN_also {done : Nat → Bool} {i : Nat} (h : done i = false) : ∀ n, i < n → leftN (also done i) n + 1 = leftN done n
  | 0, hn => absurd hn (by omega)
  | n + 1, hn => by
    rw [leftN, leftN]
    by_cases e : i = n
    · subst e; rw [leftN_out done i (Nat.le_refl _)]; simp [also, h]
    · have := leftN_also h n (by omega)
      have e2 : also done i n = done n := by simp [also, show n ≠ i by omega]
      rw [e2]; omega
theorem leftN_le (done : Nat → Bool) : ∀ n, leftN done n ≤ n
  | 0 => Nat.le_refl _
  | n + 1 => by have := leftN_le done n; rw [leftN]; split <;> omega
theorem leftN_pos {done : Nat → Bool} {i n : Nat} (hi : i < n) (h : done i = false) : 0 < leftN done n := by
  have := leftN_also h n hi
  omega
end Go.Proofs.YtacgopankhpnbaaGreatDoor
/- What is refused of a right recipe with one more step. No program in sight. -/
namespace Go.Proofs.YtacgopankhpnbaaGreatDoor

/-- The parts of a right recipe. -/
structure RightR (r : Rcp) : Prop where
  files : rightFiles r.inputs = true
  few : r.steps.length ≤ 60
  steps : ∀ s, s ∈ r.steps → stepRight s = true
  once : twice r = false
  room : r.inputs.length + r.steps.length ≤ 60
  out : known r r.output = true
  srcs : ∀ s, s ∈ r.steps → ∀ x, x ∈ s.src → known r x = true
  circ : circle r.steps = false
theorem inspectE_ok {r : Rcp} (h : inspectE r = 0) : RightR r := by
  unfold inspectE at h
  split at h
  · cases h
  rename_i h1
  split at h
  · cases h
  rename_i h2
  split at h
  · cases h
  rename_i h3
  split at h
  · cases h
  rename_i h4
  split at h
  · cases h
  rename_i h5
  have e1 : rightFiles r.inputs = true ∧ ¬ 60 < r.steps.length ∧ (r.steps.any fun s => !stepRight s) = false := by
    rw [Bool.not_eq_true, Bool.or_eq_false_iff, Bool.or_eq_false_iff] at h1
    exact ⟨by simpa using h1.1.1, by simpa using h1.1.2, h1.2⟩
  have e4 : known r r.output = true ∧ (r.steps.any fun s => s.src.any fun x => !known r x) = false := by
    rw [Bool.not_eq_true, Bool.or_eq_false_iff] at h4
    exact ⟨by simpa using h4.1, h4.2⟩
  refine ⟨e1.1, by omega, fun s hs => ?_, by simpa using h2, by omega, e4.1, fun s hs x hx => ?_, by simpa using h5⟩
  · have := List.any_eq_false.1 e1.2.2 s hs
    simpa using this
  · have := List.any_eq_false.1 e4.2 s hs
    rw [Bool.not_eq_true, List.any_eq_false] at this
    have := this x hx
    simpa using this
theorem inspectE_of {r : Rcp} (h : RightR r) : inspectE r = 0 := by
  have h3 : (r.steps.any fun s => !stepRight s) = false := by rw [List.any_eq_false]; intro s hs; simp [h.steps s hs]
  have h4 : (r.steps.any fun s => s.src.any fun x => !known r x) = false := by
    rw [List.any_eq_false]
    intro s hs
    simp only [List.any_eq_true, not_exists, not_and]
    intro x hx
    simp [h.srcs s hs x hx]
  have h2 := h.few
  have h5 := h.room
  unfold inspectE
  rw [h.files, h3, decide_eq_false (by omega), h.once, h.out, h4, h.circ]
  simp; omega

/-- A recipe with one more step. -/
def more (r : Rcp) (t : Stp) : Rcp := { r with steps := r.steps ++ [t] }
theorem writerOf_more (l : List Stp) (t : Stp) (x : ByteArray) : writerOf (l ++ [t]) x = match writerOf l x with
    | some i => some i
    | none => if t.out = x then some l.length else none := by
  unfold writerOf
  rw [List.findIdx?_append]
  cases h : l.findIdx? (fun s => decide (s.out = x)) with
  | some i => rfl
  | none =>
    by_cases e : t.out = x
    · simp [e, List.findIdx?_cons]
    · simp [e, List.findIdx?_cons]
theorem known_more (r : Rcp) (t : Stp) (x : ByteArray) : known (more r t) x = (known r x || decide (t.out = x)) := by
  unfold known more
  rw [writerOf_more]
  cases writerOf r.steps x with
  | some i => simp
  | none =>
    by_cases e : t.out = x
    · simp [e]
    · simp [e]
theorem twiceFrom_iff (r : Rcp) : ∀ (n k : Nat), twiceFrom r k n = true ↔ ∃ j s, k ≤ j ∧ j < k + n ∧ r.steps[j]? = some s ∧ knownTo r j s.out = true
  | 0, k => by
    constructor
    · intro h; cases h
    · rintro ⟨j, s, h1, h2, -⟩; omega
  | n + 1, k => by
    rw [twiceFrom, Bool.or_eq_true, twiceFrom_iff r n (k + 1)]
    constructor
    · rintro (h | ⟨j, s, h1, h2, h3, h4⟩)
      · cases hs : r.steps[k]? with
        | none => rw [hs] at h; cases h
        | some s => rw [hs] at h; exact ⟨k, s, Nat.le_refl _, by omega, hs, h⟩
      · exact ⟨j, s, by omega, by omega, h3, h4⟩
    · rintro ⟨j, s, h1, h2, h3, h4⟩
      by_cases e : j = k
      · subst e; rw [h3]; exact .inl h4
      · exact .inr ⟨j, s, by omega, by omega, h3, h4⟩
theorem twice_iff (r : Rcp) : twice r = true ↔ ∃ j s, r.steps[j]? = some s ∧ knownTo r j s.out = true := by
  unfold twice
  rw [twiceFrom_iff]
  constructor
  · rintro ⟨j, s, -, -, h3, h4⟩; exact ⟨j, s, h3, h4⟩
  · rintro ⟨j, s, h3, h4⟩
    exact ⟨j, s, by omega, by have := (List.getElem?_eq_some_iff.1 h3).1; omega, h3, h4⟩
theorem twice_more (r : Rcp) (t : Stp) (h : twice r = false) : twice (more r t) = known r t.out := by
  rw [Bool.eq_iff_iff, twice_iff]
  constructor
  · rintro ⟨j, s, h3, h4⟩
    have hj := (List.getElem?_eq_some_iff.1 h3).1
    have hj2 : j < r.steps.length + 1 := by simpa [more] using hj
    by_cases e : j = r.steps.length
    · subst e
      have : s = t := by simpa [more] using h3.symm
      subst this
      unfold knownTo more at h4
      simpa [known] using h4
    · exfalso
      have : twice r = true := (twice_iff r).2 ⟨j, s, by
        have : (r.steps ++ [t])[j]? = some s := h3
        rwa [List.getElem?_append_left (by omega)] at this, by
        unfold knownTo more at h4
        unfold knownTo
        rwa [List.take_append_of_le_length (by omega)] at h4⟩
      rw [h] at this; cases this
  · intro hk
    refine ⟨r.steps.length, t, by simp [more], ?_⟩
    unfold knownTo more
    simpa [known] using hk
/-- A step that copies. -/
abbrev copyStep (x y : ByteArray) : Stp := ⟨0, [x], y, false⟩
theorem copyStep_right {x y : ByteArray} (hx : isName x = true) (hy : isName y = true) : stepRight (copyStep x y) = true := by
  simp [stepRight, hx, hy]
section
variable {r : Rcp} (h : RightR r) (h59 : r.inputs.length + r.steps.length < 60)
include h h59
theorem more_head {t : Stp} (ht : stepRight t = true) : (!rightFiles (more r t).inputs || decide (60 < (more r t).steps.length) || (more r t).steps.any (fun s => !stepRight s)) = false := by
  have h3 : ((more r t).steps.any fun s => !stepRight s) = false := by
    rw [List.any_eq_false]
    intro s hs
    have hs' : s ∈ r.steps ++ [t] := hs
    rcases List.mem_append.1 hs' with hs' | hs'
    · simp [h.steps s hs']
    · simp at hs'; subst hs'; simp [ht]
  have h4 : (more r t).steps.length = r.steps.length + 1 := by simp [more]
  have h5 : rightFiles (more r t).inputs = true := h.files
  rw [h3, h5, decide_eq_false (by omega)]; rfl
theorem refuse_twice {s : Stp} (hs : s ∈ r.steps) : inspectE (more r (copyStep s.out s.out)) = 5 := by
  have hn : isName s.out = true := by
    have := h.steps s hs
    unfold stepRight at this
    split at this
    · cases this
    · rename_i hh
      simp only [Bool.or_eq_true, not_or, Bool.not_eq_true', Bool.not_eq_false] at hh
      exact hh.1
  have hk : known r s.out = true := by
    unfold known
    cases hw : writerOf r.steps s.out with
    | some i => rfl
    | none =>
      unfold writerOf at hw
      rw [List.findIdx?_eq_none_iff] at hw
      have := hw s hs
      simp at this
  unfold inspectE
  rw [more_head h h59 (copyStep_right hn hn), twice_more r _ h.once, hk]; simp
theorem refuse_none {x y : ByteArray} (hx : isName x = true) (hy : isName y = true) (hkx : known r x = false) (hky : known r y = false) (hne : y ≠ x) : inspectE (more r (copyStep x y)) = 4 := by
  have hlen : (more r (copyStep x y)).inputs.length + (more r (copyStep x y)).steps.length = r.inputs.length + r.steps.length + 1 := by simp [more]; omega
  have hu : ((more r (copyStep x y)).steps.any fun s => s.src.any fun z => !known (more r (copyStep x y)) z) = true := by
    rw [List.any_eq_true]
    refine ⟨copyStep x y, by simp [more], ?_⟩
    rw [List.any_eq_true]
    exact ⟨x, by simp, by rw [known_more, hkx]; simp [hne]⟩
  unfold inspectE
  rw [more_head h h59 (copyStep_right hx hy), twice_more r _ h.once, hky, hu, Bool.or_true, hlen]
  simp; omega
theorem refuse_round {x : ByteArray} (hx : isName x = true) (hkx : known r x = false) : inspectE (more r (copyStep x x)) = 15 := by
  have hlen : (more r (copyStep x x)).inputs.length + (more r (copyStep x x)).steps.length = r.inputs.length + r.steps.length + 1 := by simp [more]; omega
  have hu : ((more r (copyStep x x)).steps.any fun s => s.src.any fun z => !known (more r (copyStep x x)) z) = false := by
    rw [List.any_eq_false]
    intro s hs
    have hs' : s ∈ r.steps ++ [copyStep x x] := hs
    simp only [List.any_eq_true, not_exists, not_and]
    intro z hz
    rw [known_more]
    rcases List.mem_append.1 hs' with hs' | hs'
    · simp [h.srcs s hs' z hz]
    · simp at hs'; subst hs'
      simp at hz; subst hz
      simp
  have ho : known (more r (copyStep x x)) (more r (copyStep x x)).output = true := by
    have : (more r (copyStep x x)).output = r.output := rfl
    rw [known_more, this, h.out]; rfl
  have hw : writerOf r.steps x = none := by
    unfold known at hkx
    rw [Bool.or_eq_false_iff] at hkx
    simpa using hkx.1
  have hc : circle (more r (copyStep x x)).steps = true := by
    cases hc : circle (more r (copyStep x x)).steps with
    | true => rfl
    | false =>
      exfalso
      obtain ⟨rk, hr⟩ := circle_rank hc
      have := hr r.steps.length r.steps.length (by
        have e : (more r (copyStep x x)).steps[r.steps.length]? = some (copyStep x x) := by simp [more]
        unfold needsAt
        rw [e]
        unfold needsOf
        rw [List.mem_filterMap]
        refine ⟨x, by simp, ?_⟩
        show writerOf (r.steps ++ [copyStep x x]) x = _
        rw [writerOf_more, hw]; simp)
      omega
  unfold inspectE
  rw [more_head h h59 (copyStep_right hx hx), twice_more r _ h.once, hkx, hu, ho, hlen, hc]
  simp; omega
omit h59 in
theorem refuse_output {x : ByteArray} (hkx : known r x = false) : inspectE { r with output := x } = 4 := by
  have h3 : (r.steps.any fun s => !stepRight s) = false := by rw [List.any_eq_false]; intro s hs; simp [h.steps s hs]
  have h2 := h.few
  have h5 := h.room
  have hk : known { r with output := x } x = false := hkx
  have ht : twice { r with output := x } = false := by
    rw [Bool.eq_false_iff]
    intro ht
    rw [twice_iff] at ht
    have := h.once
    rw [Bool.eq_false_iff] at this
    exact this ((twice_iff r).2 ht)
  unfold inspectE
  rw [ht]
  show (if (!rightFiles r.inputs || decide (60 < r.steps.length) || r.steps.any fun s => !stepRight s) = true then (1 : Int) else _) = 4
  rw [h.files, h3, decide_eq_false (by omega), hk]
  simp; omega
end
end Go.Proofs.YtacgopankhpnbaaGreatDoor
/- Package blame in plain words. No program in sight. -/
namespace Go.Proofs.YtacgopankhpnbaaGreatDoor

/-- blame.sees -/
def seesN (s : Stp) : Nat := if s.kind = 2 then 0 else s.src.length
/-- A record that is being read: which steps are there, what was done for each, which texts of inputs were seen. -/
structure RSt where
  there : Nat → Bool
  of : Nat → Dn
  inp : ByteArray → Option ByteArray
def dnZero : Dn := ⟨0, [], ⟨#[]⟩⟩
def setDn (f : Nat → Dn) (i : Nat) (d : Dn) : Nat → Dn := fun j => if j = i then d else f j
def setInp (m : ByteArray → Option ByteArray) (x t : ByteArray) : ByteArray → Option ByteArray := fun y => if y = x then some t else m y

/-- What one name of a step adds. -/
def readName (steps : List Stp) (there : Nat → Bool) (of : Nat → Dn) (saw : List ByteArray) (k : Nat) (x : ByteArray) (m : ByteArray → Option ByteArray) : Option (ByteArray → Option ByteArray) :=
  match writerOf steps x with
  | some i => if there i then (match saw[k]? with
      | none => some m
      | some t => if t = (of i).out then some m else none) else none
  | none => match saw[k]? with
    | none => some m
    | some t => match m x with
      | some u => if t = u then some m else none
      | none => some (setInp m x t)
def readSrc (steps : List Stp) (there : Nat → Bool) (of : Nat → Dn) (saw : List ByteArray) : Nat → List ByteArray → (ByteArray → Option ByteArray) → Option (ByteArray → Option ByteArray)
  | _, [], m => some m
  | k, x :: l, m => match readName steps there of saw k x m with
    | none => none
    | some m' => readSrc steps there of saw (k + 1) l m'
/-- One element of a record. -/
def readDn (steps : List Stp) (st : RSt) (d : Dn) : Option RSt :=
  if d.step < 0 then none
  else match steps[d.step.toNat]? with
    | none => none
    | some s => if st.there d.step.toNat = true ∨ d.saw.length ≠ seesN s then none
      else match readSrc steps st.there st.of d.saw 0 s.src st.inp with
        | none => none
        | some m => some ⟨also st.there d.step.toNat, setDn st.of d.step.toNat d, m⟩
def readAll (steps : List Stp) : List Dn → RSt → Option RSt
  | [], st => some st
  | d :: l, st => match readDn steps st d with
    | none => none
    | some st' => readAll steps l st'
def rstZero : RSt := ⟨fun _ => false, fun _ => dnZero, fun _ => none⟩
/-- blame.read -/
def readL (r : Rcp) (l : List Dn) : Option RSt := if inspectE r ≠ 0 ∨ l.length ≠ r.steps.length then none else readAll r.steps l rstZero

/-- record.text -/
def textL (r : Rcp) (x : RSt) (name : ByteArray) : Option ByteArray := match writerOf r.steps name with
  | some i => some (x.of i).out
  | none => match x.inp name with
    | some s => some s
    | none => findFile r.inputs name
/-- blame.Input -/
def inputL (r : Rcp) (x y : RSt) : Option ByteArray := (r.inputs.find? fun f => decide ((textL r x f.name).getD ⟨#[]⟩ ≠ (textL r y f.name).getD ⟨#[]⟩)).map (·.name)
/-- blame.First -/
def firstL (r : Rcp) (x y : RSt) : Option Nat := (orderAll r.steps).find? fun i => decide ((x.of i).saw = (y.of i).saw) && decide ((x.of i).out ≠ (y.of i).out)
/-- The first place where two lists differ. -/
def firstDiff : List ByteArray → List ByteArray → Option Nat
  | x :: l, y :: m => if x = y then (firstDiff l m).map (· + 1) else some 0
  | _, _ => none
/-- Through which step a difference came into another one. -/
def chainNext (steps : List Stp) (x y : RSt) (i : Nat) : Option Nat := match firstDiff (x.of i).saw (y.of i).saw with
  | none => none
  | some k => match steps[i]? with
    | none => none
    | some s => match s.src[k]? with
      | none => none
      | some n => writerOf steps n
/-- blame.Chain's loop. -/
def chainFrom (steps : List Stp) (x y : RSt) : Nat → Nat → List Nat → List Nat
  | 0, _, out => out
  | f + 1, i, out => match chainNext steps x y i with
    | none => out ++ [i]
    | some j => chainFrom steps x y f j (out ++ [i])
def chainL (r : Rcp) (x y : RSt) : List Nat := match writerOf r.steps r.output with
  | none => []
  | some i => if (x.of i).out = (y.of i).out then [] else (chainFrom r.steps x y (r.steps.length + 1) i []).reverse
end Go.Proofs.YtacgopankhpnbaaGreatDoor
/- What a record that fits is. No program in sight. -/
namespace Go.Proofs.YtacgopankhpnbaaGreatDoor

/-- What a name of a step, and what was seen of it, agree with. -/
def SawOk (steps : List Stp) (st : RSt) (x : ByteArray) (t : Option ByteArray) : Prop := match writerOf steps x with
  | some i => st.there i = true ∧ ∀ u, t = some u → u = (st.of i).out
  | none => ∀ u, t = some u → st.inp x = some u
theorem readName_ok {steps : List Stp} {there : Nat → Bool} {of : Nat → Dn} {saw : List ByteArray} {k : Nat} {x : ByteArray} {m m' : ByteArray → Option ByteArray} (h : readName steps there of saw k x m = some m') :
    SawOk steps ⟨there, of, m'⟩ x saw[k]? ∧ ∀ y u, m y = some u → m' y = some u := by
  unfold readName at h
  unfold SawOk
  cases hw : writerOf steps x with
  | some i =>
    rw [hw] at h
    simp only at h ⊢
    split at h
    · rename_i ht
      cases hs : saw[k]? with
      | none => rw [hs] at h; cases h; exact ⟨⟨ht, fun u hu => (by cases hu)⟩, fun y u hu => hu⟩
      | some t =>
        rw [hs] at h
        simp only at h
        split at h
        · rename_i he
          cases h
          exact ⟨⟨ht, fun u hu => (by cases hu; exact he)⟩, fun y u hu => hu⟩
        · cases h
    · cases h
  | none =>
    rw [hw] at h
    simp only at h ⊢
    cases hs : saw[k]? with
    | none => rw [hs] at h; cases h; exact ⟨fun u hu => (by cases hu), fun y u hu => hu⟩
    | some t =>
      rw [hs] at h
      simp only at h
      cases hm : m x with
      | some v =>
        rw [hm] at h
        simp only at h
        split at h
        · rename_i he
          cases h
          exact ⟨fun u hu => (by cases hu; rw [hm, he]), fun y u hu => hu⟩
        · cases h
      | none =>
        rw [hm] at h
        cases h
        refine ⟨fun u hu => (by cases hu; simp [setInp]), fun y u hu => ?_⟩
        unfold setInp
        by_cases e : y = x
        · subst e; rw [hm] at hu; cases hu
        · rw [if_neg e]; exact hu
theorem SawOk.more {steps : List Stp} {a b : RSt} {x : ByteArray} {t : Option ByteArray} (h : SawOk steps a x t) (h1 : ∀ i, a.there i = true → b.there i = true ∧ b.of i = a.of i) (h2 : ∀ y u, a.inp y = some u → b.inp y = some u) : SawOk steps b x t := by
  unfold SawOk at h ⊢
  cases hw : writerOf steps x with
  | some i =>
    rw [hw] at h
    simp only at h ⊢
    refine ⟨(h1 i h.1).1, fun u hu => ?_⟩
    rw [(h1 i h.1).2]; exact h.2 u hu
  | none =>
    rw [hw] at h
    exact fun u hu => h2 x u (h u hu)
theorem readSrc_ok {steps : List Stp} {there : Nat → Bool} {of : Nat → Dn} {saw : List ByteArray} : ∀ {l : List ByteArray} {k : Nat} {m m' : ByteArray → Option ByteArray}, readSrc steps there of saw k l m = some m' →
    (∀ j x, l[j]? = some x → SawOk steps ⟨there, of, m'⟩ x saw[k + j]?) ∧ ∀ y u, m y = some u → m' y = some u
  | [], k, m, m', h => by cases h; exact ⟨fun j x hx => by simp at hx, fun y u hu => hu⟩
  | x :: l, k, m, m', h => by
    rw [readSrc] at h
    split at h
    · cases h
    · rename_i m1 h1
      obtain ⟨h2, h3⟩ := readName_ok h1
      obtain ⟨h4, h5⟩ := readSrc_ok h
      refine ⟨fun j y hy => ?_, fun y u hu => h5 y u (h3 y u hu)⟩
      cases j with
      | zero =>
        simp at hy; subst hy
        exact h2.more (fun i hi => ⟨hi, rfl⟩) h5
      | succ j =>
        have := h4 j y (by simpa using hy)
        rwa [show k + 1 + j = k + (j + 1) by omega] at this

/-- What holds of an element that was read, among those before it. -/
structure DnOk (steps : List Stp) (st : RSt) (d : Dn) (s : Stp) : Prop where
  len : d.saw.length = seesN s
  saw : ∀ (j : Nat) (x : ByteArray), s.src[j]? = some x → SawOk steps st x d.saw[j]?
theorem readDn_ok {steps : List Stp} {st st' : RSt} {d : Dn} (h : readDn steps st d = some st') : ∃ i s, d.step = ((i : Nat) : Int) ∧ steps[i]? = some s ∧ st.there i = false ∧ st'.there = also st.there i ∧ st'.of = setDn st.of i d ∧ DnOk steps ⟨st.there, st.of, st'.inp⟩ d s ∧ ∀ y u, st.inp y = some u → st'.inp y = some u := by
  unfold readDn at h
  split at h
  · cases h
  rename_i h0
  split at h
  · cases h
  rename_i s hs
  split at h
  · cases h
  rename_i h1
  split at h
  · cases h
  rename_i m hm
  injection h with h
  subst h
  obtain ⟨h2, h3⟩ := readSrc_ok hm
  rw [not_or] at h1
  refine ⟨d.step.toNat, s, by omega, hs, by simpa using h1.1, rfl, rfl, ⟨Classical.not_not.1 h1.2, fun j x hx => ?_⟩, h3⟩
  have := h2 j x hx
  rwa [Nat.zero_add] at this

/-- A record, as far as it was read: pos says at which place a step stands. -/
structure ReadInv (steps : List Stp) (p : List Dn) (st : RSt) (pos : Nat → Nat) : Prop where
  of : ∀ (i : Nat), st.there i = true → p[pos i]? = some (st.of i) ∧ (st.of i).step = (i : Int)
  mem : ∀ (j : Nat) (d : Dn), p[j]? = some d → ∃ i s, d.step = ((i : Nat) : Int) ∧ st.there i = true ∧ pos i = j ∧ steps[i]? = some s ∧ DnOk steps st d s ∧ ∀ x k, x ∈ s.src → writerOf steps x = some k → pos k < j
theorem readInv_first (steps : List Stp) : ReadInv steps [] rstZero (fun _ => 0) := ⟨fun i hi => (by cases hi), fun j d hd => by simp at hd⟩
theorem ReadInv.next {steps : List Stp} {p : List Dn} {st st' : RSt} {pos : Nat → Nat} {d : Dn} (h : ReadInv steps p st pos) (hd : readDn steps st d = some st') :
    ∃ pos', ReadInv steps (p ++ [d]) st' pos' := by
  obtain ⟨i, s, h1, h2, h3, h4, h5, h6, h7⟩ := readDn_ok hd
  have hmore : ∀ k, st.there k = true → st'.there k = true ∧ st'.of k = st.of k := fun k hk => by
    have : k ≠ i := by rintro rfl; rw [h3] at hk; cases hk
    rw [h4, h5]
    simp [also, setDn, this, hk]
  refine ⟨fun k => if k = i then p.length else pos k, fun k hk => ?_, fun j e he => ?_⟩
  · by_cases e : k = i
    · subst e
      simp only [if_true, h5]
      simp [setDn, h1]
    · have hk' : st.there k = true := by rw [h4] at hk; simpa [also, e] using hk
      obtain ⟨a, b⟩ := h.of k hk'
      simp only [e, if_false]
      rw [(hmore k hk').2]
      exact ⟨by rw [List.getElem?_append_left (List.getElem?_eq_some_iff.1 a).1]; exact a, b⟩
  · by_cases hj : j < p.length
    · rw [List.getElem?_append_left hj] at he
      obtain ⟨k, t, a1, a2, a3, a4, a5, a6⟩ := h.mem j e he
      have hki : k ≠ i := by rintro rfl; rw [h3] at a2; cases a2
      refine ⟨k, t, a1, (hmore k a2).1, by simp [hki, a3], a4, ⟨a5.len, fun j' x hx => (a5.saw j' x hx).more hmore h7⟩, fun x n hx hn => ?_⟩
      have hq := a6 x n hx hn
      obtain ⟨j', hj'⟩ := List.getElem?_of_mem hx
      have hsaw := a5.saw j' x hj'
      unfold SawOk at hsaw
      rw [hn] at hsaw
      have hth : st.there n = true := hsaw.1
      have hni : n ≠ i := by rintro rfl; rw [h3] at hth; cases hth
      simpa [hni] using hq
    · have hlen : j < (p ++ [d]).length := (List.getElem?_eq_some_iff.1 he).1
      have hje : j = p.length := by simp at hlen; omega
      subst hje
      have : e = d := by simpa using he.symm
      subst this
      refine ⟨i, s, h1, by rw [h4]; simp [also], by simp, h2, ⟨h6.len, fun j' x hx => (h6.saw j' x hx).more (fun k hk => hmore k hk) (fun _ _ hu => hu)⟩, fun x n hx hn => ?_⟩
      obtain ⟨j', hj'⟩ := List.getElem?_of_mem hx
      have hsaw := h6.saw j' x hj'
      unfold SawOk at hsaw
      rw [hn] at hsaw
      have hth : st.there n = true := hsaw.1
      have hni : n ≠ i := by rintro rfl; rw [h3] at hth; cases hth
      simp only [hni, if_false]
      exact (List.getElem?_eq_some_iff.1 (h.of n hth).1).1
theorem readAll_ok {steps : List Stp} : ∀ {l p : List Dn} {st st' : RSt} {pos : Nat → Nat}, ReadInv steps p st pos → readAll steps l st = some st' → (∃ pos', ReadInv steps (p ++ l) st' pos') ∧ leftN st'.there steps.length + l.length = leftN st.there steps.length
  | [], p, st, st', pos, h, hr => by cases hr; exact ⟨⟨pos, by simpa using h⟩, rfl⟩
  | d :: l, p, st, st', pos, h, hr => by
    rw [readAll] at hr
    split at hr
    · cases hr
    · rename_i st1 h1
      obtain ⟨pos1, h2⟩ := h.next h1
      obtain ⟨⟨pos', h3⟩, h4⟩ := readAll_ok h2 hr
      obtain ⟨i, s, a1, a2, a3, a4, -⟩ := readDn_ok h1
      have := leftN_also a3 steps.length (List.getElem?_eq_some_iff.1 a2).1
      rw [← a4] at this
      refine ⟨⟨pos', by simpa using h3⟩, ?_⟩
      simp only [List.length_cons]
      omega
/-- A record that fits. -/
structure FitsR (r : Rcp) (l : List Dn) (st : RSt) (pos : Nat → Nat) : Prop where
  right : RightR r
  len : l.length = r.steps.length
  inv : ReadInv r.steps l st pos
  all : ∀ i, i < r.steps.length → st.there i = true
theorem readL_ok {r : Rcp} {l : List Dn} {st : RSt} (h : readL r l = some st) : ∃ pos, FitsR r l st pos := by
  unfold readL at h
  split at h
  · cases h
  · rename_i h0
    rw [not_or, Classical.not_not, Classical.not_not] at h0
    obtain ⟨⟨pos, h1⟩, h2⟩ := readAll_ok (readInv_first r.steps) h
    refine ⟨pos, inspectE_ok h0.1, h0.2, by simpa using h1, fun i hi => ?_⟩
    cases hh : st.there i with
    | true => rfl
    | false =>
      exfalso
      have h3 := leftN_pos hi hh
      have h4 := leftN_le rstZero.there r.steps.length
      omega
end Go.Proofs.YtacgopankhpnbaaGreatDoor
/- Where two records that fit differ: the chain, the first step, the first input. No program in sight. -/
namespace Go.Proofs.YtacgopankhpnbaaGreatDoor

theorem firstDiff_some : ∀ {l m : List ByteArray} {k : Nat}, firstDiff l m = some k → ∃ x y, l[k]? = some x ∧ m[k]? = some y ∧ x ≠ y
  | [], m, k, h => by simp [firstDiff] at h
  | x :: l, [], k, h => by simp [firstDiff] at h
  | x :: l, y :: m, k, h => by
    rw [firstDiff] at h
    split at h
    · rw [Option.map_eq_some_iff] at h
      obtain ⟨j, h1, rfl⟩ := h
      obtain ⟨a, b, h2, h3, h4⟩ := firstDiff_some h1
      exact ⟨a, b, by simpa using h2, by simpa using h3, h4⟩
    · rename_i hne
      cases h
      exact ⟨x, y, rfl, rfl, hne⟩
theorem firstDiff_none : ∀ {l m : List ByteArray}, l.length = m.length → firstDiff l m = none → l = m
  | [], [], _, _ => rfl
  | [], _ :: _, h, _ => by simp at h
  | _ :: _, [], h, _ => by simp at h
  | x :: l, y :: m, h, hf => by
    rw [firstDiff] at hf
    split at hf
    · rename_i he
      rw [Option.map_eq_none_iff] at hf
      rw [he, firstDiff_none (by simpa using h) hf]
    · cases hf
theorem firstDiff_self : ∀ l : List ByteArray, firstDiff l l = none
  | [] => rfl
  | x :: l => by rw [firstDiff, if_pos rfl, firstDiff_self l]; rfl

section
variable {r : Rcp} {l : List Dn} {st : RSt} {pos : Nat → Nat}
theorem FitsR.at_ (h : FitsR r l st pos) {i : Nat} {s : Stp} (hs : r.steps[i]? = some s) :
    l[pos i]? = some (st.of i) ∧ (st.of i).step = (i : Int) ∧ DnOk r.steps st (st.of i) s ∧ ∀ x k, x ∈ s.src → writerOf r.steps x = some k → pos k < pos i := by
  obtain ⟨h1, h2⟩ := h.inv.of i (h.all i (List.getElem?_eq_some_iff.1 hs).1)
  obtain ⟨k, t, a1, a2, a3, a4, a5, a6⟩ := h.inv.mem _ _ h1
  have e : k = i := by rw [h2] at a1; exact (Int.ofNat.inj a1).symm
  subst e
  rw [hs] at a4
  cases a4
  exact ⟨h1, h2, a5, a6⟩
theorem FitsR.pos_lt (h : FitsR r l st pos) {i : Nat} (hi : i < r.steps.length) : pos i < r.steps.length := by
  have := (h.at_ (List.getElem?_eq_getElem hi)).1
  rw [← h.len]; exact (List.getElem?_eq_some_iff.1 this).1
/-- The place of a step is the first one that bears it. -/
theorem FitsR.seen (h : FitsR r l st pos) {i : Nat} (hi : i < r.steps.length) : l.findIdx? (fun d => decide (d.step = (i : Int))) = some (pos i) := by
  obtain ⟨h1, h2, -⟩ := h.at_ (List.getElem?_eq_getElem hi)
  rw [List.findIdx?_eq_some_iff_getElem]
  obtain ⟨hp, he⟩ := List.getElem?_eq_some_iff.1 h1
  refine ⟨hp, by rw [he]; simpa using h2, fun j hj hc => ?_⟩
  have hj2 : j < l.length := by omega
  obtain ⟨k, t, a1, a2, a3, -⟩ := h.inv.mem j _ (List.getElem?_eq_getElem hj2)
  have hc' : l[j].step = (i : Int) := by simpa using hc
  rw [hc'] at a1
  have : i = k := Int.ofNat.inj a1
  subst this
  omega
end
section
variable {r : Rcp} {la lb : List Dn} {X Y : RSt} {px py : Nat → Nat}
theorem saw_len (hx : FitsR r la X px) (hy : FitsR r lb Y py) {i : Nat} {s : Stp} (hs : r.steps[i]? = some s) : (X.of i).saw.length = seesN s ∧ (Y.of i).saw.length = seesN s :=
  ⟨(hx.at_ hs).2.2.1.len, (hy.at_ hs).2.2.1.len⟩
theorem sees_le (s : Stp) : seesN s ≤ s.src.length := by unfold seesN; split <;> omega
/-- Through which step a difference came. -/
theorem chainNext_some (hx : FitsR r la X px) (hy : FitsR r lb Y py) {i j : Nat} {s : Stp} (hs : r.steps[i]? = some s) (h : chainNext r.steps X Y i = some j) :
    j < r.steps.length ∧ (X.of j).out ≠ (Y.of j).out ∧ px j < px i ∧ ∃ (k : Nat) (n x y : ByteArray), s.src[k]? = some n ∧ writerOf r.steps n = some j ∧ (X.of i).saw[k]? = some x ∧ (Y.of i).saw[k]? = some y ∧ x ≠ y := by
  unfold chainNext at h
  split at h
  · cases h
  rename_i k hk
  rw [hs] at h
  simp only at h
  split at h
  · cases h
  rename_i n hn
  obtain ⟨x, y, h1, h2, h3⟩ := firstDiff_some hk
  have hjlt : j < r.steps.length := (List.findIdx?_eq_some_iff_getElem.1 h).1
  have hX := (hx.at_ hs).2.2.1.saw k n hn
  have hY := (hy.at_ hs).2.2.1.saw k n hn
  unfold SawOk at hX hY
  rw [h] at hX hY
  have e1 := hX.2 x h1
  have e2 := hY.2 y h2
  exact ⟨hjlt, by rw [← e1, ← e2]; exact h3, (hx.at_ hs).2.2.2 n j (List.mem_of_getElem? hn) h, k, n, x, y, hn, h, h1, h2, h3⟩
/-- Where the chain begins: the same was seen, or an input whose texts differ. -/
theorem chainNext_none (hx : FitsR r la X px) (hy : FitsR r lb Y py) {i : Nat} {s : Stp} (hs : r.steps[i]? = some s) (h : chainNext r.steps X Y i = none) :
    (X.of i).saw = (Y.of i).saw ∨ ∃ (k : Nat) (n x y : ByteArray), s.src[k]? = some n ∧ writerOf r.steps n = none ∧ (X.of i).saw[k]? = some x ∧ (Y.of i).saw[k]? = some y ∧ x ≠ y ∧ X.inp n = some x ∧ Y.inp n = some y := by
  obtain ⟨l1, l2⟩ := saw_len hx hy hs
  unfold chainNext at h
  split at h
  · rename_i hn
    exact .inl (firstDiff_none (by rw [l1, l2]) hn)
  rename_i k hk
  obtain ⟨x, y, h1, h2, h3⟩ := firstDiff_some hk
  rw [hs] at h
  simp only at h
  have hklt : k < s.src.length := by
    have := (List.getElem?_eq_some_iff.1 h1).1
    have := sees_le s
    omega
  rw [List.getElem?_eq_getElem hklt] at h
  simp only at h
  have hn : s.src[k]? = some s.src[k] := List.getElem?_eq_getElem hklt
  have hX := (hx.at_ hs).2.2.1.saw k _ hn
  have hY := (hy.at_ hs).2.2.1.saw k _ hn
  unfold SawOk at hX hY
  rw [h] at hX hY
  exact .inr ⟨k, _, x, y, hn, h, h1, h2, h3, hX x h1, hY y h2⟩
theorem chainFrom_ok (hx : FitsR r la X px) (hy : FitsR r lb Y py) : ∀ (f i : Nat) (out : List Nat), px i < f → i < r.steps.length → (X.of i).out ≠ (Y.of i).out →
    ∃ t, chainFrom r.steps X Y f i out = out ++ i :: t ∧ (i :: t).length ≤ px i + 1 ∧ ∀ (k j : Nat), (i :: t)[k]? = some j → j < r.steps.length ∧ (X.of j).out ≠ (Y.of j).out ∧ chainNext r.steps X Y j = (i :: t)[k + 1]?
  | 0, i, out, h, _, _ => absurd h (by omega)
  | f + 1, i, out, h, hi, hd => by
    rw [chainFrom]
    have hs := List.getElem?_eq_getElem hi
    split
    · rename_i hn
      refine ⟨[], rfl, by simp, fun k j hj => ?_⟩
      cases k with
      | zero => simp at hj; subst hj; exact ⟨hi, hd, by rw [hn]; rfl⟩
      | succ k => simp at hj
    · rename_i j hj
      obtain ⟨h1, h2, h3, -⟩ := chainNext_some hx hy hs hj
      obtain ⟨t, h4, h5, h6⟩ := chainFrom_ok hx hy f j (out ++ [i]) (by omega) h1 h2
      refine ⟨j :: t, by rw [h4]; simp, by simp at h5 ⊢; omega, fun k m hm => ?_⟩
      cases k with
      | zero => simp at hm; subst hm; exact ⟨hi, hd, by rw [hj]; rfl⟩
      | succ k => exact h6 k m (by simpa using hm)
/-- The chain, from its end. -/
structure ChainIs (r : Rcp) (X Y : RSt) (e : Nat) (L : List Nat) : Prop where
  head : L[0]? = some e
  len : L.length ≤ r.steps.length
  at_ : ∀ (k j : Nat), L[k]? = some j → j < r.steps.length ∧ (X.of j).out ≠ (Y.of j).out ∧ chainNext r.steps X Y j = L[k + 1]?
theorem chainL_is (hx : FitsR r la X px) (hy : FitsR r lb Y py) {e : Nat} (hw : writerOf r.steps r.output = some e) (hd : (X.of e).out ≠ (Y.of e).out) : ∃ L, chainL r X Y = L.reverse ∧ ChainIs r X Y e L := by
  have he : e < r.steps.length := (List.findIdx?_eq_some_iff_getElem.1 hw).1
  have hp := hx.pos_lt he
  obtain ⟨t, h1, h2, h3⟩ := chainFrom_ok hx hy (r.steps.length + 1) e [] (by omega) he hd
  refine ⟨e :: t, by unfold chainL; rw [hw]; simp only; rw [if_neg hd, h1]; rfl, rfl, by omega, h3⟩
/-- Every step comes in the order. -/
theorem orderFrom_keeps (steps : List Stp) : ∀ (f : Nat) (done : Nat → Bool) (out : List Nat) (i : Nat), i ∈ out → i ∈ orderFrom steps f done out
  | 0, _, _, _, h => h
  | f + 1, done, out, i, h => by
    rw [orderFrom]
    split
    · exact h
    · exact orderFrom_keeps steps f _ _ i (List.mem_append.2 (.inl h))
theorem orderFrom_all {steps : List Stp} (hc : circle steps = false) : ∀ (f : Nat) (done : Nat → Bool) (out : List Nat), leftN done steps.length < f → (∀ i, i < steps.length → done i = true → i ∈ out) → ∀ i, i < steps.length → i ∈ orderFrom steps f done out
  | 0, _, _, h, _, _, _ => absurd h (by omega)
  | f + 1, done, out, h, hin, i, hi => by
    rw [orderFrom]
    split
    · rename_i hn
      cases hd : done i with
      | true => exact hin i hi hd
      | false => exact absurd hn (ready_some hc done hi hd)
    · rename_i k rest hk
      obtain ⟨h1, h2, -⟩ := ready_mem (show k ∈ readyOf steps done by rw [hk]; simp)
      have := leftN_also h2 steps.length h1
      refine orderFrom_all hc f _ _ (by omega) (fun j hj hjd => ?_) i hi
      by_cases e : j = k
      · subst e; simp
      · have : done j = true := by simpa [also, e] using hjd
        exact List.mem_append.2 (.inl (hin j hj this))
theorem orderAll_all {steps : List Stp} (hc : circle steps = false) {i : Nat} (hi : i < steps.length) : i ∈ orderAll steps :=
  orderFrom_all hc _ _ _ (by have := leftN_le (fun _ => false) steps.length; omega) (fun j _ h => by cases h) i hi
theorem orderFrom_lt (steps : List Stp) : ∀ (f : Nat) (done : Nat → Bool) (out : List Nat), (∀ i, i ∈ out → i < steps.length) → ∀ i, i ∈ orderFrom steps f done out → i < steps.length
  | 0, _, _, h, i, hi => h i hi
  | f + 1, done, out, h, i, hi => by
    rw [orderFrom] at hi
    split at hi
    · exact h i hi
    · rename_i k rest hk
      refine orderFrom_lt steps f _ _ (fun j hj => ?_) i hi
      rcases List.mem_append.1 hj with hj | hj
      · exact h j hj
      · simp at hj; subst hj
        exact (ready_mem (show j ∈ readyOf steps done by rw [hk]; simp)).1
theorem orderAll_lt {steps : List Stp} {i : Nat} (h : i ∈ orderAll steps) : i < steps.length := orderFrom_lt steps _ _ _ (fun i hi => by cases hi) i h
/-- The first step, if one is found, is one. -/
theorem firstL_some {i : Nat} (h : firstL r X Y = some i) : i < r.steps.length ∧ (X.of i).saw = (Y.of i).saw ∧ (X.of i).out ≠ (Y.of i).out := by
  unfold firstL at h
  have h1 := List.find?_some h
  have h2 := List.mem_of_find?_eq_some h
  simp only [Bool.and_eq_true, decide_eq_true_eq] at h1
  exact ⟨orderAll_lt h2, h1⟩
/-- One of both is found. -/
theorem found (hx : FitsR r la X px) (hy : FitsR r lb Y py) {e : Nat} {L : List Nat} (h : ChainIs r X Y e L) : (inputL r X Y).isSome = true ∨ (firstL r X Y).isSome = true := by
  have hpos : 0 < L.length := (List.getElem?_eq_some_iff.1 h.head).1
  have hlast : L[L.length - 1]? = some L[L.length - 1] := List.getElem?_eq_getElem (by omega)
  obtain ⟨h1, h2, h3⟩ := h.at_ _ _ hlast
  rw [show L.length - 1 + 1 = L.length by omega, List.getElem?_eq_none (Nat.le_refl _)] at h3
  have hs := List.getElem?_eq_getElem h1
  rcases chainNext_none hx hy hs h3 with h4 | ⟨k, n, x, y, h4, h5, h6, h7, h8, h9, h10⟩
  · right
    unfold firstL
    rw [List.find?_isSome]
    exact ⟨_, orderAll_all hx.right.circ h1, by simp [h4, h2]⟩
  · left
    have hk := hx.right.srcs _ (List.getElem_mem h1) n (List.mem_of_getElem? h4)
    unfold known at hk
    rw [h5] at hk
    simp only [Option.isSome_none, Bool.false_or] at hk
    unfold isInput at hk
    rw [List.any_eq_true] at hk
    obtain ⟨f, hf, hfn⟩ := hk
    have hfn' : f.name = n := by simpa using hfn
    unfold inputL
    rw [Option.isSome_map, List.find?_isSome]
    refine ⟨f, hf, ?_⟩
    have e1 : textL r X f.name = some x := by unfold textL; rw [hfn', h5]; simp only; rw [h9]
    have e2 : textL r Y f.name = some y := by unfold textL; rw [hfn', h5]; simp only; rw [h10]
    rw [e1, e2]
    simpa using h8
end
end Go.Proofs.YtacgopankhpnbaaGreatDoor
/- Plain facts on the sort of strings. No program in sight. -/
namespace Go.Proofs.YtacgopankhpnbaaGreatDoor

abbrev leB (x y : List UInt8) : Bool := decide (x ≤ y)
theorem leB_trans (a b c : List UInt8) (h : leB a b = true) (k : leB b c = true) : leB a c = true := by
  simp only [leB, decide_eq_true_eq] at *; exact List.le_trans h k
theorem leB_total (a b : List UInt8) : (leB a b || leB b a) = true := by
  simp only [leB, Bool.or_eq_true, decide_eq_true_eq]; exact List.le_total a b
theorem leB_anti {a b : List UInt8} (h : leB a b = true) (k : leB b a = true) : a = b := by
  simp only [leB, decide_eq_true_eq] at *; exact List.le_antisymm h k

abbrev msort (l : List (List UInt8)) : List (List UInt8) := l.mergeSort fun x y => decide (x ≤ y)
theorem msort_sorted (l : List (List UInt8)) : (msort l).Pairwise fun a b => leB a b = true := List.pairwise_mergeSort leB_trans leB_total l
theorem msort_perm (l : List (List UInt8)) : (msort l).Perm l := List.mergeSort_perm l _
theorem sorted_unique {l l' : List (List UInt8)} (h : l.Pairwise fun a b => leB a b = true) (h' : l'.Pairwise fun a b => leB a b = true) (p : l.Perm l') : l = l' :=
  List.Perm.eq_of_pairwise (le := fun a b => leB a b = true) (fun _ _ _ _ h k => leB_anti h k) h h' p
theorem msort_of_perm {l l' : List (List UInt8)} (p : l.Perm l') : msort l = msort l' :=
  sorted_unique (msort_sorted l) (msort_sorted l') (((msort_perm l).trans p).trans (msort_perm l').symm)
theorem msort_of_sorted {l : List (List UInt8)} (h : l.Pairwise fun a b => leB a b = true) : msort l = l := List.mergeSort_of_pairwise h

/-- Insertion, for reckoning. -/
def insertS (x : List UInt8) : List (List UInt8) → List (List UInt8)
  | [] => [x]
  | y :: l => if leB x y then x :: y :: l else y :: insertS x l
def isort : List (List UInt8) → List (List UInt8)
  | [] => []
  | x :: l => insertS x (isort l)
theorem insertS_perm (x : List UInt8) (l : List (List UInt8)) : (insertS x l).Perm (x :: l) := by
  induction l with
  | nil => exact List.Perm.refl _
  | cons y l ih =>
    rw [insertS]
    split
    · exact List.Perm.refl _
    · exact ((ih.cons y).trans (List.Perm.swap x y l))
theorem insertS_sorted (x : List UInt8) (l : List (List UInt8)) (h : l.Pairwise fun a b => leB a b = true) : (insertS x l).Pairwise fun a b => leB a b = true := by
  induction l with
  | nil => simp [insertS]
  | cons y l ih =>
    rw [insertS]
    rw [List.pairwise_cons] at h
    split
    · rename_i hxy
      rw [List.pairwise_cons]
      refine ⟨fun z hz => ?_, List.pairwise_cons.2 h⟩
      rcases List.mem_cons.1 hz with rfl | hz
      · exact hxy
      · exact leB_trans _ _ _ hxy (h.1 z hz)
    · rename_i hxy
      have hyx : leB y x = true := by
        have := leB_total x y
        simp only [Bool.or_eq_true] at this
        rcases this with h' | h'
        · exact absurd h' hxy
        · exact h'
      rw [List.pairwise_cons]
      refine ⟨fun z hz => ?_, ih h.2⟩
      rcases List.mem_cons.1 ((insertS_perm x l).mem_iff.1 hz) with rfl | hz
      · exact hyx
      · exact h.1 z hz
theorem isort_perm (l : List (List UInt8)) : (isort l).Perm l := by
  induction l with
  | nil => exact List.Perm.refl _
  | cons x l ih => exact (insertS_perm x _).trans (ih.cons x)
theorem isort_sorted (l : List (List UInt8)) : (isort l).Pairwise fun a b => leB a b = true := by
  induction l with
  | nil => simp [isort]
  | cons x l ih => exact insertS_sorted x _ ih
theorem msort_eq (l : List (List UInt8)) : msort l = isort l := sorted_unique (msort_sorted l) (isort_sorted l) ((msort_perm l).trans (isort_perm l).symm)
theorem sortB_eq (l : List ByteArray) : sortB l = (isort (l.map (·.data.toList))).map fun x => ⟨x.toArray⟩ := by
  unfold sortB; rw [show (l.map (·.data.toList)).mergeSort (fun x y => decide (x ≤ y)) = isort (l.map (·.data.toList)) from msort_eq _]
example : sortB [⟨#[50]⟩, ⟨#[49]⟩] = [⟨#[49]⟩, ⟨#[50]⟩] := by rw [sortB_eq]; decide +kernel
end Go.Proofs.YtacgopankhpnbaaGreatDoor
/- The examples of ladinglaw32.small, reckoned. No program in sight. -/
namespace Go.Proofs.YtacgopankhpnbaaGreatDoor

abbrev C0 : ByteArray → Int × ByteArray := fun _ => (0, ByteArray.empty)
/-- ladinglaw32.files -/
def lawFiles : List Fil := [⟨⟨#[97]⟩, ⟨#[50, 10, 49, 10]⟩⟩, ⟨⟨#[98]⟩, ⟨#[120]⟩⟩]

theorem ex1 : doStep C0 ⟨3, [⟨#[97]⟩], ⟨#[99]⟩, false⟩ lawFiles [] [] 0 0 = .ok (⟨#[49, 10, 50, 10]⟩, [⟨#[50, 10, 49, 10]⟩], 0, 0) := by
  simp only [doStep, writeStep, sortedLines, sortB_eq]; kernel_rfl
theorem ex2 : doStep C0 ⟨4, [⟨#[98]⟩], ⟨#[99]⟩, false⟩ lawFiles [70, 80] [] 1 0 = .ok (⟨#[120, 56, 48, 59, 10]⟩, [⟨#[120]⟩], 2, 0) := by
  simp only [doStep, writeStep, sortedLines, sortB_eq]; kernel_rfl
theorem ex3 : doStep C0 ⟨2, [⟨#[98]⟩, ⟨#[97]⟩], ⟨#[99]⟩, false⟩ lawFiles [] [1] 0 0 = .ok (⟨#[98, 10, 97, 10]⟩, [], 0, 2) := by
  simp only [doStep, writeStep, sortedLines, sortB_eq]; kernel_rfl
theorem ex4 : doStep C0 ⟨2, [⟨#[98]⟩, ⟨#[97]⟩], ⟨#[99]⟩, true⟩ lawFiles [] [1] 0 0 = .ok (⟨#[97, 10, 98, 10]⟩, [], 0, 0) := by
  simp only [doStep, writeStep, sortedLines, sortB_eq]; kernel_rfl
theorem ex5 : doStep C0 ⟨1, [⟨#[98]⟩, ⟨#[97]⟩, ⟨#[98]⟩], ⟨#[98]⟩, false⟩ lawFiles [] [] 0 0 = .error 5 := by
  simp only [doStep, writeStep, sortedLines, sortB_eq]; kernel_rfl
theorem ex6 : doStep C0 ⟨0, [⟨#[100]⟩], ⟨#[99]⟩, false⟩ lawFiles [] [] 0 0 = .error 4 := by
  simp only [doStep, writeStep, sortedLines, sortB_eq]; kernel_rfl
theorem ex7 : findFile lawFiles ⟨#[98]⟩ = some ⟨#[120]⟩ := by kernel_rfl
theorem ex8 : rightFiles lawFiles = true := by kernel_rfl
theorem ex9 : stepRight ⟨0, [⟨#[98]⟩], ⟨#[97]⟩, false⟩ = true := by kernel_rfl
theorem ex10 : stepRight ⟨0, [], ⟨#[]⟩, false⟩ = false := by kernel_rfl
theorem ex11 : stepPure ⟨1, [], ⟨#[97]⟩, false⟩ = true := by kernel_rfl
theorem ex12 : stepPure ⟨2, [], ⟨#[97]⟩, false⟩ = false := by kernel_rfl
end Go.Proofs.YtacgopankhpnbaaGreatDoor
/- The example of ladinglaw33.small, reckoned. No program in sight. -/
namespace Go.Proofs.YtacgopankhpnbaaGreatDoor

def exInputs : List Fil := [⟨⟨#[97]⟩, ⟨#[120]⟩⟩, ⟨⟨#[98]⟩, ⟨#[121]⟩⟩]
def exSteps : List Stp := [⟨1, [⟨#[98]⟩, ⟨#[97]⟩], ⟨#[99]⟩, false⟩, ⟨4, [⟨#[99]⟩], ⟨#[100]⟩, false⟩, ⟨0, [⟨#[97]⟩], ⟨#[101]⟩, false⟩]
/-- ladinglaw33.example -/
def exR (output : ByteArray) : Rcp := ⟨exInputs, exSteps, output⟩
theorem exRun : runL C0 (exR ⟨#[100]⟩) [7] [] [1] = .ok ([⟨2, [⟨#[120]⟩], ⟨#[120]⟩⟩, ⟨0, [⟨#[121]⟩, ⟨#[120]⟩], ⟨#[121, 120]⟩⟩, ⟨1, [⟨#[121, 120]⟩], ⟨#[121, 120, 55, 59, 10]⟩⟩], ⟨#[121, 120, 55, 59, 10]⟩) := by kernel_rfl
theorem exOrder : orderL (exR ⟨#[100]⟩) = [0, 1, 2] := by kernel_rfl
theorem exSliceD : sliceL (exR ⟨#[100]⟩) = [0, 1] := by kernel_rfl
theorem exSliceC : sliceL (exR ⟨#[99]⟩) = [0] := by kernel_rfl
theorem exPureD : pureL (exR ⟨#[100]⟩) = false := by kernel_rfl
theorem exPureC : pureL (exR ⟨#[99]⟩) = true := by kernel_rfl
end Go.Proofs.YtacgopankhpnbaaGreatDoor
