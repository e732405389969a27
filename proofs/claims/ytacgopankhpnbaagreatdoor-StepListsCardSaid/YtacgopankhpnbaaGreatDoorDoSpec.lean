/- Package step in plain words: write and Do. No program in sight. -/
import Derived.Test.YtacgopankhpnbaaGreatDoorStepSpec
namespace Go.Proofs.YtacgopankhpnbaaGreatDoor

/-- What a StStamp writes. -/
def stampB (t : ByteArray) (n : Int) : ByteArray := (t ++ wireInt n) ++ ⟨#[10]⟩

/-- step.write, kinds but StCompile: the text, what was seen, how much has been used. -/
def writeStep (s : Stp) (saw : List ByteArray) (clock order : List Int) (u0 u1 : Int) : ByteArray × List ByteArray × Int × Int :=
  if s.kind = 0 ∨ s.kind = 1 then (joinB saw, saw, u0, u1)
  else if s.kind = 3 then (rowsB (sortedLines (saw.headD ByteArray.empty)), saw, u0, u1)
  else if s.kind = 4 then (stampB (saw.headD ByteArray.empty) (clock.getD u0.toNat 0), saw, u0 + 1, u1)
  else if s.sorted then (rowsB (sortB s.src), [], u0, u1)
  else (rowsB (pickAll order s.src.length u1.toNat (sortB s.src)), [], u0, u1 + s.src.length)

/-- What step.Do returns: an error, or the text that was written, what was seen, and what has been used. -/
abbrev DoRes := Except Int (ByteArray × List ByteArray × Int × Int)

/-- What a step sees. -/
def sawOf (files : List Fil) : List ByteArray → Option (List ByteArray)
  | [] => some []
  | x :: r => match findFile files x, sawOf files r with
    | some t, some l => some (t :: l)
    | _, _ => none

/-- step.Do; C: what a StCompile comes to (an error, a text). -/
def doStep (C : ByteArray → Int × ByteArray) (s : Stp) (files : List Fil) (clock order : List Int) (u0 u1 : Int) : DoRes :=
  if !stepRight s || !rightFiles files || decide (min u0 u1 < 0) then .error 1
  else if (findFile files s.out).isSome then .error 5
  else if 60 ≤ files.length then .error 6
  else match sawOf files s.src with
    | none => .error 4
    | some saw =>
      if s.kind = 5 then
        if (C (saw.headD ByteArray.empty)).1 ≠ 0 then .error (C (saw.headD ByteArray.empty)).1
        else if 65536 < (C (saw.headD ByteArray.empty)).2.size then .error 6
        else .ok ((C (saw.headD ByteArray.empty)).2, saw, u0, u1)
      else if 65536 < (writeStep s saw clock order u0 u1).1.size then .error 6
      else .ok (writeStep s saw clock order u0 u1)

/-- The files behind a step. -/
def doFiles (s : Stp) (files : List Fil) (text : ByteArray) : List Fil := files ++ [⟨s.out, text⟩]
end Go.Proofs.YtacgopankhpnbaaGreatDoor
