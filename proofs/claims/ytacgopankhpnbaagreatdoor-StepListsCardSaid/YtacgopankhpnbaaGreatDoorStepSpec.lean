/- Package step in plain words: what its functions compute. No program in sight. -/
import Derived.Lib.ItoaNum
import Derived.Lib.Split
import Derived.Lib.Strings
import Derived.Lib.Join
namespace Go.Proofs.YtacgopankhpnbaaGreatDoor

def nameByte (c : UInt8) : Bool := decide (33 ≤ (c.toNat : Int)) && decide ((c.toNat : Int) ≤ 126)
/-- step.isName -/
def isName (s : ByteArray) : Bool := s.data.toList.all nameByte && !s.toList.isEmpty && decide (s.size ≤ 20)

structure Stp where
  kind : Int
  src : List ByteArray
  out : ByteArray
  sorted : Bool
structure Fil where
  name : ByteArray
  text : ByteArray

/-- step.Right -/
def stepRight (s : Stp) : Bool :=
  if (!isName s.out || s.src.any fun x => !isName x) then false
  else if s.kind = 2 then decide (s.src.length ≤ 60)
  else if s.kind = 1 then decide (s.src.length ≤ 60) && !s.sorted
  else if s.kind = 0 ∨ s.kind = 3 ∨ s.kind = 4 ∨ s.kind = 5 then decide (s.src.length = 1) && !s.sorted
  else false

/-- step.Pure -/
def stepPure (s : Stp) : Bool := stepRight s && decide (s.kind ≠ 4) && (decide (s.kind ≠ 2) || s.sorted)

/-- step.RightFiles: the loop, with the names that are known. -/
def rightFrom : List Fil → List ByteArray → Bool
  | [], _ => true
  | f :: r, known => if (known.any fun x => decide (x = f.name)) || !isName f.name || decide (65536 < f.text.size) then false else rightFrom r (f.name :: known)
def rightFiles (l : List Fil) : Bool := rightFrom l [] && decide (l.length ≤ 60)

/-- step.Find -/
def findFile (l : List Fil) (name : ByteArray) : Option ByteArray := (l.find? fun f => decide (f.name = name)).map (·.text)

/-- What step.rows writes: each string, and a byte 10. -/
def rowsL (l : List ByteArray) : List UInt8 := l.flatMap fun s => s.data.toList ++ [10]
def rowsB (l : List ByteArray) : ByteArray := ⟨(rowsL l).toArray⟩

/-- slices.Sort at strings. -/
def sortB (l : List ByteArray) : List ByteArray := ((l.map (·.data.toList)).mergeSort fun x y => decide (x ≤ y)).map fun x => ⟨x.toArray⟩

def nl : ByteArray := ⟨#[10]⟩
/-- The lines of a text that is not empty. -/
def linesOf (text : ByteArray) : List ByteArray :=
  Lib.splitB nl 0 (Lib.countB ⟨(Lib.trimSuffix text.data.toList [10]).toArray⟩ nl) ⟨(Lib.trimSuffix text.data.toList [10]).toArray⟩
/-- step.sorted -/
def sortedLines (text : ByteArray) : List ByteArray := if text.toList.isEmpty then [] else sortB (linesOf text)

/-- Which one of n a number names. -/
def pickIdx (x : Int) (n : Nat) : Nat := (x % (n : Int)).toNat
/-- The names that are left, in the order of the world; u: how many numbers have been used. -/
def pickAll (order : List Int) : Nat → Nat → List ByteArray → List ByteArray
  | 0, _, _ => []
  | f + 1, u, left => match left[pickIdx (order.getD u 0) left.length]? with
    | none => []
    | some x => x :: pickAll order f (u + 1) (left.eraseIdx (pickIdx (order.getD u 0) left.length))

/-- strings.Join with the empty string. -/
def joinB (l : List ByteArray) : ByteArray := ⟨(Lib.join (l.map (·.data.toList)) []).toArray⟩

/-- wire.Int -/
def wireInt (n : Int) : ByteArray := ⟨(Lib.itoa n ++ [59]).toArray⟩
end Go.Proofs.YtacgopankhpnbaaGreatDoor
