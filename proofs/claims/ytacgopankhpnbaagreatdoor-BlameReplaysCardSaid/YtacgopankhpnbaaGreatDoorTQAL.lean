/- Texts of this seat, joined. -/
import Derived.Test.YtacgopankhpnbaaGreatDoorTQU
import Derived.Test.YtacgopankhpnbaaGreatDoorTQAI
set_option linter.unusedVariables false
set_option linter.unusedSimpArgs false
namespace Go.Proofs.YtacgopankhpnbaaGreatDoor
open Go.RowKit
structure BsW (w:World) (a b c:Obj) (wr:World):Prop where
 r0:wr.heap[w.heap.size]? =some a
 r1:wr.heap[w.heap.size+1]? =some b
 r2:wr.heap[w.heap.size+1+1]? =some c
 below:Below w.heap.size w wr
theorem BsW.later{w:World}{a b c:Obj}{wr w':World}(h:BsW w a b c wr)(hb:Below wr.heap.size wr w'):BsW w a b c w':=
 ⟨aD hb h.r0,aD hb h.r1,aD hb h.r2,aB h.below hb⟩
theorem BsW.first(w:World)(a b c:Obj):BsW w a b c (((w.alloc a).alloc b).alloc c):=by
 have e1:=aH (w.alloc a) b;have e2:=aH ((w.alloc a).alloc b) c;simp only[World.size_alloc] at e1 e2;exact⟨aD (aB (aA _ _) (aA _ _)) (aH w a),aD (aA _ _) e1,e2,aB (aB (aA _ _) (aA _ _)) (aA _ _)⟩
end Go.Proofs.YtacgopankhpnbaaGreatDoor
