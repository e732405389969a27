/- Texts of this seat, joined. -/
import Derived.Test.YtacgopankhpnbaaGreatDoorLpA
set_option linter.unusedVariables false
set_option linter.unusedSimpArgs false
namespace Go.Proofs.YtacgopankhpnbaaGreatDoor
open Go.RowKit
theorem bx2{w:World}{b:Nat}{x0 x1:Value}{t:TypeId}(h:w.heap[b]? =some (.cells #[x0,x1] t)):
  (w.cell? ⟨b,0,none⟩=some x0/\w.cell? ⟨b,1,none⟩=some x1)/\w.frozen? ⟨b,0,none⟩=false/\w.frozen? ⟨b,1,none⟩=false:=⟨⟨(bx h 0 rfl).1,(bx h 1 rfl).1⟩,(bx h 0 (u:=x0) rfl).2,(bx h 1 (u:=x1) rfl).2⟩
end Go.Proofs.YtacgopankhpnbaaGreatDoor
