/- Texts of this seat, joined. -/
import Derived.Test.YtacgopankhpnbaaGreatDoorTQM
set_option linter.unusedVariables false
set_option linter.unusedSimpArgs false
namespace Go.Proofs.YtacgopankhpnbaaGreatDoor
open Go.RowKit
theorem int_wf{steps:List Stp}{x:bA}{j:Nat}(h:aK steps x=some j):j<steps.length:=by
 unfold aK at h;exact(List.findIdx?_eq_some_iff_getElem.1 h).1
end Go.Proofs.YtacgopankhpnbaaGreatDoor
