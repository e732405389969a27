/- Texts of this seat, joined. -/
import Derived.Test.YtmpopphjaggeoaaGreatDoorKN
import Derived.Test.YtmpopphjaggeoaaGreatDoorShelf
import Derived.Deep.MidRow
set_option linter.unusedVariables false
set_option linter.unusedSimpArgs false
set_option linter.constructorNameAsVariable false
namespace Go.Proofs.YtmpopphjaggeoaaGreatDoor
open Go.RowKit
def SignsAt(w:World):Prop:=∀i x,signsL[i]? =some x->w.cell? ⟨0,i,none⟩=some (.string x)
theorem SignsAt.later{w w':World}(h:SignsAt w)(hb:Below w.heap.size w w'):SignsAt w':=fun i x hx=>aD hb (h i x hx)
end Go.Proofs.YtmpopphjaggeoaaGreatDoor
