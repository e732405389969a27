/- Texts of this seat, joined. -/
import Derived.Test.YtiionicikdnnpaaGreatDoorPR
import Derived.Deep.AppendLies
set_option linter.unusedVariables false
set_option linter.unusedSimpArgs false
set_option linter.constructorNameAsVariable false
namespace Go.Proofs.YtiionicikdnnpaaGreatDoor
open Go.RowKit
def Apart(a b:Nat):Prop:=a≠b
theorem Apart.of{a b:Nat}(h:a≠b):Apart a b:=h
end Go.Proofs.YtiionicikdnnpaaGreatDoor
