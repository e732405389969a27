/- Texts of this seat, joined. -/
import Derived.Test.YtmpopphjaggeoaaGreatDoorDoA
import Derived.Deep.AppendLies
set_option linter.unusedVariables false
set_option linter.unusedSimpArgs false
set_option linter.constructorNameAsVariable false
namespace Go.Proofs.YtmpopphjaggeoaaGreatDoor
open Go.RowKit
theorem size_toArray(l:List UInt8):(⟨l.toArray⟩:bA).size=l.length:=by show l.toArray.size=_;simp
end Go.Proofs.YtmpopphjaggeoaaGreatDoor
