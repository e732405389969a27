/- Texts of this seat, joined. -/
import Derived.KernelRfl
set_option linter.unusedVariables false
set_option linter.unusedSimpArgs false
set_option linter.constructorNameAsVariable false
namespace Go.Proofs.YtiionicikdnnpaaGreatDoor
abbrev wordsOn:Bool:=false
end Go.Proofs.YtiionicikdnnpaaGreatDoor
