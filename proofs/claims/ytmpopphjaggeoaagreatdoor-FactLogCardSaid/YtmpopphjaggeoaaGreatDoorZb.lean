/- Texts of this seat, joined. -/

set_option linter.unusedVariables false
set_option linter.unusedSimpArgs false
set_option linter.constructorNameAsVariable false
namespace Go.Proofs
abbrev bA:=ByteArray
end Go.Proofs
