/- Texts of this seat, joined. -/
import Derived.Test.YtmpopphjaggeoaaGreatDoorKJ
import Derived.Lib.RowBridge
set_option linter.unusedVariables false
set_option linter.unusedSimpArgs false
set_option linter.constructorNameAsVariable false
namespace Go.Proofs.YtmpopphjaggeoaaGreatDoor
open Go.RowKit
theorem fM.drewN{b:Nat}{w:World}(n:Nat):fM b w (w.drewN n):=⟨rfl,rfl,rfl,Nat.le_refl _,fun _ _ _=>rfl⟩
end Go.Proofs.YtmpopphjaggeoaaGreatDoor
