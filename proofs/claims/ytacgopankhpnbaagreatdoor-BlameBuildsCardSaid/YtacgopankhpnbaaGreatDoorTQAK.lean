/- Texts of this seat, joined. -/
import Derived.Test.YtacgopankhpnbaaGreatDoorTQU
import Derived.Test.YtacgopankhpnbaaGreatDoorTQAI
import Derived.Test.YtacgopankhpnbaaGreatDoorTQAJ
set_option linter.unusedVariables false
set_option linter.unusedSimpArgs false
namespace Go.Proofs.YtacgopankhpnbaaGreatDoor
open Go.RowKit
theorem RunIs.later{res:Except Int (List Dn×bA)}{va:Value}{sa:bA}{ea:Int}{w w':World}(h:RunIs res va sa ea w)(hb:Below w.heap.size w w'):RunIs res va sa ea w':=by
 rcases h with h|⟨out,L,h1,h2,h3,h4⟩
 ·exact .inl h
 exact .inr ⟨out,L,h1,h2,h3.later hb,h4⟩
end Go.Proofs.YtacgopankhpnbaaGreatDoor
