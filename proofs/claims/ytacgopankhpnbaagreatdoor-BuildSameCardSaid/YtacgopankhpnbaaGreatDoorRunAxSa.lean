/- Texts of this seat, joined. -/
import Derived.Test.YtacgopankhpnbaaGreatDoorKS
import Derived.Test.YtacgopankhpnbaaGreatDoorRefuseLawxSa
namespace Go.Proofs.YtacgopankhpnbaaGreatDoor
open Go.RowKit
theorem Dns.later{w w':World}{v:Value}{l:List (Value×Dn)}(hb:Below w.heap.size w w')(h:Dns w v l):Dns w' v l:=
 Row.later hb (fun _ _ h=>⟨h.1,h.2.1.later hb,h.2.2⟩) h
section
variable {len:Nat} {wb:World} {done:Nat->Bool} {out:List (Value×Dn)} {files:List Fil} {u0 u1:Int} {v9 v12:Value} {wr:World}
end
section
variable {C:ByteArray->Int×ByteArray} {r:Rcp} {clock order next:List Int} {len:Nat} {done:Nat->Bool} {out:List (Value×Dn)} {files:List Fil} {u0 u1:Int}
end
end Go.Proofs.YtacgopankhpnbaaGreatDoor
