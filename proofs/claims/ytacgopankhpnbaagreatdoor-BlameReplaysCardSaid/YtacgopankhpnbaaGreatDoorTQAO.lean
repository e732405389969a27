/- -/
import Derived.Test.YtacgopankhpnbaaGreatDoorTQAI
set_option linter.unusedVariables false
set_option linter.unusedSimpArgs false
namespace Go.Proofs.YtacgopankhpnbaaGreatDoor
open Go.RowKit
theorem dns_at{w:World}{v:Value}{l:List (Value×Dn)}(h:Dns w v l):∃a c,v=.slice a l.length c/\l.length<=9223372036854775807/\∀i y,l[i]? =some y->∃b o,a=some ⟨b,o,none⟩/\w.cell? ⟨b,o+i*3,none⟩=some (.int .i64 y.2.step)/\w.cell? ⟨b,o+i*3+1,none⟩=some y.1/\w.cell? ⟨b,o+i*3+2,none⟩=some (.string y.2.out)/\Strs w y.1 y.2.saw/\y.2.out.size<=140737488355328:=by
 exact ZQ
end Go.Proofs.YtacgopankhpnbaaGreatDoor
