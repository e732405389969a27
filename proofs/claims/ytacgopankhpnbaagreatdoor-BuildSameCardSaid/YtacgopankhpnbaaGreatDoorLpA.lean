/- Texts of this seat, joined. -/
import Derived.Test.YtacgopankhpnbaaGreatDoorKY
import Derived.Test.YtacgopankhpnbaaGreatDoorKAJ
set_option linter.unusedVariables false
set_option linter.unusedSimpArgs false
namespace Go.Proofs.YtacgopankhpnbaaGreatDoor
open Go.RowKit
theorem iV{w:World}{v:Value}{l:List ByteArray}(h:Strs w v l):∃a c,v=.slice a l.length c/\l.length<=9223372036854775807/\∀i x,l[i]? =some x->∃b o,a=some ⟨b,o,none⟩/\w.cell? ⟨b,o+i,none⟩=some (.string x)/\x.size<=140737488355328:=by
 have hh:=h;obtain⟨a,c,hv,h1,h2,-⟩:=hh;refine⟨a,c,hv,vT,fun i x hx=>?_⟩;rcases h.cases with⟨rfl,-⟩|⟨b,o,c',e,-,-,-,-,hc⟩
 ·simp at hx
 ·rw[hv] at e;cases e;obtain⟨h1,h2⟩:=hc i x hx;exact⟨b,o,rfl,h1,h2⟩
end Go.Proofs.YtacgopankhpnbaaGreatDoor
