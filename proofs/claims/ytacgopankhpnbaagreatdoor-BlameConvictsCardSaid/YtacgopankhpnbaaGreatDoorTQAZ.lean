/- -/
import Derived.Test.YtacgopankhpnbaaGreatDoorTQAY
import Derived.Test.YtacgopankhpnbaaGreatDoorTQAO
set_option linter.unusedVariables false
set_option linter.unusedSimpArgs false
namespace Go.Proofs.YtacgopankhpnbaaGreatDoor
open Go.RowKit
theorem fils_at{w:World}{v:Value}{l:List Fil}(h:jZ w v l):∃a c,v=.slice a l.length c/\l.length<=9223372036854775807/\∀i f,l[i]? =some f->∃b o,a=some ⟨b,o,none⟩/\w.cell? ⟨b,o+i*2,none⟩=some (.string f.name)/\w.cell? ⟨b,o+i*2+1,none⟩=some (.string f.text)/\f.name.size<=140737488355328/\f.text.size<=140737488355328:=by
 have hh:=h;obtain⟨a,c,hv,h1,h2,-⟩:=hh;refine⟨a,c,hv,aAM,fun i f hf=>?_⟩;rcases h.cases with⟨rfl,-⟩|⟨b,o,c',e,-,-,-,-,hc⟩
 ·simp at hf
 rw[hv] at e;cases e;obtain⟨h1,h2,h3⟩:=hc i f hf;exact⟨b,o,rfl,h1,h2,h3⟩
theorem ints_at{w:World}{v:Value}{l:List Int}(h:hJ w v l):∃a c,v=.slice a l.length c/\l.length<=9223372036854775807/\∀i x,l[i]? =some x->∃b o,a=some ⟨b,o,none⟩/\w.cell? ⟨b,o+i,none⟩=some (.int .i64 x):=by
 have hh:=h;obtain⟨a,c,hv,h1,h2,-⟩:=hh;refine⟨a,c,hv,aAM,fun i x hx=>?_⟩;rcases h.cases with⟨rfl,-⟩|⟨b,o,c',e,-,-,-,-,hc⟩
 ·simp at hx
 rw[hv] at e;cases e;exact⟨b,o,rfl,hc i x hx⟩
end Go.Proofs.YtacgopankhpnbaaGreatDoor
