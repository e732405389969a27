/- Texts of this seat, joined. -/
import Derived.Test.YtiionicikdnnpaaGreatDoorShelf
import Derived.Test.YtiionicikdnnpaaGreatDoorNH
set_option linter.unusedVariables false
set_option linter.unusedSimpArgs false
namespace Go.Proofs.YtiionicikdnnpaaGreatDoor
open Go.RowKit
def filCells(l:List Fil):List Value:=l.flatMap fun f=>[.string f.name,.string f.text]
theorem filCells_at(l:List Fil)(i:Nat)(f:Fil)(h:l[i]? =some f):(filCells l)[i*2]? =some (.string f.name)/\(filCells l)[i*2+1]? =some (.string f.text):=by
 induction l generalizing i with
 |nil=>simp at h
 |cons g l ih=>
  rw[show filCells (g::l)=.string g.name:: .string g.text::filCells l from rfl]
  match i,h with
  |0,h=>simp at h;subst h;exact⟨rfl,rfl⟩
  |i+1,h=>
   have:=ih i TR;rw[show(i+1)*2=i*2+1+1 by omega];simpa using this
end Go.Proofs.YtiionicikdnnpaaGreatDoor
