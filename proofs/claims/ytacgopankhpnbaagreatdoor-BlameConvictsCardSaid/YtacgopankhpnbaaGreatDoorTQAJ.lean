/- Texts of this seat, joined. -/
import Derived.Test.YtacgopankhpnbaaGreatDoorTQD
set_option linter.unusedVariables false
set_option linter.unusedSimpArgs false
namespace Go.Proofs.YtacgopankhpnbaaGreatDoor
theorem input_find{l:List Fil}{x:bA}(h:kY l x=true):∃t,aI l x=some t:=by
 unfold kY at h;unfold aI;obtain⟨f,hf,e⟩:=List.any_eq_true.1 h
 cases A2:l.find? (fun f=>decide (f.name=x)) with
 |none=>exact absurd e (List.find?_eq_none.1 A2 f hf)
 |some g=>exact⟨g.text,rfl⟩
theorem known_input{r:Rcp}{x:bA}(h:known r x=true)(hw:aK r.steps x=none):∃t,aI r.inputs x=some t:=by
 unfold known at h;rw[hw] at h;exact input_find (by simpa using h)
end Go.Proofs.YtacgopankhpnbaaGreatDoor
