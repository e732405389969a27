/- Texts of this seat, joined. -/
import Derived.Test.YtacgopankhpnbaaGreatDoorKC
namespace Go.Proofs.YtacgopankhpnbaaGreatDoor
theorem twiceFrom_iff(r:Rcp):∀(n k:Nat),lH r k n=true↔∃j s,k<=j/\j<k+n/\r.steps[j]? =some s/\nN r j s.out=true
 |0,k=>by
  constructor
  ·intro h;cases h
  ·rintro⟨j,s,h1,h2,-⟩;omega
 |n+1,k=>by
  rw[lH,Bool.or_eq_true,twiceFrom_iff r n (k+1)];constructor
  ·rintro(h|⟨j,s,h1,h2,h3,h4⟩)
   ·cases hs:r.steps[k]? with
    |none=>rw[hs] at h;cases h
    |some s=>rw[hs] at h;exact⟨k,s,Nat.le_refl _,by omega,hs,h⟩
   ·exact⟨j,s,by omega,by omega,h3,h4⟩
  ·rintro⟨j,s,h1,h2,h3,h4⟩;by_cases e:j=k
   ·subst e;rw[h3];exact .inl h4
   ·exact .inr ⟨j,s,by omega,by omega,h3,h4⟩
theorem twice_iff(r:Rcp):twice r=true↔∃j s,r.steps[j]? =some s/\nN r j s.out=true:=by
 unfold twice;rw[twiceFrom_iff];constructor
 ·rintro⟨j,s,-,-,h3,h4⟩;exact⟨j,s,h3,h4⟩
 ·rintro⟨j,s,h3,h4⟩;exact⟨j,s,by omega,by have:=(List.getElem?_eq_some_iff.1 h3).1;omega,h3,h4⟩
section
variable {r:Rcp} (h:mH r) (h59:r.inputs.length+r.steps.length<60)
include h h59
omit h59 in
end
end Go.Proofs.YtacgopankhpnbaaGreatDoor
