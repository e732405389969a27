/- Texts of this seat, joined. -/
import Derived.Test.YtacgopankhpnbaaGreatDoorTQU
set_option linter.unusedVariables false
set_option linter.unusedSimpArgs false
namespace Go.Proofs.YtacgopankhpnbaaGreatDoor
theorem bent_wrong{C:bA->Int×bA}{r:Rcp}{ck od nx:List Int}{a:List Dn}{s:bA}(ha:mZ C r ck od nx=.ok (a,s)){k:Nat}{d:Dn}(hk:a[k]? =some d){i:Nat}{st:Stp}(hi:d.step=(i:Int))(hs:r.steps[i]? =some st)(hp:bZ st=true){o:bA}(ho:d.out≠o):
  nD C r (a.modify k (fun d=>⟨d.step,d.saw,o⟩))=if(bQ r (a.modify k (fun d=>⟨d.step,d.saw,o⟩))).isSome then some k else none:=by
 unfold nD;split
 ·rw[List.findIdx?_eq_some_iff_getElem];obtain⟨sE,he⟩:=List.getElem?_eq_some_iff.1 hk;refine⟨by rw[List.length_modify];exact sE,?_,fun j hj=>?_⟩
  ·rw[List.getElem_modify,if_pos rfl,he];obtain⟨i',st',h1,h2,-,-,h3⟩:=not_wrong ha d (List.mem_of_getElem? hk);(have e:i'=i:=by rw[hi] at h1;exact(Int.ofNat_inj.1 h1).symm);subst e;rw[hs] at h2;cases h2;unfold oN;dsimp only;rw[hi,Int.toNat_natCast,hs];simp only;rw[hp,h3 hp [] []];simpa using ho
  rw[List.getElem_modify,if_neg (by omega)];have hja:j<a.length:=by omega
  obtain⟨-,-,-,-,h,-⟩:=not_wrong ha a[j] (List.getElem_mem hja);rw[h];decide
 rfl
end Go.Proofs.YtacgopankhpnbaaGreatDoor
