/- Texts of this seat, joined. -/
import Derived.Test.YtacgopankhpnbaaGreatDoorLpLawB
namespace Go.Proofs.YtacgopankhpnbaaGreatDoor
theorem rightFrom_iff:∀(l:List Fil)(aO:List ByteArray),dN l aO=true↔(l.map (·.name)).Nodup/\∀f∈l,f.name∉aO/\fA f.name=true/\f.text.size<=65536
 |[],aO=>by simp[dN]
 |f::r,aO=>by
  rw[dN];have ih:=rightFrom_iff r (f.name::aO);split
  ·rename_i h;simp only[Bool.or_eq_true,List.any_eq_true,decide_eq_true_eq,Bool.not_eq_true'] at h;refine⟨fun h=>(by cases h),fun hh=>?_⟩;have h2:=hh.2;obtain⟨h3,h4,h5⟩:=h2 f (by simp);rcases h with(⟨x,hx,e⟩|h)|h
   ·subst e;exact absurd hx h3
   ·rw[h] at h4;cases h4
   ·omega
  ·rename_i h;simp only[Bool.or_eq_true,List.any_eq_true,decide_eq_true_eq,Bool.not_eq_true',not_or,not_exists,not_and,Bool.not_eq_false] at h;obtain⟨⟨h1,h2⟩,h3⟩:=h;rw[ih];simp only[List.map_cons,List.nodup_cons,List.mem_map,not_exists,not_and,List.mem_cons,forall_eq_or_imp,not_or];constructor
   ·rintro⟨hn,ha⟩;refine⟨⟨fun x hx e=>(ha x hx).1.1 e,hn⟩,⟨fun hk=>h1 _ hk rfl,h2,by omega⟩,fun x hx=>⟨(ha x hx).1.2,(ha x hx).2⟩⟩
   ·rintro⟨⟨hx,hn⟩,-,ha⟩;exact⟨hn,fun x hx'=>⟨⟨hx x hx',(ha x hx').1⟩,(ha x hx').2⟩⟩
theorem fM(l:List Fil):aR l=true↔((l.map (·.name)).Nodup/\∀f∈l,fA f.name=true/\f.text.size<=65536)/\l.length<=60:=by
 unfold aR;rw[Bool.and_eq_true,rightFrom_iff,decide_eq_true_eq];simp
theorem find_iff{l:List Fil}(hn:(l.map (·.name)).Nodup)(x t:ByteArray):aI l x=some t↔∃f∈l,f.name=x/\f.text=t:=by
 unfold aI
 induction l with
 |nil=>simp
 |cons g l ih=>
  simp only[List.map_cons,List.nodup_cons] at hn;rw[List.find?_cons];by_cases hg:g.name=x
  ·rw[show decide (g.name=x)=true from decide_eq_true hg];simp only[Option.map_some,Option.some.injEq];constructor
   ·intro e;exact⟨g,by simp,hg,e⟩
   ·rintro⟨f,hf,hfx,e⟩;rcases List.mem_cons.1 hf with rfl|hf
    ·exact e
    ·exact absurd (List.mem_map.2 ⟨f,hf,hfx.trans hg.symm⟩) hn.1
  ·rw[show decide (g.name=x)=false from decide_eq_false hg];simp only;rw[ih hn.2];constructor
   ·rintro⟨f,hf,h⟩;exact⟨f,by simp[hf],h⟩
   ·rintro⟨f,hf,h⟩;rcases List.mem_cons.1 hf with rfl|hf
    ·exact absurd h.1 hg
    ·exact⟨f,hf,h⟩
theorem less_saw{files l2:List Fil}:∀{src:List ByteArray},(∀x∈src,aI l2 x=aI files x)->eT l2 src=eT files src
 |[],_=>rfl
 |x::r,h=>by
  rw[eT,eT,h x (by simp),less_saw (fun y hy=>h y (by simp[hy]))]
end Go.Proofs.YtacgopankhpnbaaGreatDoor
