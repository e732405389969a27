/- Texts of this seat, joined. -/
import Derived.Test.YtacgopankhpnbaaGreatDoorTQH
import Derived.Test.YtacgopankhpnbaaGreatDoorTQS
set_option maxRecDepth 100000
set_option linter.unusedVariables false
set_option linter.unusedSimpArgs false
namespace Go.Proofs.YtacgopankhpnbaaGreatDoor
open Go.ChangeShapes Go.WideShapes Go.ChangeAt Go.RowKit Go.Deep Go.Joins
section
variable {H:Type} {enc:TypeId×Value->H} {W:World}
theorem form_of{n:Nat}{t e:TypeId}{v:Value}{y:DataW H×List MemPlace}(ht:Tryz.prog.underlying t=some (.slice e))(h:DataW.trod enc Tryz.prog W 0 (fun _=>true) true n t [v]=some y):∃a n c,v=.slice a n c:=by
 rcases open_slice ht h with⟨wC,-⟩|⟨a,len,cap,m,k,D,Pl,wC,-⟩
 ·exact⟨none,0,0,aCv⟩
 exact⟨some a,len,cap,aCv⟩
theorem field_ints{n:Nat}{v:Value}{y:DataW H×List MemPlace}(h:DataW.trod enc Tryz.prog W 0 (fun _=>true) true n 26 [v]=some y)(hz:(y.1.weights Tryz.prog 26).all (· <=reachBytes)=true):
  ∃l:List Int,hJ W v l/\l.length<=140737488355328/\∀x,x∈l->(Lit.int .i64 x).wf=true:=by
 obtain⟨a0,n0,c0,rfl⟩:=form_of Tryz.underlying26 h;obtain⟨l,a,b,o,c,e,h1,-,h2,h3⟩:=read_ints_form (d:=y.1) (p:=y.2) ⟨a0,n0,c0,rfl⟩ ⟨n,h⟩ hz;exact⟨l,by rw[e];exact h1,h2,h3⟩
theorem field_strs{n:Nat}{v:Value}{y:DataW H×List MemPlace}(h:DataW.trod enc Tryz.prog W 0 (fun _=>true) true n 22 [v]=some y)(hz:(y.1.weights Tryz.prog 22).all (· <=reachBytes)=true):
  ∃l:List bA,Strs W v l:=by
 obtain⟨a0,n0,c0,rfl⟩:=form_of Tryz.underlying22 h;obtain⟨l,a,b,o,c,e,h1,-⟩:=read_strs_form (d:=y.1) (p:=y.2) ⟨a0,n0,c0,rfl⟩ ⟨n,h⟩ hz;exact⟨l,by rw[e];exact h1⟩
theorem mU{n:Nat}{t:TypeId}{v:Value}{y:DataW H×List MemPlace}(ht:Tryz.prog.underlying t=some .string)(h:DataW.trod enc Tryz.prog W 0 (fun _=>true) true n t [v]=some y)(hz:(y.1.weights Tryz.prog t).all (· <=reachBytes)=true):
  ∃s:bA,v=.string s/\s.size<=140737488355328:=by
 obtain⟨s,wC,hy,hm⟩:=DataW.trod_string ht h;obtain rfl:v=.string s:=aCv;subst hy;have hr:=reach_le;simp[DataW.weights] at hz;exact⟨s,rfl,aAM⟩
theorem field_int{n:Nat}{t:TypeId}{v:Value}{y:DataW H×List MemPlace}(ht:Tryz.prog.underlying t=some (.int .i64))(h:DataW.trod enc Tryz.prog W 0 (fun _=>true) true n t [v]=some y):∃x:Int,v=.int .i64 x:=by
 obtain⟨x,wC,-⟩:=DataW.trod_int ht h;exact⟨x,aCv⟩
theorem field_bool{n:Nat}{t:TypeId}{v:Value}{y:DataW H×List MemPlace}(ht:Tryz.prog.underlying t=some .bool)(h:DataW.trod enc Tryz.prog W 0 (fun _=>true) true n t [v]=some y):∃x:Bool,v=.bool x:=by
 obtain⟨x,wC,-⟩:=DataW.trod_bool ht h;exact⟨x,aCv⟩
theorem field_fils{n:Nat}{v:Value}{y:DataW H×List MemPlace}(h:DataW.trod enc Tryz.prog W 0 (fun _=>true) true n 25 [v]=some y)(hz:(y.1.weights Tryz.prog 25).all (· <=reachBytes)=true):
  ∃l:List Fil,jZ W v l:=by
 obtain⟨l,a,c,hv,hr,-⟩:=open_row (α:=Fil) (ec:=encFil) Tryz.underlying25 Tryz.underlying40 aAN aAN aAO h hz (fun vs ys k hl hf=>by
  match vs,hl with
  |[u0,u1],_=>
   obtain⟨x0,y0,e0,t0,z0⟩:=hf 0 _ rfl;obtain⟨x1,y1,e1,t1,z1⟩:=hf 1 _ rfl;cases e0;cases e1;obtain⟨s0,rfl,h0⟩:=mU aAN t0 z0;obtain⟨s1,rfl,h1⟩:=mU aAN t1 z1
   exact⟨⟨s0,s1⟩,rfl,h0,h1⟩)
 exact⟨l,hr⟩
theorem field_stps{n:Nat}{v:Value}{y:DataW H×List MemPlace}(h:DataW.trod enc Tryz.prog W 0 (fun _=>true) true n 49 [v]=some y)(hz:(y.1.weights Tryz.prog 49).all (· <=reachBytes)=true):
  ∃l:List (Value×Stp),pZ W v l:=by
 obtain⟨l,a,c,hv,hr,-⟩:=open_row (α:=Value×Stp) (ec:=encStp) Tryz.underlying49 Tryz.underlying24 aAN aAN aAO h hz (fun vs ys k hl hf=>by
  match vs,hl with
  |[u0,u1,u2,u3],_=>
   obtain⟨x0,y0,e0,t0,z0⟩:=hf 0 _ rfl;obtain⟨x1,y1,e1,t1,z1⟩:=hf 1 _ rfl;obtain⟨x2,y2,e2,t2,z2⟩:=hf 2 _ rfl;obtain⟨x3,y3,e3,t3,z3⟩:=hf 3 _ rfl;cases e0;cases e1;cases e2;cases e3;obtain⟨i,rfl⟩:=field_int aAN t0;obtain⟨ls,hls⟩:=field_strs t1 z1;obtain⟨s,rfl,hs⟩:=mU aAN t2 z2;obtain⟨q,rfl⟩:=field_bool aAN t3
   exact⟨(u1,⟨i,ls,s,q⟩),rfl,hls,hs⟩)
 exact⟨l,hr⟩
end
theorem read_rcp{H:Type}{enc:TypeId×Value->H}{W:World}{base:Nat}{v:Value}{d:DataW H}{p:List MemPlace}(GQ:Value.okWide Tryz.prog W .any base 51 v)(h:DataW.Trod enc Tryz.prog W 0 (fun _=>true) true 51 v d p)
  (hz:(d.weights Tryz.prog 51).all (· <=reachBytes)=true):∃(r:Rcp)(L:List (Value×Stp))(vi vs:Value),v=jD vi vs r.output/\dR r L vi vs W:=by
 obtain⟨v0,v1,v2,y0,y1,y2,n,rfl,rfl,-,h0,h1,h2⟩:=open_agg3 Tryz.underlying51 aAN aAN GQ h;rw[DataW.weights,Tryz.underlying51] at hz;obtain⟨fl,hf⟩:=field_fils h0 (fP hz (j:=0) rfl rfl);obtain⟨L,hL⟩:=field_stps h1 (fP hz (j:=1) rfl rfl);obtain⟨o,rfl,ho⟩:=mU aAN h2 (fP hz (j:=2) rfl rfl);exact⟨⟨fl,L.map (·.2),o⟩,L,v0,v1,rfl,hf,hL,rfl,ho⟩
theorem read_wld{H:Type}{enc:TypeId×Value->H}{W:World}{base:Nat}{v:Value}{d:DataW H}{p:List MemPlace}(GQ:Value.okWide Tryz.prog W .any base 28 v)(h:DataW.Trod enc Tryz.prog W 0 (fun _=>true) true 28 v d p)
  (hz:(d.weights Tryz.prog 28).all (· <=reachBytes)=true):∃(clock order next:List Int)(vc vo vn:Value),v=.agg #[vc,vo,vn]/\nC clock order next vc vo vn W:=by
 obtain⟨v0,v1,v2,y0,y1,y2,n,rfl,rfl,-,h0,h1,h2⟩:=open_agg3 Tryz.underlying28 aAN aAN GQ h;rw[DataW.weights,Tryz.underlying28] at hz;obtain⟨l0,a0,-,b0⟩:=field_ints h0 (fP hz (j:=0) rfl rfl);obtain⟨l1,a1,-,b1⟩:=field_ints h1 (fP hz (j:=1) rfl rfl);obtain⟨l2,a2,-,b2⟩:=field_ints h2 (fP hz (j:=2) rfl rfl);exact⟨l0,l1,l2,v0,v1,v2,rfl,a0,a1,a2,b0,b1,b2⟩
end Go.Proofs.YtacgopankhpnbaaGreatDoor
