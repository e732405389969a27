/- Texts of this seat, joined. -/
import Derived.Test.YtacgopankhpnbaaGreatDoorTQAU
import Derived.Test.YtacgopankhpnbaaGreatDoorTQAV
import Derived.Test.YtacgopankhpnbaaGreatDoorTQV
set_option maxRecDepth 100000
set_option linter.unusedVariables false
set_option linter.unusedSimpArgs false
namespace Go.Proofs.YtacgopankhpnbaaGreatDoor
open Go.ChangeShapes Go.WideShapes Go.ChangeAt Go.RowKit Go.Deep Go.Joins
theorem field_dns{H:Type}{enc:TypeId×Value->H}{W:World}{n:Nat}{v:Value}{y:DataW H×List MemPlace}(h:DataW.trod enc Tryz.prog W 0 (fun _=>true) true n 54 [v]=some y)(hz:(y.1.weights Tryz.prog 54).all (· <=reachBytes)=true):
  ∃l:List (Value×Dn),Dns W v l:=by
 obtain⟨l,a,c,hv,hr,-⟩:=open_row (α:=Value×Dn) (ec:=encDn) Tryz.underlying54 Tryz.underlying59 aAN aAN aAO h hz (fun vs ys k hl hf=>by
  match vs,hl with
  |[u0,u1,u2],_=>
   obtain⟨x0,y0,e0,t0,z0⟩:=hf 0 _ rfl;obtain⟨x1,y1,e1,t1,z1⟩:=hf 1 _ rfl;obtain⟨x2,y2,e2,t2,z2⟩:=hf 2 _ rfl;cases e0;cases e1;cases e2;obtain⟨i,rfl⟩:=field_int aAN t0;obtain⟨ls,hls⟩:=field_strs t1 z1;obtain⟨s,rfl,hs⟩:=mU aAN t2 z2
   exact⟨(u1,⟨i,ls,s⟩),rfl,hls,hs⟩)
 exact⟨l,hr⟩
theorem read_dns{H:Type}{enc:TypeId×Value->H}{W:World}{base:Nat}{v:Value}{d:DataW H}{p:List MemPlace}(GQ:Value.okWide Tryz.prog W .any base 54 v)(h:DataW.Trod enc Tryz.prog W 0 (fun _=>true) true 54 v d p)
  (hz:(d.weights Tryz.prog 54).all (· <=reachBytes)=true):∃L:List (Value×Dn),Dns W v L:=by
 obtain⟨a0,len,cap,rfl⟩:=okWide_slice Tryz.underlying54 GQ;obtain⟨n,h⟩:=h;exact field_dns (y:=(d,p)) h hz
end Go.Proofs.YtacgopankhpnbaaGreatDoor
