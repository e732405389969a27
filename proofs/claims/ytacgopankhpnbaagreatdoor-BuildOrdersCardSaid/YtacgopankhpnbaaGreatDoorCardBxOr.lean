/- Texts of this seat, joined. -/
import Derived.Test.YtacgopankhpnbaaGreatDoorCardB
namespace Go.Proofs.YtacgopankhpnbaaGreatDoor
open Go.ChangeShapes Go.WideShapes Go.ChangeAt Go.RowKit
theorem weights_2{H:Type}{t0 t1:TypeId}{us:List TypeId}{d0 d1:DataW H}(h:(DataW.weightsEach Tryz.prog ([t0,t1]++us) [d0,d1]).all (· <=reachBytes)=true):
  (d0.weights Tryz.prog t0).all (· <=reachBytes)=true/\(d1.weights Tryz.prog t1).all (· <=reachBytes)=true:=by
 simp only[List.cons_append,DataW.weightsEach,List.all_append,Bool.and_eq_true] at h;exact⟨h.1,h.2.1⟩
end Go.Proofs.YtacgopankhpnbaaGreatDoor
