/- Texts of this seat, joined. -/
import Derived.Test.YtacgopankhpnbaaGreatDoorTQU
import Derived.Test.YtacgopankhpnbaaGreatDoorTQV
set_option linter.unusedVariables false
set_option linter.unusedSimpArgs false
namespace Go.Proofs.YtacgopankhpnbaaGreatDoor
open Go.ChangeShapes Go.WideShapes Go.ChangeAt Go.RowKit Go.Deep Go.Joins
theorem weights_4{H:Type}{t0 t1 t2 t3:TypeId}{us:List TypeId}{d0 d1 d2 d3:DataW H}(h:(DataW.weightsEach Tryz.prog ([t0,t1,t2,t3]++us) [d0,d1,d2,d3]).all (· <=reachBytes)=true):
  (d0.weights Tryz.prog t0).all (· <=reachBytes)=true/\(d1.weights Tryz.prog t1).all (· <=reachBytes)=true/\(d2.weights Tryz.prog t2).all (· <=reachBytes)=true/\(d3.weights Tryz.prog t3).all (· <=reachBytes)=true:=by
 simp only[List.cons_append,DataW.weightsEach,List.all_append,Bool.and_eq_true] at h;exact⟨h.1,h.2.1,h.2.2.1,h.2.2.2.1⟩
end Go.Proofs.YtacgopankhpnbaaGreatDoor
