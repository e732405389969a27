/- Texts of this seat, joined. -/
import Derived.Test.YtmpopphjaggeoaaGreatDoorCardB
import Derived.Lib.SmallJoins
set_option linter.unusedVariables false
set_option linter.unusedSimpArgs false
set_option linter.constructorNameAsVariable false
namespace Go.Proofs.YtmpopphjaggeoaaGreatDoor
open Go.ChangeShapes Go.WideShapes Go.ChangeAt Go.RowKit Go.Deep
section
variable {H:Type} {enc:TypeId×Value->H} {P:Program} {w:World} {base:Nat} {spare:Nat->Bool} {held:Bool}
end
section
variable {H:Type} {enc:TypeId×Value->H} {P:Program} {w:World}
theorem weightsEach_at:∀{ts:List TypeId}{ds:List (DataW H)}{j:Nat}{t:TypeId}{d:DataW H},(DataW.weightsEach P ts ds).all (· <=reachBytes)=true->ts[j]? =some t->ds[j]? =some d->(d.weights P t).all (· <=reachBytes)=true
 |[],_,j,_,_,_,h,_=>EY
 |_::_,[],j,_,_,_,_,h=>EY
 |t::ts,d::ds,j,t',d',h,h1,h2=>by
  simp only[DataW.weightsEach,List.all_append,Bool.and_eq_true] at h
  cases j with
  |zero=>simp at h1 h2;subst h1 h2;exact h.1
  |succ j=>exact weightsEach_at h.2 (by simpa using h1) (by simpa using h2)
theorem weights_agg{t:TypeId}{fs:Array Field}{ys:List (DataW H×List MemPlace)}(he:P.underlying t=some (.struct fs))(h:((DataW.agg (ys.map (·.1)):DataW H).weights P t).all (· <=reachBytes)=true){j:Nat}{f:Field}{y:DataW H×List MemPlace}
  (hf:fs[j]? =some f) (hy:ys[j]? =some y):(y.1.weights P f.type).all (· <=reachBytes)=true:=by
 rw[DataW.weights,he] at h;exact weightsEach_at h (j:=j) (by rw[List.getElem?_map,Array.getElem?_toList,hf];rfl) (by rw[List.getElem?_map,hy];rfl)
theorem weightsAll_each{e:TypeId}:∀{xs:List (DataW H)}{x:DataW H},(DataW.weightsAll P e xs).all (· <=reachBytes)=true->x∈xs->(x.weights P e).all (· <=reachBytes)=true
 |[],_,_,h=>D3
 |y::ys,x,h,hx=>by
  rw[DataW.weightsAll,List.all_append,Bool.and_eq_true] at h;rcases List.mem_cons.1 hx with rfl|hx
  ·exact h.1
  exact weightsAll_each h.2 hx
end
end Go.Proofs.YtmpopphjaggeoaaGreatDoor
