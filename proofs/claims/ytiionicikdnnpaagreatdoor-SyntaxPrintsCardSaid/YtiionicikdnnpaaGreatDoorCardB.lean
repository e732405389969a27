/- Texts of this seat, joined. -/
import Derived.Test.YtiionicikdnnpaaGreatDoorCardA
import Derived.Deep.Strs
set_option maxRecDepth 100000
set_option linter.unusedVariables false
set_option linter.unusedSimpArgs false
set_option linter.constructorNameAsVariable false
namespace Go.Proofs.YtiionicikdnnpaaGreatDoor
open Go.ChangeShapes Go.WideShapes Go.ChangeAt Go.RowKit
theorem laidOut:laidOutB Tryz.prog=true:=by kernel_rfl
def ReadAll(ts:List TypeId):Prop:=∀t,t∈ts->Tryz.prog.readableRec t=true/\t<Tryz.prog.types.size
theorem trodAll_below{H:Type}{enc:TypeId×Value->H}{W W':World}(hb:Below W.heap.size W W'):
  ∀{ts:List TypeId}{vs:List Value}{ds:List (DataW H)}{ps:List MemPlace},ReadAll ts->
   DataW.TrodAll enc Tryz.prog W 0 (fun _=>true) true ts vs ds ps->(∀x∈ps,x.block<W.heap.size)->DataW.TrodAll enc Tryz.prog W' 0 (fun b=>decide (b<W.heap.size)) true ts vs ds ps
 |[],[],[],_,_,h,_=>h
 |t::ts,v::vs,d::ds,ps,hr,h,pS=>by
  obtain⟨p,q,h1,h2,e⟩:=h;have O3:=hr t List.mem_cons_self;exact⟨p,q,Below.trod laidOut O3.1 O3.2 h1 hb (fun x hx=>pS x (by rw[e];exact List.mem_append_left _ hx)),trodAll_below hb (fun t ht=>hr t (List.mem_cons_of_mem _ ht)) h2 (fun x hx=>pS x (by rw[e];exact List.mem_append_right _ hx)),e⟩
 |[],[],_::_,_,_,h,_=>h.elim
 |[],_::_,_,_,_,h,_=>by unfold DataW.TrodAll at h;exact h.elim
 |_::_,[],_,_,_,h,_=>by unfold DataW.TrodAll at h;exact h.elim
 |_::_,_::_,[],_,_,h,_=>h.elim
theorem law_post{H:Type}{enc:TypeId×Value->H}{fn:Func}{s:ChangeSpec}{W W':World}{args:Array Value}{ds gs:List (DataW H)}{before:List MemPlace}
  (hW:DataW.Whole enc Tryz.prog fn.params.toList s.vars false W args.toList ds gs before) (hv:s.vars=[]) (hres:fn.resultTypes=#[4]) (hread:ReadAll fn.params.toList)
  (h1:(s.fn H (ds++gs)).results=[.lit (.bool true)]) (h2:(s.fn H (ds++gs)).args=ds) (h3:(s.fn H (ds++gs)).vars=[]) (hb:Below W.heap.size W W'):
  s.post enc Tryz.prog fn false true false false W args (.bool true) W':=by
 have hW':=hW;obtain⟨p,q,hA,hV,rfl,-,-⟩:=hW';have hV':DataW.TrodVars enc Tryz.prog W (fun _=>true) [] gs q:=by rw[<-hv];exact hV
 obtain⟨rfl,rfl⟩:=trodVars_none hV';have pS:∀x∈p,x.block<W.heap.size:=fun x hx=>hW.lt x (by simp[hx]);refine⟨ds,[],p++[],[],p,[],hW,?_,?_,?_,World.keptBut_mono (fun x hx=>⟨hx,.inr (.inl (by simpa using hx))⟩) (hb.frame (· ∈p++[])),fun h=>by cases h⟩
 ·rw[h1,hres];exact trodAll_mk1 (shut_bool Tryz.underlying4 _)
 ·rw[h2];exact trodAll_below hb hread hA pS
 rw[hv,h3];rfl
theorem weights_cut{H:Type}{ts us:List TypeId}{ds:List (DataW H)}(h:(DataW.weightsEach Tryz.prog (ts++us) (ds++[])).all (· <=reachBytes)=true):(DataW.weightsEach Tryz.prog (ts++us) ds).all (· <=reachBytes)=true:=by
 rw[List.append_nil] at h;exact h
theorem weights_2{H:Type}{t0 t1:TypeId}{us:List TypeId}{d0 d1:DataW H}(h:(DataW.weightsEach Tryz.prog ([t0,t1]++us) [d0,d1]).all (· <=reachBytes)=true):
  (d0.weights Tryz.prog t0).all (· <=reachBytes)=true/\(d1.weights Tryz.prog t1).all (· <=reachBytes)=true:=by
 simp only[List.cons_append,DataW.weightsEach,List.all_append,Bool.and_eq_true] at h;exact⟨h.1,h.2.1⟩
theorem witness_shaped{H:Type}{enc:TypeId×Value->H}{os:Os}{f:FuncId}{fn:Func}{s:OpenSpec}{conds:List PathCond}{apart:Bool}{laid:List (String×DataW Unit)}(w0:World)(args:Array Value)(hos:w0.os=os)
  (hv:(w0.forCall (fun _ _=>0) ⟨#[],args,[]⟩).Shaped Tryz.prog) (DK:Input.okWideB Tryz.prog (w0.forCall (fun _ _=>0) ⟨#[],args,[]⟩) f ⟨#[],args,[]⟩=true)
  (sN:s.preRow enc Tryz.prog fn conds apart laid (w0.forCall (fun _ _=>0) ⟨#[],args,[]⟩).memory args):
  ∃(w:World)(tape:Tape)(i:Input),w.os=os/\(w.forCall tape i).Shaped Tryz.prog/\i.vars=[]/\Input.okWide Tryz.prog (w.forCall tape i) .any w.heap.size f i/\
   s.preRow enc Tryz.prog fn conds apart laid (w.forCall tape i).memory i.args/\({}:Assume).holds Tryz.prog (lone (Frame.enter Tryz.prog f i.args .normal) [] (w.forCall tape i)):=
 ⟨w0,fun _ _=>0,⟨#[],args,[]⟩,hos,hv,(Input.okWide_of_okWideB (base:=0) DK).1,(Input.okWide_of_okWideB DK).2,sN,by simp[Assume.holds]⟩
end Go.Proofs.YtiionicikdnnpaaGreatDoor
