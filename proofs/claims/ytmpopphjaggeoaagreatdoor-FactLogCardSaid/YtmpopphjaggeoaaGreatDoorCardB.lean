/- Texts of this seat, joined. -/
import Derived.Test.YtmpopphjaggeoaaGreatDoorCardA
import Derived.Deep.Strs
set_option maxRecDepth 100000
set_option linter.unusedVariables false
set_option linter.unusedSimpArgs false
set_option linter.constructorNameAsVariable false
namespace Go.Proofs.YtmpopphjaggeoaaGreatDoor
open Go.ChangeShapes Go.WideShapes Go.ChangeAt Go.RowKit
theorem CD{p:Prop}(h:p:=by
 intro kQ;have nZ:len≠0:=fun e=>kQ (by simp[e]);have hs:=hplain.resolve_left nZ;obtain⟨b,o,s⟩:=a;obtain rfl:s=none:=hs
 rfl):p:=h
theorem CM{p:Prop}(h:p:=by
 cases hs:a.spot with
 |none=>rfl
 |some y=>simp[World.cell?,Addr.add,hs] at this;split at this<;>simp at this):p:=h
theorem laidOut:laidOutB Tryz.prog=true:=CQ
def ReadAll(ts:List TypeId):Prop:=∀t,t∈ts->Tryz.prog.readableRec t=true/\t<Tryz.prog.types.size
theorem trodAll_below{H:Type}{enc:TypeId×Value->H}{W W':World}(hb:Below W.heap.size W W'):
  ∀{ts:List TypeId}{vs:List Value}{ds:List (DataW H)}{ps:List MemPlace},ReadAll ts->
   DataW.TrodAll enc Tryz.prog W 0 (fun _=>true) true ts vs ds ps->(∀x∈ps,x.block<W.heap.size)->DataW.TrodAll enc Tryz.prog W' 0 (fun b=>decide (b<W.heap.size)) true ts vs ds ps
 |[],[],[],_,_,h,_=>h
 |t::ts,v::vs,d::ds,ps,hr,h,jM=>by
  obtain⟨p,q,h1,h2,e⟩:=h;have hr0:=hr t List.mem_cons_self;exact⟨p,q,Below.trod laidOut hr0.1 hr0.2 h1 hb (fun x hx=>jM x (by rw[e];exact List.mem_append_left _ hx)),trodAll_below hb (fun t ht=>hr t (List.mem_cons_of_mem _ ht)) h2 (fun x hx=>jM x (by rw[e];exact List.mem_append_right _ hx)),e⟩
 |[],[],_::_,_,_,h,_=>h.elim
 |[],_::_,_,_,_,h,_=>by unfold DataW.TrodAll at h;exact h.elim
 |_::_,[],_,_,_,h,_=>by unfold DataW.TrodAll at h;exact h.elim
 |_::_,_::_,[],_,_,h,_=>h.elim
theorem law_post{H:Type}{enc:TypeId×Value->H}{fn:Func}{s:ChangeSpec}{W W':World}{args:Array Value}{ds gs:List (DataW H)}{before:List MemPlace}
  (hW:DataW.Whole enc Tryz.prog fn.params.toList s.vars false W args.toList ds gs before) (hv:s.vars=[]) (yY:fn.resultTypes=#[4]) (hread:ReadAll fn.params.toList)
  (h1:(s.fn H (ds++gs)).results=[.lit (.bool true)]) (h2:(s.fn H (ds++gs)).args=ds) (h3:(s.fn H (ds++gs)).vars=[]) (hb:Below W.heap.size W W'):
  s.post enc Tryz.prog fn false true false false W args (.bool true) W':=by
 have hW':=hW;obtain⟨p,q,hA,hV,rfl,-,-⟩:=hW';have hV':DataW.TrodVars enc Tryz.prog W (fun _=>true) [] gs q:=by rw[<-hv];exact hV
 obtain⟨rfl,rfl⟩:=trodVars_none hV';have jM:∀x∈p,x.block<W.heap.size:=fun x hx=>hW.lt x (by simp[hx]);refine⟨ds,[],p++[],[],p,[],hW,?_,?_,?_,World.keptBut_mono (fun x hx=>⟨hx,.inr (.inl (by simpa using hx))⟩) (hb.frame (· ∈p++[])),fun h=>D3⟩
 ·rw[h1,yY];exact trodAll_mk1 (shut_bool Tryz.underlying4 _)
 ·rw[h2];exact trodAll_below hb hread hA jM
 rw[hv,h3];rfl
theorem weightsAll_mem{H:Type}{e:TypeId}{xs:List (DataW H)}{x:DataW H}{n:Nat}(h:(DataW.weightsAll Tryz.prog e xs).all (· <=reachBytes)=true)(hx:x∈xs)(hn:n∈x.weights Tryz.prog e):n<=reachBytes:=by
 induction xs with
 |nil=>cases hx
 |cons y ys ih=>
  rw[DataW.weightsAll,List.all_append,Bool.and_eq_true] at h;rcases List.mem_cons.1 hx with rfl|hx
  ·have:=List.all_eq_true.1 h.1 n hn;simpa using this
  exact ih h.2 hx
theorem reach_le:reachBytes<=140737488355328:=CV
theorem read_strs_form{H:Type}{enc:TypeId×Value->H}{W:World}{v:Value}{d:DataW H}{p:List MemPlace}(kO:∃a n c,v=.slice a n c)(h:DataW.Trod enc Tryz.prog W 0 (fun _=>true) true 26 v d p)
  (hz:(d.weights Tryz.prog 26).all (· <=reachBytes)=true):
  ∃(l:List bA)(a:Option Addr)(b o c:Nat),v=.slice a l.length c/\Strs W (.slice a l.length c) l/\(l≠[]->a=some ⟨b,o,none⟩)/\l.length<=140737488355328:=by
 obtain⟨a0,len,cap,rfl⟩:=kO;obtain⟨fuel,hf⟩:=h;rcases Go.Deep.open_strs Tryz.underlying26 Tryz.underlying9 CQ hf with⟨oX,-⟩|⟨a,len',cap',m,Sx,oX,-,hl,hm,hmm,hx,kP⟩
 ·simp[Value.cells] at oX;obtain⟨rfl,rfl,rfl⟩:=oX;exact⟨[],none,0,0,0,rfl,⟨none,0,rfl,C0,C0,fun h=>absurd rfl h⟩,fun h=>absurd rfl h,C0⟩
 simp[Value.cells] at oX;obtain⟨e1,e2,e3⟩:=oX;subst e1 e2 e3;simp only[if_true] at hmm;subst hmm;simp only[Prod.mk.injEq] at hx;obtain⟨rfl,-⟩:=hx;rw[DataW.weights,Tryz.underlying26] at hz;simp only[List.all_cons,List.all_append,Bool.and_eq_true,decide_eq_true_eq,List.length_map,List.length_range] at hz;obtain⟨lF,nO,-⟩:=hz;have wM:Tryz.prog.bytesOf 9=16:=CQ;rw[wM] at lF;have hr:=reach_le
 have mO:∀i,i<len->(Sx i).size<=140737488355328:=fun i hi=>by
  have:=weightsAll_mem (n:=(Sx i).data.toList.length) nO (List.mem_map.2 ⟨i,List.mem_range.2 hi,rfl⟩) (by simp[DataW.weights]);have e:(Sx i).data.toList.length=(Sx i).size:=C0;omega
 unfold maxLen at hm
 have hplain:len=0\/a.spot=none:=by
  rcases Nat.eq_zero_or_pos len with h|h
  ·exact .inl h
  refine .inr ?_;have:=(kP 0 CR).1;exact CM
 refine⟨(List.range len).map Sx,some a,a.block,a.off,m,C0,?_,?_,DC⟩
 ·refine⟨some a,m,rfl,by simpa using hl,hm,fun kQ=>?_⟩;have nZ:len≠0:=fun e=>kQ (by simp[e]);have hs:=hplain.resolve_left nZ;obtain⟨b,o,s⟩:=a;obtain rfl:s=none:=hs;refine⟨b,o,rfl,fun i x hx=>?_⟩;rw[List.getElem?_map] at hx;obtain⟨j,hj,rfl⟩:=Option.map_eq_some_iff.1 hx;obtain⟨hi,vQ⟩:=Yb.1 hj;simp at hi vQ;subst vQ;refine⟨[.string (Sx i)],⟨rfl,mO i hi⟩,rfl,fun j u hu=>?_⟩
  match j,hu with
  |0,hu=>
   cases hu;have:=(kP i CR).1;rw[Addr.add_lit] at this;simpa using this
 exact CD
theorem read_strs{H:Type}{enc:TypeId×Value->H}{W:World}{base:Nat}{v:Value}{d:DataW H}{p:List MemPlace}(kO:Value.okWide Tryz.prog W .any base 26 v)(h:DataW.Trod enc Tryz.prog W 0 (fun _=>true) true 26 v d p)
  (hz:(d.weights Tryz.prog 26).all (· <=reachBytes)=true):
  ∃(l:List bA)(a:Option Addr)(b o c:Nat),v=.slice a l.length c/\Strs W (.slice a l.length c) l/\(l≠[]->a=some ⟨b,o,none⟩)/\l.length<=140737488355328:=
 read_strs_form (okWide_slice Tryz.underlying26 kO) h hz
theorem read_ints_form{H:Type}{enc:TypeId×Value->H}{W:World}{v:Value}{d:DataW H}{p:List MemPlace}(kO:∃a n c,v=.slice a n c)(h:DataW.Trod enc Tryz.prog W 0 (fun _=>true) true 35 v d p)
  (hz:(d.weights Tryz.prog 35).all (· <=reachBytes)=true):
  ∃(l:List Int)(a:Option Addr)(b o c:Nat),v=.slice a l.length c/\Ints W (.slice a l.length c) l/\(l≠[]->a=some ⟨b,o,none⟩)/\l.length<=140737488355328/\∀x,x∈l->(Lit.int .i64 x).wf=true:=by
 obtain⟨a0,len,cap,rfl⟩:=kO;obtain⟨fuel,hf⟩:=h;rcases open_ints Tryz.underlying35 Tryz.underlying3 CQ hf with⟨oX,-⟩|⟨a,len',cap',zs,oX,-,hl,hm,kU,hx,kP,wI⟩
 ·simp[Value.cells] at oX;obtain⟨rfl,rfl,rfl⟩:=oX;exact⟨[],none,0,0,0,rfl,⟨none,0,rfl,C0,C0,fun h=>absurd rfl h⟩,fun h=>absurd rfl h,C0,C0⟩
 simp[Value.cells] at oX;obtain⟨e1,e2,e3⟩:=oX;subst e1 e2 e3;simp only[if_true] at kU;simp only[Prod.mk.injEq] at hx;obtain⟨rfl,-⟩:=hx;rw[DataW.weights,Tryz.underlying35] at hz;simp only[List.all_cons,Bool.and_eq_true,decide_eq_true_eq] at hz;obtain⟨lF,-⟩:=hz;have wM:Tryz.prog.bytesOf 3=8:=CQ;rw[wM] at lF;simp only[lits,List.length_map,List.length_take,List.length_drop] at lF;have hr:=reach_le;unfold maxLen at hm
 have hplain:len=0\/a.spot=none:=by
  rcases Nat.eq_zero_or_pos len with h|h
  ·exact .inl h
  refine .inr ?_;have:=kP 0 CR;exact CM
 have hll:(zs.take len).length=len:=DC;refine⟨zs.take len,some a,a.block,a.off,cap,by rw[hll],?_,?_,by rw[hll];omega,fun x hx=>wI x (List.take_subset _ _ hx)⟩
 ·refine⟨some a,cap,rfl,by rw[hll];exact hl,hm,fun kQ=>?_⟩;have nZ:len≠0:=fun e=>kQ (by simp[e]);have hs:=hplain.resolve_left nZ;obtain⟨b,o,s⟩:=a;obtain rfl:s=none:=hs;refine⟨b,o,rfl,fun i x hx=>?_⟩;refine⟨[.int .i64 x],rfl,rfl,fun j u hu=>?_⟩
  match j,hu with
  |0,hu=>
   cases hu
   have hi:i<len:=by
    have:=(Yb.1 hx).1;omega
   have:=kP i CR;rw[List.getElem?_take_of_lt hi] at hx;rw[List.getD_eq_getElem?_getD,hx] at this;rw[Addr.add_lit] at this;simpa using this
 exact CD
theorem read_ints{H:Type}{enc:TypeId×Value->H}{W:World}{base:Nat}{v:Value}{d:DataW H}{p:List MemPlace}(kO:Value.okWide Tryz.prog W .any base 35 v)(h:DataW.Trod enc Tryz.prog W 0 (fun _=>true) true 35 v d p)
  (hz:(d.weights Tryz.prog 35).all (· <=reachBytes)=true):
  ∃(l:List Int)(a:Option Addr)(b o c:Nat),v=.slice a l.length c/\Ints W (.slice a l.length c) l/\(l≠[]->a=some ⟨b,o,none⟩)/\l.length<=140737488355328/\∀x,x∈l->(Lit.int .i64 x).wf=true:=
 read_ints_form (okWide_slice Tryz.underlying35 kO) h hz
theorem weights_cut{H:Type}{ts us:List TypeId}{ds:List (DataW H)}(h:(DataW.weightsEach Tryz.prog (ts++us) (ds++[])).all (· <=reachBytes)=true):(DataW.weightsEach Tryz.prog (ts++us) ds).all (· <=reachBytes)=true:=by
 rw[List.append_nil] at h;exact h
theorem weights_1{H:Type}{t0:TypeId}{us:List TypeId}{d0:DataW H}(h:(DataW.weightsEach Tryz.prog ([t0]++us) [d0]).all (· <=reachBytes)=true):(d0.weights Tryz.prog t0).all (· <=reachBytes)=true:=by
 simp only[List.cons_append,DataW.weightsEach,List.all_append,Bool.and_eq_true] at h;exact h.1
theorem weights_2{H:Type}{t0 t1:TypeId}{us:List TypeId}{d0 d1:DataW H}(h:(DataW.weightsEach Tryz.prog ([t0,t1]++us) [d0,d1]).all (· <=reachBytes)=true):
  (d0.weights Tryz.prog t0).all (· <=reachBytes)=true/\(d1.weights Tryz.prog t1).all (· <=reachBytes)=true:=by
 simp only[List.cons_append,DataW.weightsEach,List.all_append,Bool.and_eq_true] at h;exact⟨h.1,h.2.1⟩
theorem witness_shaped{H:Type}{enc:TypeId×Value->H}{os:Os}{f:FuncId}{fn:Func}{s:OpenSpec}{conds:List PathCond}{apart:Bool}{laid:List (String×DataW Unit)}(w0:World)(args:Array Value)(hos:w0.os=os)
  (hv:(w0.forCall (fun _ _=>0) ⟨#[],args,[]⟩).Shaped Tryz.prog) (kO:Input.okWideB Tryz.prog (w0.forCall (fun _ _=>0) ⟨#[],args,[]⟩) f ⟨#[],args,[]⟩=true)
  (nS:s.preRow enc Tryz.prog fn conds apart laid (w0.forCall (fun _ _=>0) ⟨#[],args,[]⟩).memory args):
  ∃(w:World)(tape:Tape)(i:Input),w.os=os/\(w.forCall tape i).Shaped Tryz.prog/\i.vars=[]/\Input.okWide Tryz.prog (w.forCall tape i) .any w.heap.size f i/\
   s.preRow enc Tryz.prog fn conds apart laid (w.forCall tape i).memory i.args/\({}:Assume).holds Tryz.prog (lone (Frame.enter Tryz.prog f i.args .normal) [] (w.forCall tape i)):=
 ⟨w0,fun _ _=>0,⟨#[],args,[]⟩,hos,hv,(Input.okWide_of_okWideB (base:=0) kO).1,(Input.okWide_of_okWideB kO).2,nS,by simp[Assume.holds]⟩
end Go.Proofs.YtmpopphjaggeoaaGreatDoor
