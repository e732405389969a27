/- For all steps, files and two worlds, ladinglaw32.StepPure returns true and leaves its arguments as they were: the row and its tied card. No condition beyond the row's own cells (the listed variables start as the program's text lays them). -/
import Derived.Test.YtacgopankhpnbaaGreatDoorCardF
import Derived.Test.YtacgopankhpnbaaGreatDoorLpB
set_option linter.unusedVariables false
set_option linter.unusedSimpArgs false
namespace Go.Proofs.YtacgopankhpnbaaGreatDoor.PureCard
set_option maxHeartbeats 40000000
set_option maxRecDepth 100000
open Go.ChangeShapes Go.WideShapes Go.ChangeAt Go.RowKit
theorem reads(os:Os){H:Type}(enc:TypeId×Value->H):∃places,DataW.whole enc Tryz.prog ((jJ os).forCall (fun _ _=>0) ⟨#[],#[.agg #[.int .i64 0,.slice none 0 0,.string ⟨#[]⟩,.bool false],.slice none 0 0,.agg #[.slice none 0 0,.slice none 0 0,.slice none 0 0],.agg #[.slice none 0 0,.slice none 0 0,.slice none 0 0]],[]⟩).memory Tryz.f3.params.toList Rows.stepPureSpec.vars false #[Value.agg #[.int .i64 0,.slice none 0 0,.string ⟨#[]⟩,.bool false],.slice none 0 0,.agg #[.slice none 0 0,.slice none 0 0,.slice none 0 0],.agg #[.slice none 0 0,.slice none 0 0,.slice none 0 0]].toList 8=some ([.agg [.lit (.int .i64 0),.nil,.lit (.string []),.lit (.bool false)],.nil,.agg [.nil,.nil,.nil],.agg [.nil,.nil,.nil]],[],places):=
 ⟨[],vU⟩
theorem types(t:TypeId)(h:t∈Tryz.f3.params.toList):t=24\/t=25\/t=28\/t=28:=by
 rw[Tryz.params3] at h;simpa using h
theorem read:ReadAll Tryz.f3.params.toList:=by
 intro t ht;rcases types t ht with rfl|rfl|rfl|rfl
 all_goals exact⟨vU,of_decide_eq_true vU⟩
theorem oT(H:Type)(enc:TypeId×Value->H)(W:World)(base:Nat)(args:Array Value)(ds gs:List (DataW H))(before:List MemPlace)
  (hval:∀(j:Nat)t v,Tryz.f3.params[j]? =some t->args[j]? =some v->Value.okWide Tryz.prog W .any base t v)
  (hW:DataW.Whole enc Tryz.prog Tryz.f3.params.toList Rows.stepPureSpec.vars false W args.toList ds gs before) (hz:(DataW.weightsEach Tryz.prog (Tryz.f3.params.toList++Rows.stepPureSpec.plain.varTypes Tryz.prog) (ds++gs)).all (· <=reachBytes)=true) (hL:laidMetH Tryz.prog fW W) (hsh:W.ShapedOpen Tryz.prog):
  Calls Tryz.prog 3 args W fun e W'=>∃v,e=.returned v/\Rows.stepPureSpec.post enc Tryz.prog Tryz.f3 false true false false W args v W':=by
 have hW':=hW;obtain⟨p,q,hA0,hV,rfl,hfz,hnd⟩:=hW;have hA:DataW.TrodAll enc Tryz.prog W 0 (fun _=>true) true Tryz.f3.params.toList args.toList ds p:=hA0;rw[Tryz.params3] at hA hval hz;obtain⟨v0,v1,v2,v3,d0,d1,d2,d3,p0,p1,p2,p3,rfl,rfl,rfl,h0,h1,h2,h3⟩:=trodAll_four hA;obtain⟨rfl,rfl⟩:=trodVars_none hV;clear hA0;have hz':=pC hz;obtain⟨hz0,hz1,hz2,hz3⟩:=weights_4 hz';obtain⟨s,vf,rfl,hS,hO⟩:=read_stp (hval 0 24 v0 rfl rfl) h0 hz0;obtain⟨files,hF⟩:=read_fls (hval 1 25 v1 rfl rfl) h1 hz1;obtain⟨clock,order,next,vc,vo,vn,rfl,hWl⟩:=qI (hval 2 28 v2 rfl rfl) h2 hz2;obtain⟨clock2,order2,next2,vc2,vo2,vn2,rfl,hWm⟩:=qI (hval 3 28 v3 rfl rfl) h3 hz3;refine(stepPureLaw_any s files clock order clock2 order2 vf v1 vc vo vn vc2 vo2 vn2 W (do_in 3 5 (glob_of hL hsh) hS hO hF hWl vV vV) (do_in 3 5 (glob_of hL hsh) hS hO hF hWm vV vV)).mono fun e W' ⟨he,hb⟩=>?_;subst he;exact⟨_,rfl,law_post hW' rfl rfl read rfl rfl rfl hb⟩
theorem lifted(os:Os)(started:os.Started)(H:Type)(enc:TypeId×Value->H)(F:Stop.Interp):
  ReturnsInHanded {} Tryz.checked os 3 .any ((OpenSpec.ofChange Rows.stepPureSpec).preRow enc Tryz.prog Tryz.f3 Rows.stepPureRow.domain false Rows.stepPureRow.laid) (((OpenSpec.ofChange Rows.stepPureSpec).at F).post enc Tryz.prog Tryz.f3 false true false false):=by
 obtain⟨places,hx⟩:=reads os enc
 refine returnsInHanded_of_row (C:=Tryz.checked) (s:=OpenSpec.ofChange Rows.stepPureSpec) own started vU Tryz.func3
  (lS (enc:=enc) (jJ os) #[.agg #[.int .i64 0,.slice none 0 0,.string ⟨#[]⟩,.bool false],.slice none 0 0,.agg #[.slice none 0 0,.slice none 0 0,.slice none 0 0],.agg #[.slice none 0 0,.slice none 0 0,.slice none 0 0]] (World.laidAll_os _ _ _) (pD os _) vU
   (OpenSpec.preRow_of_cond 8 hx vU (fun k hk=>by cases hk) vU (seat_met os _))) ?_
 intro W base args ds gs before hval hW _ _ hz hL hsh _;exact oT H enc W base args ds gs before hval hW hz hL hsh
theorem facts:joinedFacts Tryz.prog 3 Tryz.f3 Rows.stepPureSpec Rows.stepPureRow=true:=by
 unfold joinedFacts
 repeat' (with_reducible refine Bool.and_eq_true_iff.2 ⟨?_,?_⟩)
 all_goals(as_aux_lemma=>kernel_rfl)
theorem said:Rows.StepPureSaid:=
 OpenClaim.holds_of_cond 3 Tryz.f3 rfl rfl rfl rfl rfl rfl rfl ⟨rfl,rfl,rfl,rfl,rfl⟩ rfl rfl rfl rfl rfl vU Tryz.func3 facts
  (of_decide_eq_true vU) wW
  (fun os started H enc _ F=>xQ)
theorem plain(f:FuncId)(fn:Func)(hf:Tryz.pinned.checked.prog.funcNamed "lading/ladinglaw32.StepPure" =some f)(hfn:Tryz.pinned.checked.prog.funcs[f]? =some fn):
  true=Tryz.pinned.checked.prog.looks []/\∀(j:Nat)t,fn.params[j]? =some t->Tryz.pinned.checked.prog.wantsStandIn t=false:=by
 obtain rfl:f=3:=Option.some.inj ((show Tryz.prog.funcNamed "lading/ladinglaw32.StepPure" =some 3 by kernel_rfl).symm.trans hf) |>.symm;obtain rfl:fn=Tryz.f3:=(Option.some.inj (Tryz.func3.symm.trans hfn)).symm;refine⟨vU,fun j t ht=>?_⟩;have hm:t∈Tryz.f3.params.toList:=Array.mem_toList_iff.2 (Array.mem_of_getElem? ht);rcases types t hm with rfl|rfl|rfl|rfl
 all_goals exact(show Tryz.prog.wantsStandIn _=false by kernel_rfl)
theorem card:Rows.StepPureCardSaid:=
 Claim7.holds_tied_plain_at .later [] _ _ _ _ said (fun _ h=>yG) vU (fun _ h=>yG) stepPure_row_tie rfl ⟨rfl,rfl⟩ vU rfl plain vU
#print axioms card
end Go.Proofs.YtacgopankhpnbaaGreatDoor.PureCard
