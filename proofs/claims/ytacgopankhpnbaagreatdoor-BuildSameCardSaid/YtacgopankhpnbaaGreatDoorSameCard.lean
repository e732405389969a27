/- For all recipes and two worlds, ladinglaw33.BuildSame returns true and leaves its arguments as they were: the row and its tied card. No condition beyond the row's own cells (the listed variables start as the program's text lays them). -/
import Derived.Test.YtacgopankhpnbaaGreatDoorCardDxPuSaSe
import Derived.Test.YtacgopankhpnbaaGreatDoorKBF
set_option linter.unusedVariables false
set_option linter.unusedSimpArgs false
namespace Go.Proofs.YtacgopankhpnbaaGreatDoor.SameCard
set_option maxHeartbeats 40000000
set_option maxRecDepth 100000
open Go.ChangeShapes Go.WideShapes Go.ChangeAt Go.RowKit
theorem reads(os:Os){H:Type}(enc:TypeId×Value->H):∃places,DataW.whole enc Tryz.prog ((jJ os).forCall (fun _ _=>0) ⟨#[],#[.agg #[.slice none 0 0,.slice none 0 0,.string ⟨#[]⟩],.agg #[.slice none 0 0,.slice none 0 0,.slice none 0 0],.agg #[.slice none 0 0,.slice none 0 0,.slice none 0 0]],[]⟩).memory Tryz.f7.params.toList Rows.buildSameSpec.vars false #[Value.agg #[.slice none 0 0,.slice none 0 0,.string ⟨#[]⟩],.agg #[.slice none 0 0,.slice none 0 0,.slice none 0 0],.agg #[.slice none 0 0,.slice none 0 0,.slice none 0 0]].toList 8=some ([.agg [.nil,.nil,.lit (.string [])],.agg [.nil,.nil,.nil],.agg [.nil,.nil,.nil]],[],places):=
 ⟨[],vU⟩
theorem types(t:TypeId)(h:t∈Tryz.f7.params.toList):t=51\/t=28\/t=28:=by
 rw[Tryz.params7] at h;simpa using h
theorem read:ReadAll Tryz.f7.params.toList:=by
 intro t ht;rcases types t ht with rfl|rfl|rfl
 all_goals exact⟨vU,of_decide_eq_true vU⟩
theorem oT(H:Type)(enc:TypeId×Value->H)(W:World)(base:Nat)(args:Array Value)(ds gs:List (DataW H))(before:List MemPlace)
  (hval:∀(j:Nat)t v,Tryz.f7.params[j]? =some t->args[j]? =some v->Value.okWide Tryz.prog W .any base t v)
  (hW:DataW.Whole enc Tryz.prog Tryz.f7.params.toList Rows.buildSameSpec.vars false W args.toList ds gs before) (hz:(DataW.weightsEach Tryz.prog (Tryz.f7.params.toList++Rows.buildSameSpec.plain.varTypes Tryz.prog) (ds++gs)).all (· <=reachBytes)=true) (hL:laidMetH Tryz.prog fW W) (hsh:W.ShapedOpen Tryz.prog):
  Calls Tryz.prog 7 args W fun e W'=>∃v,e=.returned v/\Rows.buildSameSpec.post enc Tryz.prog Tryz.f7 false true false false W args v W':=by
 have hW':=hW;obtain⟨p,q,hA0,hV,rfl,hfz,hnd⟩:=hW;have hA:DataW.TrodAll enc Tryz.prog W 0 (fun _=>true) true Tryz.f7.params.toList args.toList ds p:=hA0;rw[Tryz.params7] at hA hval hz;obtain⟨v0,v1,v2,d0,d1,d2,p0,p1,p2,rfl,rfl,rfl,h0,h1,h2⟩:=trodAll_three hA;obtain⟨rfl,rfl⟩:=trodVars_none hV;clear hA0;have hz':=pC hz;obtain⟨hz0,hz1,hz2⟩:=weights_3 hz';obtain⟨r,L,vi,vs,rfl,hR⟩:=read_rcp (hval 0 51 v0 rfl rfl) h0 hz0;obtain⟨clock,order,next,vc,vo,vn,rfl,hWl⟩:=qI (hval 1 28 v1 rfl rfl) h1 hz1;obtain⟨clock2,order2,next2,vc2,vo2,vn2,rfl,hWm⟩:=qI (hval 2 28 v2 rfl rfl) h2 hz2;refine(buildSame_any r L vi vs vc vo vn vc2 vo2 vn2 clock order next clock2 order2 next2 W hR hWl hWm (glob_of hL hsh)).mono fun e W' ⟨he,hb⟩=>?_;subst he;exact⟨_,rfl,law_post hW' rfl rfl read rfl rfl rfl hb⟩
theorem lifted(os:Os)(started:os.Started)(H:Type)(enc:TypeId×Value->H)(F:Stop.Interp):
  ReturnsInHanded {} Tryz.checked os 7 .any ((OpenSpec.ofChange Rows.buildSameSpec).preRow enc Tryz.prog Tryz.f7 Rows.buildSameRow.domain false Rows.buildSameRow.laid) (((OpenSpec.ofChange Rows.buildSameSpec).at F).post enc Tryz.prog Tryz.f7 false true false false):=by
 obtain⟨places,hx⟩:=reads os enc
 refine returnsInHanded_of_row (C:=Tryz.checked) (s:=OpenSpec.ofChange Rows.buildSameSpec) own started vU Tryz.func7
  (lS (enc:=enc) (jJ os) #[.agg #[.slice none 0 0,.slice none 0 0,.string ⟨#[]⟩],.agg #[.slice none 0 0,.slice none 0 0,.slice none 0 0],.agg #[.slice none 0 0,.slice none 0 0,.slice none 0 0]] (World.laidAll_os _ _ _) (pD os _) vU
   (OpenSpec.preRow_of_cond 8 hx vU (fun k hk=>by cases hk) vU (seat_met os _))) ?_
 intro W base args ds gs before hval hW _ _ hz hL hsh _;exact oT H enc W base args ds gs before hval hW hz hL hsh
theorem facts:joinedFacts Tryz.prog 7 Tryz.f7 Rows.buildSameSpec Rows.buildSameRow=true:=by
 unfold joinedFacts
 repeat' (with_reducible refine Bool.and_eq_true_iff.2 ⟨?_,?_⟩)
 all_goals(as_aux_lemma=>kernel_rfl)
theorem said:Rows.BuildSameSaid:=
 OpenClaim.holds_of_cond 7 Tryz.f7 rfl rfl rfl rfl rfl rfl rfl ⟨rfl,rfl,rfl,rfl,rfl⟩ rfl rfl rfl rfl rfl vU Tryz.func7 facts
  (of_decide_eq_true vU) wW
  (fun os started H enc _ F=>xQ)
theorem plain(f:FuncId)(fn:Func)(hf:Tryz.pinned.checked.prog.funcNamed "lading/ladinglaw33.BuildSame" =some f)(hfn:Tryz.pinned.checked.prog.funcs[f]? =some fn):
  true=Tryz.pinned.checked.prog.looks []/\∀(j:Nat)t,fn.params[j]? =some t->Tryz.pinned.checked.prog.wantsStandIn t=false:=by
 obtain rfl:f=7:=Option.some.inj ((show Tryz.prog.funcNamed "lading/ladinglaw33.BuildSame" =some 7 by kernel_rfl).symm.trans hf) |>.symm;obtain rfl:fn=Tryz.f7:=(Option.some.inj (Tryz.func7.symm.trans hfn)).symm;refine⟨vU,fun j t ht=>?_⟩;have hm:t∈Tryz.f7.params.toList:=Array.mem_toList_iff.2 (Array.mem_of_getElem? ht);rcases types t hm with rfl|rfl|rfl
 all_goals exact(show Tryz.prog.wantsStandIn _=false by kernel_rfl)
theorem card:Rows.BuildSameCardSaid:=
 Claim7.holds_tied_plain_at .later [] _ _ _ _ said (fun _ h=>yG) vU (fun _ h=>yG) buildSame_row_tie rfl ⟨rfl,rfl⟩ vU rfl plain vU
#print axioms card
end Go.Proofs.YtacgopankhpnbaaGreatDoor.SameCard
