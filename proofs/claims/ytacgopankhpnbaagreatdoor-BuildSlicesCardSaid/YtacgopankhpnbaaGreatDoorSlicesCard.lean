/- For all recipes, worlds, numbers and texts, ladinglaw33.BuildSlices returns true and leaves its arguments as they were: the row and its tied card. No condition beyond the row's own cells (the listed variables start as the program's text lays them). -/
import Derived.Test.YtacgopankhpnbaaGreatDoorSU
import Derived.Test.YtacgopankhpnbaaGreatDoorSAU
set_option maxHeartbeats 40000000
set_option maxRecDepth 100000
set_option linter.unusedVariables false
set_option linter.unusedSimpArgs false
namespace Go.Proofs.YtacgopankhpnbaaGreatDoor.SlicesCard
open Go.ChangeShapes Go.WideShapes Go.ChangeAt Go.RowKit
theorem reads(os:Os){H:Type}(enc:TypeId×Value->H):∃places,DataW.whole enc Tryz.prog ((seatWorld os).forCall (fun _ _=>0) ⟨#[],#[.agg #[.slice none 0 0,.slice none 0 0,.string ⟨#[]⟩],.agg #[.slice none 0 0,.slice none 0 0,.slice none 0 0],.int .i64 0,.string ⟨#[]⟩],[]⟩).memory Tryz.f9.params.toList Rows.buildSlicesSpec.vars false #[Value.agg #[.slice none 0 0,.slice none 0 0,.string ⟨#[]⟩],.agg #[.slice none 0 0,.slice none 0 0,.slice none 0 0],.int .i64 0,.string ⟨#[]⟩].toList 8=some ([.agg [.nil,.nil,.lit (.string [])],.agg [.nil,.nil,.nil],.lit (.int .i64 0),.lit (.string [])],[],places):=
 ⟨[],VH⟩
theorem types(t:TypeId)(h:t∈Tryz.f9.params.toList):t=51\/t=28\/t=3\/t=9:=by
 rw[Tryz.params9] at h;simpa using h
theorem read:ReadAll Tryz.f9.params.toList:=by
 intro t ht;rcases types t ht with rfl|rfl|rfl|rfl
 all_goals exact⟨VH,of_decide_eq_true VH⟩
theorem contract(H:Type)(enc:TypeId×Value->H)(W:World)(base:Nat)(args:Array Value)(ds gs:List (DataW H))(before:List MemPlace)
  (BQ:∀(j:Nat)t v,Tryz.f9.params[j]? =some t->args[j]? =some v->Value.okWide Tryz.prog W .any base t v)
  (hW:DataW.Whole enc Tryz.prog Tryz.f9.params.toList Rows.buildSlicesSpec.vars false W args.toList ds gs before) (hz:(DataW.weightsEach Tryz.prog (Tryz.f9.params.toList++Rows.buildSlicesSpec.plain.varTypes Tryz.prog) (ds++gs)).all (· <=reachBytes)=true) (hL:laidMetH Tryz.prog gU W) (hsh:W.ShapedOpen Tryz.prog):
  Calls Tryz.prog 9 args W fun e W'=>∃v,e=.returned v/\Rows.buildSlicesSpec.post enc Tryz.prog Tryz.f9 false true false false W args v W':=by
 have hW':=hW;obtain⟨p,q,CQ,hV,rfl,hfz,hnd⟩:=hW;have hA:DataW.TrodAll enc Tryz.prog W 0 (fun _=>true) true Tryz.f9.params.toList args.toList ds p:=CQ;rw[Tryz.params9] at hA BQ hz;obtain⟨v0,v1,v2,v3,d0,d1,d2,d3,p0,p1,p2,p3,rfl,rfl,rfl,h0,h1,h2,h3⟩:=trodAll_four hA;obtain⟨rfl,rfl⟩:=trodVars_none hV;clear CQ;have NG:=weights_cut hz;obtain⟨rS,qI,qH,yU⟩:=weights_4 NG;obtain⟨r,L,vi,vs,rfl,hR⟩:=read_rcp (BQ 0 51 v0 rfl rfl) h0 rS;obtain⟨clock,order,next,vc,vo,vn,rfl,hWl⟩:=read_wld (BQ 1 28 v1 rfl rfl) h1 qI;obtain⟨k,rfl,-,-,-⟩:=open_int Tryz.underlying3 (BQ 2 3 v2 rfl rfl) h2;obtain⟨text,rfl,hd3,-,-⟩:=Go.ChangeMaps.open_string Tryz.underlying9 (BQ 3 9 v3 rfl rfl) h3
 have htx:text.size<=140737488355328:=by
  have hr:reachBytes<=140737488355328:=VI;rw[hd3] at yU;have:text.size<=reachBytes:=by simpa[DataW.weights] using yU
  omega
 clear hd3;refine(buildSlices_any r L vi vs vc vo vn clock order next k text W hR hWl (glob_of hL hsh) htx).mono fun e W' ⟨he,hb⟩=>?_;subst he;exact⟨_,rfl,law_post hW' rfl rfl read rfl rfl rfl hb⟩
theorem lifted(os:Os)(started:os.Started)(H:Type)(enc:TypeId×Value->H)(F:Stop.Interp):
  ReturnsInHanded {} Tryz.checked os 9 .any ((OpenSpec.ofChange Rows.buildSlicesSpec).preRow enc Tryz.prog Tryz.f9 Rows.buildSlicesRow.domain false Rows.buildSlicesRow.laid) (((OpenSpec.ofChange Rows.buildSlicesSpec).at F).post enc Tryz.prog Tryz.f9 false true false false):=by
 obtain⟨places,hx⟩:=reads os enc
 refine returnsInHanded_of_row (C:=Tryz.checked) (s:=OpenSpec.ofChange Rows.buildSlicesSpec) own started VH Tryz.func9
  (witness_shaped (enc:=enc) (seatWorld os) #[.agg #[.slice none 0 0,.slice none 0 0,.string ⟨#[]⟩],.agg #[.slice none 0 0,.slice none 0 0,.slice none 0 0],.int .i64 0,.string ⟨#[]⟩] (World.laidAll_os _ _ _) (seat_shaped os _) VH
   (OpenSpec.preRow_of_cond 8 hx VH (fun k hk=>by cases hk) VH (seat_met os _))) ?_
 intro W base args ds gs before BQ hW _ _ hz hL hsh _;exact contract H enc W base args ds gs before BQ hW hz hL hsh
theorem facts:joinedFacts Tryz.prog 9 Tryz.f9 Rows.buildSlicesSpec Rows.buildSlicesRow=true:=by
 unfold joinedFacts
 repeat' (with_reducible refine Bool.and_eq_true_iff.2 ⟨?_,?_⟩)
 all_goals(as_aux_lemma=>kernel_rfl)
theorem said:Rows.BuildSlicesSaid:=
 OpenClaim.holds_of_cond 9 Tryz.f9 rfl rfl rfl rfl rfl rfl rfl ⟨rfl,rfl,rfl,rfl,rfl⟩ rfl rfl rfl rfl rfl VH Tryz.func9 facts
  (of_decide_eq_true VH) (by unfold Func.isWrapper;first|(rw[if_pos (by decide+kernel)];kernel_rfl)|(rw[if_neg (by decide+kernel)];exact⟨rfl,rfl⟩))
  (fun os started H enc _ F=>by rw[OpenClaim.pre_eq_preRow];exact lifted os started H enc F)
theorem plain(f:FuncId)(fn:Func)(hf:Tryz.pinned.checked.prog.funcNamed "lading/ladinglaw33.BuildSlices" =some f)(hfn:Tryz.pinned.checked.prog.funcs[f]? =some fn):
  true=Tryz.pinned.checked.prog.looks []/\∀(j:Nat)t,fn.params[j]? =some t->Tryz.pinned.checked.prog.wantsStandIn t=false:=by
 obtain rfl:f=9:=Option.some.inj ((show Tryz.prog.funcNamed "lading/ladinglaw33.BuildSlices" =some 9 by kernel_rfl).symm.trans hf) |>.symm;obtain rfl:fn=Tryz.f9:=(Option.some.inj (Tryz.func9.symm.trans hfn)).symm;refine⟨VH,fun j t ht=>?_⟩;have hm:t∈Tryz.f9.params.toList:=Array.mem_toList_iff.2 (Array.mem_of_getElem? ht);rcases types t hm with rfl|rfl|rfl|rfl
 all_goals exact(show Tryz.prog.wantsStandIn _=false by kernel_rfl)
theorem card:Rows.BuildSlicesCardSaid:=
 Claim7.holds_tied_plain_at .later [] _ _ _ _ said (fun _ h=>YD) VH (fun _ h=>YD) buildSlices_row_tie rfl ⟨rfl,rfl⟩ VH rfl plain VH
#print axioms card
end Go.Proofs.YtacgopankhpnbaaGreatDoor.SlicesCard
