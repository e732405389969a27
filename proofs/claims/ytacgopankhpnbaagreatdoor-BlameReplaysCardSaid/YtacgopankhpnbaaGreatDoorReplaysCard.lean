/- For all recipes, two worlds and numbers, ladinglaw35.BlameReplays returns true and leaves its arguments as they were: the row and its tied card. No condition beyond the row's own cells (the listed variables start as the program's text lays them). -/
import Derived.Test.YtacgopankhpnbaaGreatDoorTQW
import Derived.Test.YtacgopankhpnbaaGreatDoorTQAS
set_option maxHeartbeats 40000000
set_option maxRecDepth 100000
set_option linter.unusedVariables false
set_option linter.unusedSimpArgs false
namespace Go.Proofs.YtacgopankhpnbaaGreatDoor.ReplaysCard
open Go.ChangeShapes Go.WideShapes Go.ChangeAt Go.RowKit
theorem reads(os:Os){H:Type}(enc:TypeId×Value->H):∃places,DataW.whole enc Tryz.prog ((mA os).forCall (fun _ _=>0) ⟨#[],#[oBx25 none 0 0 none 0 0 ⟨#[]⟩,mQ none 0 0 none 0 0 none 0 0,mQ none 0 0 none 0 0 none 0 0,.int .u8 0],[]⟩).memory Tryz.f13.params.toList Rows.blameReplaysSpec.vars false #[Value.agg #[.slice none 0 0,.slice none 0 0,.string ⟨#[]⟩],mQ none 0 0 none 0 0 none 0 0,mQ none 0 0 none 0 0 none 0 0,.int .u8 0].toList 8=some ([.agg [.nil,.nil,.lit (.string [])],.agg [.nil,.nil,.nil],.agg [.nil,.nil,.nil],.lit (.int .u8 0)],[],places):=
 ⟨[],aAN⟩
theorem types(t:TypeId)(h:t∈Tryz.f13.params.toList):t=51\/t=28\/t=28\/t=5:=by
 rw[Tryz.params13] at h;simpa using h
theorem read:ReadAll Tryz.f13.params.toList:=by
 intro t ht;rcases types t ht with rfl|rfl|rfl|rfl
 all_goals exact⟨aAN,of_decide_eq_true aAN⟩
theorem contract(H:Type)(enc:TypeId×Value->H)(W:World)(base:Nat)(args:Array Value)(ds gs:List (DataW H))(before:List MemPlace)
  (wP:∀(j:Nat)t v,Tryz.f13.params[j]? =some t->args[j]? =some v->Value.okWide Tryz.prog W .any base t v)
  (hW:DataW.Whole enc Tryz.prog Tryz.f13.params.toList Rows.blameReplaysSpec.vars false W args.toList ds gs before) (hz:(DataW.weightsEach Tryz.prog (Tryz.f13.params.toList++Rows.blameReplaysSpec.plain.varTypes Tryz.prog) (ds++gs)).all (· <=reachBytes)=true) (hL:laidMetH Tryz.prog gM W) (JA:W.ShapedOpen Tryz.prog):
  Calls Tryz.prog 13 args W fun e W'=>∃v,e=.returned v/\Rows.blameReplaysSpec.post enc Tryz.prog Tryz.f13 false true false false W args v W':=by
 have V4:=hW;obtain⟨p,q,BW,hV,rfl,RC,S9⟩:=hW;have hA:DataW.TrodAll enc Tryz.prog W 0 (fun _=>true) true Tryz.f13.params.toList args.toList ds p:=BW;rw[Tryz.params13] at hA wP hz;obtain⟨v0,v1,v2,v3,d0,d1,d2,d3,p0,p1,p2,p3,rfl,rfl,rfl,h0,h1,h2,h3⟩:=trodAll_four hA;obtain⟨rfl,rfl⟩:=trodVars_none hV;clear BW;have LI:=weights_cut hz;obtain⟨tM,sY,sX,CD⟩:=weights_4 LI;obtain⟨r,L,vi,vs,rfl,hR⟩:=read_rcp (wP 0 51 v0 rfl rfl) h0 tM;obtain⟨clock,order,next,vc,vo,vn,rfl,hWl⟩:=read_wld (wP 1 28 v1 rfl rfl) h1 sY;obtain⟨clock2,order2,next2,P6,PZ,J2,rfl,hWm⟩:=read_wld (wP 2 28 v2 rfl rfl) h2 sX;obtain⟨k,rfl,-,-,hkw⟩:=open_int Tryz.underlying5 (wP 3 5 v3 rfl rfl) h3;obtain⟨LM,BF⟩:=bounds_u8 hkw;refine(blameReplays_any r L vi vs vc vo vn P6 PZ J2 clock order next clock2 order2 next2 k W hR hWl hWm (glob_of hL JA) LM BF).mono fun e W' ⟨he,hb⟩=>?_;subst he;exact⟨_,rfl,law_post V4 rfl rfl read rfl rfl rfl hb⟩
theorem lifted(os:Os)(started:os.Started)(H:Type)(enc:TypeId×Value->H)(F:Stop.Interp):
  ReturnsInHanded {} Tryz.checked os 13 .any ((OpenSpec.ofChange Rows.blameReplaysSpec).preRow enc Tryz.prog Tryz.f13 Rows.blameReplaysRow.domain false Rows.blameReplaysRow.laid) (((OpenSpec.ofChange Rows.blameReplaysSpec).at F).post enc Tryz.prog Tryz.f13 false true false false):=by
 obtain⟨places,hx⟩:=reads os enc
 refine returnsInHanded_of_row (C:=Tryz.checked) (s:=OpenSpec.ofChange Rows.blameReplaysSpec) own started aAN Tryz.func13
  (pA (enc:=enc) (mA os) #[oBx25 none 0 0 none 0 0 ⟨#[]⟩,mQ none 0 0 none 0 0 none 0 0,mQ none 0 0 none 0 0 none 0 0,.int .u8 0] (World.laidAll_os _ _ _) (seat_shaped os _) aAN
   (OpenSpec.preRow_of_cond 8 hx aAN (fun k hk=>by cases hk) aAN (seat_met os _))) ?_
 intro W base args ds gs before wP hW _ _ hz hL JA _;exact contract H enc W base args ds gs before wP hW hz hL JA
theorem facts:joinedFacts Tryz.prog 13 Tryz.f13 Rows.blameReplaysSpec Rows.blameReplaysRow=true:=by
 unfold joinedFacts
 repeat' (with_reducible refine Bool.and_eq_true_iff.2 ⟨?_,?_⟩)
 all_goals(as_aux_lemma=>kernel_rfl)
theorem said:Rows.BlameReplaysSaid:=
 OpenClaim.holds_of_cond 13 Tryz.f13 rfl rfl rfl rfl rfl rfl rfl ⟨rfl,rfl,rfl,rfl,rfl⟩ rfl rfl rfl rfl rfl aAN Tryz.func13 facts
  (of_decide_eq_true aAN) aBj
  (fun os started H enc _ F=>aBN)
theorem plain(f:FuncId)(fn:Func)(hf:Tryz.pinned.checked.prog.funcNamed "lading/ladinglaw35.BlameReplays" =some f)(KS:Tryz.pinned.checked.prog.funcs[f]? =some fn):
  true=Tryz.pinned.checked.prog.looks []/\∀(j:Nat)t,fn.params[j]? =some t->Tryz.pinned.checked.prog.wantsStandIn t=false:=by
 obtain rfl:f=13:=Option.some.inj ((show Tryz.prog.funcNamed "lading/ladinglaw35.BlameReplays" =some 13 by kernel_rfl).symm.trans hf) |>.symm;obtain rfl:fn=Tryz.f13:=(Option.some.inj (Tryz.func13.symm.trans KS)).symm;refine⟨aAN,fun j t ht=>?_⟩;have hm:t∈Tryz.f13.params.toList:=Array.mem_toList_iff.2 (Array.mem_of_getElem? ht);rcases types t hm with rfl|rfl|rfl|rfl
 all_goals exact(show Tryz.prog.wantsStandIn _=false by kernel_rfl)
theorem card:Rows.BlameReplaysCardSaid:=
 Claim7.holds_tied_plain_at .later [] _ _ _ _ said (fun _ h=>aBx) aAN (fun _ h=>aBx) blameReplays_row_tie rfl ⟨rfl,rfl⟩ aAN rfl plain aAN
#print axioms card
end Go.Proofs.YtacgopankhpnbaaGreatDoor.ReplaysCard
