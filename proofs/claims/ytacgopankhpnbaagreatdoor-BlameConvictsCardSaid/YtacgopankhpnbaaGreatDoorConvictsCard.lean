/- For all recipes, records and worlds, ladinglaw35.BlameConvicts returns true and leaves its arguments as they were (row and tied card). No condition beyond the row's own cells. -/
import Derived.Test.YtacgopankhpnbaaGreatDoorTQAW
import Derived.Test.YtacgopankhpnbaaGreatDoorTQBA
set_option maxHeartbeats 40000000
set_option maxRecDepth 100000
set_option linter.unusedVariables false
set_option linter.unusedSimpArgs false
namespace Go.Proofs.YtacgopankhpnbaaGreatDoor.ConvictsCard
open Go.ChangeShapes Go.WideShapes Go.ChangeAt Go.RowKit
abbrev sp:=Rows.blameConvictsSpec
theorem reads(os:Os){H:Type}(enc:TypeId×Value->H):∃places,DataW.whole enc Tryz.prog ((mA os).forCall (fun _ _=>0) ⟨#[],#[oBx25 none 0 0 none 0 0 ⟨#[]⟩,.slice none 0 0,mQ none 0 0 none 0 0 none 0 0],[]⟩).memory Tryz.f14.params.toList sp.vars false #[Value.agg #[.slice none 0 0,.slice none 0 0,.string ⟨#[]⟩],.slice none 0 0,mQ none 0 0 none 0 0 none 0 0].toList 8=some ([.agg [.nil,.nil,.lit (.string [])],.nil,.agg [.nil,.nil,.nil]],[],places):=
 ⟨[],aAN⟩
theorem types(t:TypeId)(h:t∈Tryz.f14.params.toList):t=51\/t=54\/t=28:=by
 rw[Tryz.params14] at h;simpa using h
theorem read:ReadAll Tryz.f14.params.toList:=by
 intro t ht;rcases types t ht with rfl|rfl|rfl
 all_goals exact⟨aAN,of_decide_eq_true aAN⟩
theorem contract(H:Type)(enc:TypeId×Value->H)(W:World)(base:Nat)(args:Array Value)(ds gs:List (DataW H))(before:List MemPlace)
  (wP:∀(j:Nat)t v,Tryz.f14.params[j]? =some t->args[j]? =some v->Value.okWide Tryz.prog W .any base t v)
  (hW:DataW.Whole enc Tryz.prog Tryz.f14.params.toList sp.vars false W args.toList ds gs before) (hz:(DataW.weightsEach Tryz.prog (Tryz.f14.params.toList++sp.plain.varTypes Tryz.prog) (ds++gs)).all (· <=reachBytes)=true) (hL:laidMetH Tryz.prog gM W) (JA:W.ShapedOpen Tryz.prog):
  Calls Tryz.prog 14 args W fun e W'=>∃v,e=.returned v/\sp.post enc Tryz.prog Tryz.f14 false true false false W args v W':=by
 have V4:=hW;obtain⟨p,q,BW,hV,rfl,RC,S9⟩:=hW;have hA:DataW.TrodAll enc Tryz.prog W 0 (fun _=>true) true Tryz.f14.params.toList args.toList ds p:=BW;rw[Tryz.params14] at hA wP hz;obtain⟨v0,v1,v2,d0,d1,d2,p0,p1,p2,rfl,rfl,rfl,h0,h1,h2⟩:=trodAll_three hA;obtain⟨rfl,rfl⟩:=trodVars_none hV;clear BW;have LI:=weights_cut hz;simp only[List.cons_append,DataW.weightsEach,List.all_append,Bool.and_eq_true] at LI;obtain⟨tM,sY,sX,-⟩:=LI;obtain⟨r,L,vi,vs,rfl,hR⟩:=read_rcp (wP 0 51 v0 rfl rfl) h0 tM;obtain⟨La,hDa⟩:=read_dns (wP 1 54 v1 rfl rfl) h1 sY;obtain⟨clock,order,next,vc,vo,vn,rfl,hWl⟩:=read_wld (wP 2 28 v2 rfl rfl) h2 sX;refine(blameConvicts_any r L La vi vs _ vc vo vn clock order next W hR hDa hWl (glob_of hL JA)).mono fun e W' ⟨he,hb⟩=>?_;subst he;exact⟨_,rfl,law_post V4 rfl rfl read rfl rfl rfl hb⟩
theorem lifted(os:Os)(started:os.Started)(H:Type)(enc:TypeId×Value->H)(F:Stop.Interp):
  ReturnsInHanded {} Tryz.checked os 14 .any ((OpenSpec.ofChange sp).preRow enc Tryz.prog Tryz.f14 Rows.blameConvictsRow.domain false Rows.blameConvictsRow.laid) (((OpenSpec.ofChange sp).at F).post enc Tryz.prog Tryz.f14 false true false false):=by
 obtain⟨places,hx⟩:=reads os enc
 refine returnsInHanded_of_row (C:=Tryz.checked) (s:=OpenSpec.ofChange sp) own started aAN Tryz.func14
  (pA (enc:=enc) (mA os) #[oBx25 none 0 0 none 0 0 ⟨#[]⟩,.slice none 0 0,mQ none 0 0 none 0 0 none 0 0] (World.laidAll_os _ _ _) (seat_shaped os _) aAN
   (OpenSpec.preRow_of_cond 8 hx aAN (fun k hk=>by cases hk) aAN (seat_met os _))) ?_
 intro W base args ds gs before wP hW _ _ hz hL JA _;exact contract H enc W base args ds gs before wP hW hz hL JA
theorem facts:joinedFacts Tryz.prog 14 Tryz.f14 sp Rows.blameConvictsRow=true:=by
 unfold joinedFacts
 repeat' (with_reducible refine Bool.and_eq_true_iff.2 ⟨?_,?_⟩)
 all_goals(as_aux_lemma=>kernel_rfl)
theorem said:Rows.BlameConvictsSaid:=
 OpenClaim.holds_of_cond 14 Tryz.f14 rfl rfl rfl rfl rfl rfl rfl ⟨rfl,rfl,rfl,rfl,rfl⟩ rfl rfl rfl rfl rfl aAN Tryz.func14 facts
  (of_decide_eq_true aAN) aBj
  (fun os started H enc _ F=>aBN)
theorem plain(f:FuncId)(fn:Func)(hf:Tryz.pinned.checked.prog.funcNamed "lading/ladinglaw35.BlameConvicts" =some f)(KS:Tryz.pinned.checked.prog.funcs[f]? =some fn):
  true=Tryz.pinned.checked.prog.looks []/\∀(j:Nat)t,fn.params[j]? =some t->Tryz.pinned.checked.prog.wantsStandIn t=false:=by
 obtain rfl:f=14:=Option.some.inj ((show Tryz.prog.funcNamed "lading/ladinglaw35.BlameConvicts" =some 14 by kernel_rfl).symm.trans hf) |>.symm;obtain rfl:fn=Tryz.f14:=(Option.some.inj (Tryz.func14.symm.trans KS)).symm;refine⟨aAN,fun j t ht=>?_⟩;have hm:t∈Tryz.f14.params.toList:=Array.mem_toList_iff.2 (Array.mem_of_getElem? ht);rcases types t hm with rfl|rfl|rfl
 all_goals exact(show Tryz.prog.wantsStandIn _=false by kernel_rfl)
theorem card:Rows.BlameConvictsCardSaid:=
 Claim7.holds_tied_plain_at .later [] _ _ _ _ said (fun _ h=>aBx) aAN (fun _ h=>aBx) blameConvicts_row_tie rfl ⟨rfl,rfl⟩ aAN rfl plain aAN
#print axioms card
end Go.Proofs.YtacgopankhpnbaaGreatDoor.ConvictsCard
