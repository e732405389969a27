/- For all two modules, ladinglaw15.SyntaxPrints returns true and leaves its arguments as they were: the row and its tied card. No condition beyond the row's own cells (the listed variables start as the program's text lays them). -/
import Derived.Test.YtiionicikdnnpaaGreatDoorCardG
import Derived.Test.YtiionicikdnnpaaGreatDoorPrnA
set_option maxHeartbeats 40000000
set_option maxRecDepth 100000
set_option linter.unusedVariables false
set_option linter.unusedSimpArgs false
set_option linter.constructorNameAsVariable false
namespace Go.Proofs.YtiionicikdnnpaaGreatDoor.PrintsCard
open Go.ChangeShapes Go.WideShapes Go.ChangeAt Go.RowKit
theorem reads(os:Os){H:Type}(enc:TypeId×Value->H):∃places,DataW.whole enc Tryz.prog ((seatWorld os).forCall (fun _ _=>0) ⟨#[],#[oA ⟨#[]⟩ none 0 0 none 0 0 none 0 0 none 0 0 false none 0 0 none 0 0 none 0 0,oA ⟨#[]⟩ none 0 0 none 0 0 none 0 0 none 0 0 false none 0 0 none 0 0 none 0 0],[]⟩).memory Tryz.f4.params.toList Rows.syntaxPrintsSpec.vars false #[Value.agg #[.string ⟨#[]⟩,.slice none 0 0,.slice none 0 0,.slice none 0 0,.slice none 0 0,.bool false,.slice none 0 0,.slice none 0 0,.slice none 0 0],oA ⟨#[]⟩ none 0 0 none 0 0 none 0 0 none 0 0 false none 0 0 none 0 0 none 0 0].toList 8=some ([.agg [.lit (.string []),.nil,.nil,.nil,.nil,.lit (.bool false),.agg [.nil,.nil,.nil]],.agg [.lit (.string []),.nil,.nil,.nil,.nil,.lit (.bool false),.agg [.nil,.nil,.nil]]],[],places):=
 ⟨[],VT⟩
theorem types(t:TypeId)(h:t∈Tryz.f4.params.toList):t=30\/t=30:=by
 rw[Tryz.params4] at h;simpa using h
theorem read:ReadAll Tryz.f4.params.toList:=by
 intro t ht;rcases types t ht with rfl|rfl
 all_goals exact⟨VT,of_decide_eq_true VT⟩
theorem contract(H:Type)(enc:TypeId×Value->H)(W:World)(base:Nat)(args:Array Value)(ds gs:List (DataW H))(before:List MemPlace)
  (IG:∀(j:Nat)t v,Tryz.f4.params[j]? =some t->args[j]? =some v->Value.okWide Tryz.prog W .any base t v)
  (hW:DataW.Whole enc Tryz.prog Tryz.f4.params.toList Rows.syntaxPrintsSpec.vars false W args.toList ds gs before) (hz:(DataW.weightsEach Tryz.prog (Tryz.f4.params.toList++Rows.syntaxPrintsSpec.plain.varTypes Tryz.prog) (ds++gs)).all (· <=reachBytes)=true) (hL:laidMetH Tryz.prog iW W) (hsh:W.ShapedOpen Tryz.prog):
  Calls Tryz.prog 4 args W fun e W'=>∃v,e=.returned v/\Rows.syntaxPrintsSpec.post enc Tryz.prog Tryz.f4 false true false false W args v W':=by
 have hW':=hW;obtain⟨p,q,FQ,hV,rfl,KX,hnd⟩:=hW;have hA:DataW.TrodAll enc Tryz.prog W 0 (fun _=>true) true Tryz.f4.params.toList args.toList ds p:=FQ;rw[Tryz.params4] at hA IG hz;obtain⟨v0,v1,d0,d1,p0,p1,rfl,rfl,rfl,h0,h1⟩:=trodAll_two hA;obtain⟨rfl,rfl⟩:=trodVars_none hV;clear FQ;have hz':=weights_cut hz;obtain⟨tS,rZ⟩:=weights_2 hz';obtain⟨m,cs,rfl,hm⟩:=read_module (IG 0 30 v0 rfl rfl) h0 tS;obtain⟨m2,zA,rfl,zL⟩:=read_module (IG 1 30 v1 rfl rfl) h1 rZ;refine(prints_any m m2 _ _ cs zA W (glob_of hL hsh) hm zL).mono fun e W' ⟨he,hb⟩=>?_;subst he;exact⟨_,rfl,law_post hW' rfl rfl read rfl rfl rfl hb⟩
theorem lifted(os:Os)(started:os.Started)(H:Type)(enc:TypeId×Value->H)(F:Stop.Interp):
  ReturnsInHanded {} Tryz.checked os 4 .any ((OpenSpec.ofChange Rows.syntaxPrintsSpec).preRow enc Tryz.prog Tryz.f4 Rows.syntaxPrintsRow.domain false Rows.syntaxPrintsRow.laid) (((OpenSpec.ofChange Rows.syntaxPrintsSpec).at F).post enc Tryz.prog Tryz.f4 false true false false):=by
 obtain⟨places,hx⟩:=reads os enc
 refine returnsInHanded_of_row (C:=Tryz.checked) (s:=OpenSpec.ofChange Rows.syntaxPrintsSpec) own started VT Tryz.func4
  (witness_shaped (enc:=enc) (seatWorld os) #[oA ⟨#[]⟩ none 0 0 none 0 0 none 0 0 none 0 0 false none 0 0 none 0 0 none 0 0,oA ⟨#[]⟩ none 0 0 none 0 0 none 0 0 none 0 0 false none 0 0 none 0 0 none 0 0] (World.laidAll_os _ _ _) (seat_shaped os _) VT
   (OpenSpec.preRow_of_cond 8 hx VT (fun k hk=>by cases hk) VT (seat_met os _))) ?_
 intro W base args ds gs before IG hW _ _ hz hL hsh _;exact contract H enc W base args ds gs before IG hW hz hL hsh
theorem facts:joinedFacts Tryz.prog 4 Tryz.f4 Rows.syntaxPrintsSpec Rows.syntaxPrintsRow=true:=by
 unfold joinedFacts
 repeat' (with_reducible refine Bool.and_eq_true_iff.2 ⟨?_,?_⟩)
 all_goals(as_aux_lemma=>kernel_rfl)
theorem said:Rows.SyntaxPrintsSaid:=
 OpenClaim.holds_of_cond 4 Tryz.f4 rfl rfl rfl rfl rfl rfl rfl ⟨rfl,rfl,rfl,rfl,rfl⟩ rfl rfl rfl rfl rfl VT Tryz.func4 facts
  (of_decide_eq_true VT) (by unfold Func.isWrapper;first|(rw[if_pos XQ];kernel_rfl)|(rw[if_neg XQ];exact⟨rfl,rfl⟩))
  (fun os started H enc _ F=>by rw[OpenClaim.pre_eq_preRow];exact lifted os started H enc F)
theorem plain(f:FuncId)(fn:Func)(hf:Tryz.pinned.checked.prog.funcNamed "lading/ladinglaw15.SyntaxPrints" =some f)(hfn:Tryz.pinned.checked.prog.funcs[f]? =some fn):
  true=Tryz.pinned.checked.prog.looks []/\∀(j:Nat)t,fn.params[j]? =some t->Tryz.pinned.checked.prog.wantsStandIn t=false:=by
 obtain rfl:f=4:=Option.some.inj ((show Tryz.prog.funcNamed "lading/ladinglaw15.SyntaxPrints" =some 4 by kernel_rfl).symm.trans hf) |>.symm;obtain rfl:fn=Tryz.f4:=(Option.some.inj (Tryz.func4.symm.trans hfn)).symm;refine⟨VT,fun j t ht=>?_⟩;have hm:t∈Tryz.f4.params.toList:=Array.mem_toList_iff.2 (Array.mem_of_getElem? ht);rcases types t hm with rfl|rfl
 all_goals exact(show Tryz.prog.wantsStandIn _=false by kernel_rfl)
theorem card:Rows.SyntaxPrintsCardSaid:=
 Claim7.holds_tied_plain_at .later [] _ _ _ _ said (fun _ h=>WV) VT (fun _ h=>WV) syntaxPrints_row_tie rfl ⟨rfl,rfl⟩ VT rfl plain VT
#print axioms card
end Go.Proofs.YtiionicikdnnpaaGreatDoor.PrintsCard
