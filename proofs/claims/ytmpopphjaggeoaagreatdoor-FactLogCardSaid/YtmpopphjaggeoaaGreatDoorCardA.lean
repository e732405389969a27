/- Texts of this seat, joined. -/
import Derived.Test.YtmpopphjaggeoaaGreatDoorCards
import Derived.Test.YtmpopphjaggeoaaGreatDoorTie
import Derived.Test.YtmpopphjaggeoaaGreatDoorGlob
import Derived.ProofKit
import Derived.OpenShut
import Derived.Lay
import Derived.LaidMore
import Derived.Deep.DeepHandedRow
import Derived.Lib.LaidU8
set_option linter.unusedVariables false
set_option linter.unusedSimpArgs false
set_option linter.constructorNameAsVariable false
namespace Go.Proofs.YtmpopphjaggeoaaGreatDoor
open Go.ChangeShapes Go.WideShapes Go.ChangeAt Go.RowKit
open Go.ChangeMaps (open_string shut_string)
theorem DH{p:Prop}(h:p:=by kernel_rfl):p:=h
theorem own:ownKnob Tryz.prog.godebug=none:=DH
abbrev dV:List (String×DataW Unit):=Rows.factKeysRow.laid
noncomputable def seatWorld (os:Os):World:=World.laidAll Tryz.prog os dV
theorem seat_met(os:Os)(args:Array Value):laidMet Tryz.prog dV ((seatWorld os).forCall (fun _ _=>0) ⟨#[],args,[]⟩).memory:=laidMet_laidAll _ DH DH
theorem seat_plain(w:World):laidMetH Tryz.prog dV w=laidMet Tryz.prog dV w:=MakeChecks.laidMetH_plain _ _ _ DH
theorem seat_shaped(os:Os)(args:Array Value):((seatWorld os).forCall (fun _ _=>0) ⟨#[],args,[]⟩).Shaped Tryz.prog:=World.shaped_of_ZipB DH DH
def strsData{H:Type}(zs:List (List UInt8)):DataW H:=.agg (zs.map fun z=>.lit (.string z))
theorem cells_of_strs{H:Type}{enc:TypeId×Value->H}{P:Program}{w:World}{base:Nat}{sp:Nat->Bool}{held:Bool}{fuel:Nat}{t e:TypeId}{n:Nat}{cs:List Value}{zs:List (List UInt8)}{p:List MemPlace}
  (ht:P.underlying t=some (.array n e)) (he:P.underlying e=some .string) (hce:P.cellsOf e=1) (hct:P.cellsOf t=n)
  (h:DataW.trod enc P w base sp held fuel t cs=some (strsData zs,p)):cs=zs.map fun z=>Value.string ⟨z.toArray⟩:=by
 cases fuel with
 |zero=>simp[DataW.trod] at h
 |succ fuel=>
  simp only[DataW.trod,ht,hce,hct,Nat.mul_one] at h;split at h
  ·rename_i hl;obtain⟨xs,hm,hx⟩:=Option.map_eq_some_iff.1 h
   have hxs:xs.map (·.1)=zs.map fun z=>(DataW.lit (.string z):DataW H):=by
    have:=congrArg Prod.fst hx;simpa[strsData] using this
   have hxl:xs.length=n:=by simpa using Lib.mapM_length hm
   have hzl:zs.length=n:=by
    have:=congrArg List.length hxs;simp at this;omega
   apply List.ext_getElem?;intro i;by_cases hi:i<n
   ·obtain⟨b,hb,hf⟩:=Lib.mapM_at hm i i (by simp[hi]);obtain⟨z,hc,rfl,_⟩:=DataW.trod_string he hf
    have h1:cs[i]? =some (.string z):=by
     have:=congrArg (·[0]?) hc;simpa[List.getElem?_take,List.getElem?_drop] using this
    (have h2:(xs.map (·.1))[i]? =some (DataW.lit (.string z.data.toList):DataW H):=by simp[hb]);rw[hxs] at h2;simp only[List.getElem?_map,Option.map_eq_some_iff,DataW.lit.injEq,Lit.string.injEq] at h2;obtain⟨z',hz',rfl⟩:=h2;simp[h1,hz']
   rw[List.getElem?_eq_none (by omega),List.getElem?_eq_none (by simp;omega)]
  cases h
theorem cell_of_strs{W:World}{name:String}{g:Nat}{cs:Array Value}{zs:List (List UInt8)}(hg:Tryz.prog.globalNamed name=some g)(hv:W.var? Tryz.prog name=some cs)(oX:cs.toList=zs.map fun z=>Value.string ⟨z.toArray⟩)(i:Nat)(x:List UInt8)(hx:zs[i]? =some x):
  W.cell? ⟨g,i,none⟩=some (.string ⟨x.toArray⟩):=by
 have:=World.var?_cell hg hv i;rw[this,<-Array.getElem?_toList,oX,List.getElem?_map,hx];rfl
theorem spc_eq:(Rows.laid_strings_asciiSpace:DataW Unit)=Lib.tabData .u8 Lib.asciiSpaceTab:=DH
theorem spc_mem:("strings.asciiSpace",Lib.tabData .u8 Lib.asciiSpaceTab)∈dV:=by
 rw[<-spc_eq];simp[dV,Rows.factKeysRow]
theorem signs_eq:(Rows.laid_lading_lex_signs:DataW Unit)=strsData (signsL.map fun x=>x.data.toList):=DH
theorem signs_mem:("lading/lex.signs",strsData (signsL.map fun x=>x.data.toList))∈dV:=by
 rw[<-signs_eq];simp[dV,Rows.factKeysRow]
theorem pow10_eq:(Rows.laid_internal_strconv_uint64pow10:DataW Unit)=Lib.tabData .u64 Lib.pow10Tab:=DH
theorem pow10_mem:("internal/strconv.uint64pow10",Lib.tabData .u64 Lib.pow10Tab)∈dV:=by
 rw[<-pow10_eq];simp[dV,Rows.factKeysRow]
theorem glob_of{W:World}(hL:laidMetH Tryz.prog dV W)(hs:W.ShapedOpen Tryz.prog):bC W:=by
 rw[seat_plain] at hL
 have kS:11<=W.heap.size:=by
  obtain⟨o,-,ho,-⟩:=hs.2 12 (of_decide_eq_true DH) (of_decide_eq_true DH);have:=(Array.getElem?_eq_some_iff.1 ho).1;omega
 refine⟨kS,Go.Proofs.cell_of_shapedOpen_int (zero:=#[.int .i64 0]) (t:=3) hs (of_decide_eq_true DH) DH rfl DH DH Tryz.underlying3,?_,?_,?_⟩
 ·obtain⟨g,t,cs,fuel,p,hg,ht,hv,hd⟩:=Lib.laidMet.reads hL pow10_mem;obtain rfl:=Option.some.inj ((show Tryz.prog.globalNamed "internal/strconv.uint64pow10" =some 2 by kernel_rfl).symm.trans hg);obtain rfl:=Option.some.inj ((show(Tryz.prog.globals[2]?).map (·.type)=some 320 by kernel_rfl).symm.trans ht);unfold Lib.TabIs;rw[hv,<-Lib.cells_of_tab Tryz.underlying320 Tryz.underlying226 DH DH hd]
 ·obtain⟨g,t,cs,fuel,p,hg,ht,hv,hd⟩:=Lib.laidMet.reads hL spc_mem;obtain rfl:=Option.some.inj ((show Tryz.prog.globalNamed "strings.asciiSpace" =some 3 by kernel_rfl).symm.trans hg);obtain rfl:=Option.some.inj ((show(Tryz.prog.globals[3]?).map (·.type)=some 300 by kernel_rfl).symm.trans ht);unfold Lib.TabIs;rw[hv,<-Lib.cells_of_tab Tryz.underlying300 Tryz.underlying5 DH DH hd]
 obtain⟨g,t,cs,fuel,p,hg,ht,hv,hd⟩:=Lib.laidMet.reads hL signs_mem;have oB:Tryz.prog.globalNamed "lading/lex.signs" =some 0:=DH;obtain rfl:=Option.some.inj (oB.symm.trans hg);obtain rfl:=Option.some.inj ((show(Tryz.prog.globals[0]?).map (·.type)=some 262 by kernel_rfl).symm.trans ht);intro i x hx;have hc:=cells_of_strs Tryz.underlying262 Tryz.underlying9 DH DH hd;exact cell_of_strs oB hv hc i x.data.toList (by rw[List.getElem?_map,hx];rfl)
end Go.Proofs.YtmpopphjaggeoaaGreatDoor
