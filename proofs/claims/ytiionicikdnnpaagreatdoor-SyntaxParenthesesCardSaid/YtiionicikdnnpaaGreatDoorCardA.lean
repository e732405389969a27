/- Texts of this seat, joined. -/
import Derived.Test.YtiionicikdnnpaaGreatDoorCards
import Derived.Test.YtiionicikdnnpaaGreatDoorTie
import Derived.Test.YtiionicikdnnpaaGreatDoorGlob
import Derived.ProofKit
import Derived.OpenShut
import Derived.Lay
import Derived.LaidMore
import Derived.Deep.DeepHandedRow
import Derived.Lib.LaidU8
set_option linter.unusedVariables false
set_option linter.unusedSimpArgs false
namespace Go.Proofs.YtiionicikdnnpaaGreatDoor
open Go.ChangeShapes Go.WideShapes Go.ChangeAt Go.RowKit
open Go.ChangeMaps (open_string shut_string)
theorem SO{p:Prop}(h:p:=by kernel_rfl):p:=h
theorem own:ownKnob Tryz.prog.godebug=none:=SO
abbrev kI:List (String×DataW Unit):=Rows.syntaxCanonicalRow.laid
noncomputable def seatWorld (os:Os):World:=World.laidAll Tryz.prog os kI
theorem seat_met(os:Os)(args:Array Value):laidMet Tryz.prog kI ((seatWorld os).forCall (fun _ _=>0) ⟨#[],args,[]⟩).memory:=laidMet_laidAll _ SO SO
theorem seat_plain(w:World):laidMetH Tryz.prog kI w=laidMet Tryz.prog kI w:=MakeChecks.laidMetH_plain _ _ _ SO
theorem seat_shaped(os:Os)(args:Array Value):((seatWorld os).forCall (fun _ _=>0) ⟨#[],args,[]⟩).Shaped Tryz.prog:=World.shaped_of_ZipB SO SO
def strsData{H:Type}(zs:List (List UInt8)):DataW H:=.agg (zs.map fun z=>.lit (.string z))
theorem cells_of_strs{H:Type}{enc:TypeId×Value->H}{P:Program}{w:World}{base:Nat}{sp:Nat->Bool}{held:Bool}{fuel:Nat}{t e:TypeId}{n:Nat}{cs:List Value}{zs:List (List UInt8)}{p:List MemPlace}
  (ht:P.underlying t=some (.array n e)) (he:P.underlying e=some .string) (hce:P.cellsOf e=1) (hct:P.cellsOf t=n)
  (h:DataW.trod enc P w base sp held fuel t cs=some (strsData zs,p)):cs=zs.map fun z=>Value.string ⟨z.toArray⟩:=by
 cases fuel with
 |zero=>simp[DataW.trod] at h
 |succ fuel=>
  simp only[DataW.trod,ht,hce,hct,Nat.mul_one] at h;split at h
  ·rename_i hl;obtain⟨xs,hm,hx⟩:=Option.map_eq_some_iff.1 h
   have IW:xs.map (·.1)=zs.map fun z=>(DataW.lit (.string z):DataW H):=by
    have:=congrArg Prod.fst hx;simpa[strsData] using this
   have hxl:xs.length=n:=by simpa using Lib.mapM_length hm
   have hzl:zs.length=n:=by
    have:=congrArg List.length IW;simp at this;omega
   apply List.ext_getElem?;intro i;by_cases hi:i<n
   ·obtain⟨b,hb,hf⟩:=Lib.mapM_at hm i i (by simp[hi]);obtain⟨z,hc,rfl,_⟩:=DataW.trod_string he hf
    have h1:cs[i]? =some (.string z):=by
     have:=congrArg (·[0]?) hc;simpa[List.getElem?_take,List.getElem?_drop] using this
    (have h2:(xs.map (·.1))[i]? =some (DataW.lit (.string z.data.toList):DataW H):=by simp[hb]);rw[IW] at h2;simp only[List.getElem?_map,Option.map_eq_some_iff,DataW.lit.injEq,Lit.string.injEq] at h2;obtain⟨z',hz',rfl⟩:=h2;simp[h1,hz']
   rw[List.getElem?_eq_none (by omega),List.getElem?_eq_none (by simp;omega)]
  cases h
theorem cell_of_strs{W:World}{name:String}{g:Nat}{cs:Array Value}{zs:List (List UInt8)}(hg:Tryz.prog.globalNamed name=some g)(hv:W.var? Tryz.prog name=some cs)(vB:cs.toList=zs.map fun z=>Value.string ⟨z.toArray⟩)(i:Nat)(x:List UInt8)(hx:zs[i]? =some x):
  W.cell? ⟨g,i,none⟩=some (.string ⟨x.toArray⟩):=by
 have:=World.var?_cell hg hv i;rw[this,<-Array.getElem?_toList,vB,List.getElem?_map,hx];rfl
theorem spc_eq:(Rows.laid_strings_asciiSpace:DataW Unit)=Lib.tabData .u8 Lib.asciiSpaceTab:=SO
theorem spc_mem:("strings.asciiSpace",Lib.tabData .u8 Lib.asciiSpaceTab)∈kI:=by
 rw[<-spc_eq];simp[kI,Rows.syntaxCanonicalRow]
theorem signs_eq:(Rows.laid_lading_lex_signs:DataW Unit)=strsData (dU.map fun x=>x.data.toList):=SO
theorem signs_mem:("lading/lex.signs",strsData (dU.map fun x=>x.data.toList))∈kI:=by
 rw[<-signs_eq];simp[kI,Rows.syntaxCanonicalRow]
theorem pow10_eq:(Rows.laid_internal_strconv_uint64pow10:DataW Unit)=Lib.tabData .u64 Lib.pow10Tab:=SO
theorem pow10_mem:("internal/strconv.uint64pow10",Lib.tabData .u64 Lib.pow10Tab)∈kI:=by
 rw[<-pow10_eq];exact .tail _ (.tail _ (.head _))
theorem glob_of{W:World}(hL:laidMetH Tryz.prog kI W)(hs:W.ShapedOpen Tryz.prog):iF W:=by
 rw[seat_plain] at hL
 have tX:11<=W.heap.size:=by
  obtain⟨o,-,ho,-⟩:=hs.2 11 (of_decide_eq_true SO) (of_decide_eq_true SO);have:=(Array.getElem?_eq_some_iff.1 ho).1;omega
 refine⟨tX,Go.Proofs.cell_of_shapedOpen_int (zero:=#[.int .i64 0]) (t:=3) hs (of_decide_eq_true SO) SO rfl SO SO Tryz.underlying3,?_,?_,?_,?_⟩
 ·obtain⟨g,t,cs,fuel,p,hg,ht,hv,hd⟩:=Lib.laidMet.reads hL pow10_mem;obtain rfl:=Option.some.inj ((show Tryz.prog.globalNamed "internal/strconv.uint64pow10" =some 5 by kernel_rfl).symm.trans hg);obtain rfl:=Option.some.inj ((show(Tryz.prog.globals[5]?).map (·.type)=some 303 by kernel_rfl).symm.trans ht);unfold Lib.TabIs;rw[hv,<-Lib.cells_of_tab Tryz.underlying303 Tryz.underlying280 SO SO hd]
 ·obtain⟨g,t,cs,fuel,p,hg,ht,hv,hd⟩:=Lib.laidMet.reads hL spc_mem;obtain rfl:=Option.some.inj ((show Tryz.prog.globalNamed "strings.asciiSpace" =some 1 by kernel_rfl).symm.trans hg);obtain rfl:=Option.some.inj ((show(Tryz.prog.globals[1]?).map (·.type)=some 208 by kernel_rfl).symm.trans ht);unfold Lib.TabIs;rw[hv,<-Lib.cells_of_tab Tryz.underlying208 Tryz.underlying5 SO SO hd]
 ·obtain⟨g,t,cs,fuel,p,hg,ht,hv,hd⟩:=Lib.laidMet.reads hL signs_mem;have xT:Tryz.prog.globalNamed "lading/lex.signs" =some 0:=SO;obtain rfl:=Option.some.inj (xT.symm.trans hg);obtain rfl:=Option.some.inj ((show(Tryz.prog.globals[0]?).map (·.type)=some 189 by kernel_rfl).symm.trans ht);intro i x hx;have hc:=cells_of_strs Tryz.underlying189 Tryz.underlying9 SO SO hd;exact cell_of_strs xT hv hc i x.data.toList (by rw[List.getElem?_map,hx];rfl)
 intro h;cases h
end Go.Proofs.YtiionicikdnnpaaGreatDoor
