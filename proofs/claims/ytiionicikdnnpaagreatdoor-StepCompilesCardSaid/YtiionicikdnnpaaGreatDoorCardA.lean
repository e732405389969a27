/- Texts of this seat, joined. -/
import Derived.Test.YtiionicikdnnpaaGreatDoorCards
import Derived.Test.YtiionicikdnnpaaGreatDoorTie
import Derived.Test.YtiionicikdnnpaaGreatDoorGlob
import Derived.ProofKit
import Derived.OpenShut
import Derived.Lay
import Derived.LaidMore
import Derived.Deep.DeepHandedRow
import Derived.Lib.LaidU8
set_option linter.unusedVariables false
set_option linter.unusedSimpArgs false
namespace Go.Proofs.YtiionicikdnnpaaGreatDoor
open Go.ChangeShapes Go.WideShapes Go.ChangeAt Go.RowKit
open Go.ChangeMaps (open_string shut_string)
theorem ZG{p:Prop}(h:p:=by kernel_rfl):p:=h
theorem own:ownKnob Tryz.prog.godebug=none:=ZG
abbrev jO:List (String×DataW Unit):=Rows.stepCompilesRow.laid
noncomputable def seatWorld (os:Os):World:=World.laidAll Tryz.prog os jO
theorem seat_met(os:Os)(args:Array Value):laidMet Tryz.prog jO ((seatWorld os).forCall (fun _ _=>0) ⟨#[],args,[]⟩).memory:=laidMet_laidAll _ ZG ZG
theorem seat_plain(w:World):laidMetH Tryz.prog jO w=laidMet Tryz.prog jO w:=MakeChecks.laidMetH_plain _ _ _ ZG
theorem seat_shaped(os:Os)(args:Array Value):((seatWorld os).forCall (fun _ _=>0) ⟨#[],args,[]⟩).Shaped Tryz.prog:=World.shaped_of_ZipB ZG ZG
def qN{H:Type}(zs:List (List UInt8)):DataW H:=.agg (zs.map fun z=>.lit (.string z))
theorem cells_of_strs{H:Type}{enc:TypeId×Value->H}{P:Program}{w:World}{base:Nat}{sp:Nat->Bool}{held:Bool}{fuel:Nat}{t e:TypeId}{n:Nat}{cs:List Value}{zs:List (List UInt8)}{p:List MemPlace}
  (ht:P.underlying t=some (.array n e)) (he:P.underlying e=some .string) (hce:P.cellsOf e=1) (hct:P.cellsOf t=n)
  (h:DataW.trod enc P w base sp held fuel t cs=some (qN zs,p)):cs=zs.map fun z=>Value.string ⟨z.toArray⟩:=by
 cases fuel with
 |zero=>simp[DataW.trod] at h
 |succ fuel=>
  simp only[DataW.trod,ht,hce,hct,Nat.mul_one] at h;split at h
  ·rename_i hl;obtain⟨xs,hm,hx⟩:=Option.map_eq_some_iff.1 h
   have NB:xs.map (·.1)=zs.map fun z=>(DataW.lit (.string z):DataW H):=by
    have:=congrArg Prod.fst hx;simpa[qN] using this
   have QQ:xs.length=n:=by simpa using Lib.mapM_length hm
   have hzl:zs.length=n:=by
    have:=congrArg List.length NB;simp at this;omega
   apply List.ext_getElem?;intro i;by_cases hi:i<n
   ·obtain⟨b,hb,hf⟩:=Lib.mapM_at hm i i (by simp[hi]);obtain⟨z,hc,rfl,_⟩:=DataW.trod_string he hf
    have h1:cs[i]? =some (.string z):=by
     have:=congrArg (·[0]?) hc;simpa[List.getElem?_take,List.getElem?_drop] using this
    (have h2:(xs.map (·.1))[i]? =some (DataW.lit (.string z.data.toList):DataW H):=by simp[hb]);rw[NB] at h2;simp only[List.getElem?_map,Option.map_eq_some_iff,DataW.lit.injEq,Lit.string.injEq] at h2;obtain⟨z',hz',rfl⟩:=h2;simp[h1,hz']
   rw[List.getElem?_eq_none (by omega),List.getElem?_eq_none (by simp;omega)]
  cases h
theorem cell_of_strs{W:World}{name:String}{g:Nat}{cs:Array Value}{zs:List (List UInt8)}(hg:Tryz.prog.globalNamed name=some g)(hv:W.var? Tryz.prog name=some cs)(yE:cs.toList=zs.map fun z=>Value.string ⟨z.toArray⟩)(i:Nat)(x:List UInt8)(hx:zs[i]? =some x):
  W.cell? ⟨g,i,none⟩=some (.string ⟨x.toArray⟩):=by
 have:=World.var?_cell hg hv i;rw[this,<-Array.getElem?_toList,yE,List.getElem?_map,hx];rfl
theorem spc_eq:(Rows.laid_strings_asciiSpace:DataW Unit)=Lib.tabData .u8 Lib.asciiSpaceTab:=ZG
theorem spc_mem:("strings.asciiSpace",Lib.tabData .u8 Lib.asciiSpaceTab)∈jO:=by
 rw[<-spc_eq];simp[jO,Rows.stepCompilesRow]
theorem signs_eq:(Rows.laid_lading_lex_signs:DataW Unit)=qN (eM.map fun x=>x.data.toList):=ZG
theorem signs_mem:("lading/lex.signs",qN (eM.map fun x=>x.data.toList))∈jO:=by
 rw[<-signs_eq];simp[jO,Rows.stepCompilesRow]
theorem words_eq:(Rows.laid_lading_code_words:DataW Unit)=qN jZ:=ZG
theorem words_mem:("lading/code.words",qN jZ)∈jO:=by
 rw[<-words_eq];simp[jO,Rows.stepCompilesRow]
theorem pow10_eq:(Rows.laid_internal_strconv_uint64pow10:DataW Unit)=Lib.tabData .u64 Lib.pow10Tab:=ZG
theorem pow10_mem:("internal/strconv.uint64pow10",Lib.tabData .u64 Lib.pow10Tab)∈jO:=by
 rw[<-pow10_eq];exact .tail _ (.tail _ (.head _))
theorem glob_of{W:World}(hL:laidMetH Tryz.prog jO W)(hs:W.ShapedOpen Tryz.prog):eJ W:=by
 rw[seat_plain] at hL
 have tQ:11<=W.heap.size:=by
  obtain⟨o,-,ho,-⟩:=hs.2 11 (of_decide_eq_true ZG) (of_decide_eq_true ZG);have:=(Array.getElem?_eq_some_iff.1 ho).1;omega
 refine⟨tQ,Go.Proofs.cell_of_shapedOpen_int (zero:=#[.int .i64 0]) (t:=3) hs (of_decide_eq_true ZG) ZG rfl ZG ZG Tryz.underlying3,?_,?_,?_,?_⟩
 ·obtain⟨g,t,cs,fuel,p,hg,ht,hv,hd⟩:=Lib.laidMet.reads hL pow10_mem;obtain rfl:=Option.some.inj ((show Tryz.prog.globalNamed "internal/strconv.uint64pow10" =some 5 by kernel_rfl).symm.trans hg);obtain rfl:=Option.some.inj ((show(Tryz.prog.globals[5]?).map (·.type)=some 303 by kernel_rfl).symm.trans ht);unfold Lib.TabIs;rw[hv,<-Lib.cells_of_tab Tryz.underlying303 Tryz.underlying280 ZG ZG hd]
 ·obtain⟨g,t,cs,fuel,p,hg,ht,hv,hd⟩:=Lib.laidMet.reads hL spc_mem;obtain rfl:=Option.some.inj ((show Tryz.prog.globalNamed "strings.asciiSpace" =some 1 by kernel_rfl).symm.trans hg);obtain rfl:=Option.some.inj ((show(Tryz.prog.globals[1]?).map (·.type)=some 208 by kernel_rfl).symm.trans ht);unfold Lib.TabIs;rw[hv,<-Lib.cells_of_tab Tryz.underlying208 Tryz.underlying5 ZG ZG hd]
 ·obtain⟨g,t,cs,fuel,p,hg,ht,hv,hd⟩:=Lib.laidMet.reads hL signs_mem;have yI:Tryz.prog.globalNamed "lading/lex.signs" =some 0:=ZG;obtain rfl:=Option.some.inj (yI.symm.trans hg);obtain rfl:=Option.some.inj ((show(Tryz.prog.globals[0]?).map (·.type)=some 189 by kernel_rfl).symm.trans ht);intro i x hx;have hc:=cells_of_strs Tryz.underlying189 Tryz.underlying9 ZG ZG hd;exact cell_of_strs yI hv hc i x.data.toList (by rw[List.getElem?_map,hx];rfl)
 obtain⟨g,t,cs,fuel,p,hg,ht,hv,hd⟩:=Lib.laidMet.reads hL words_mem;have yI:Tryz.prog.globalNamed "lading/code.words" =some 4:=ZG;obtain rfl:=Option.some.inj (yI.symm.trans hg);obtain rfl:=Option.some.inj ((show(Tryz.prog.globals[4]?).map (·.type)=some 251 by kernel_rfl).symm.trans ht);intro _ i x hx;have hc:=cells_of_strs Tryz.underlying251 Tryz.underlying9 ZG ZG hd;exact cell_of_strs yI hv hc i x hx
end Go.Proofs.YtiionicikdnnpaaGreatDoor
