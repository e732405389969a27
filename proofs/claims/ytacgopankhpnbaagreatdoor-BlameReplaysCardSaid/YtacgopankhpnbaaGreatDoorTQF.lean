/- Texts of this seat, joined. -/
import Derived.Test.YtacgopankhpnbaaGreatDoorCards
import Derived.Test.YtacgopankhpnbaaGreatDoorTie
import Derived.ProofKit
import Derived.OpenShut
import Derived.Lay
import Derived.LaidMore
import Derived.Deep.DeepHandedRow
import Derived.Lib.LaidU8
import Derived.Test.YtacgopankhpnbaaGreatDoorTQE
set_option linter.unusedVariables false
set_option linter.unusedSimpArgs false
namespace Go.Proofs.YtacgopankhpnbaaGreatDoor
open Go.ChangeShapes Go.WideShapes Go.ChangeAt Go.RowKit
open Go.ChangeMaps (open_string shut_string)
theorem aBf{p:Prop}(h:p:=by kernel_rfl):p:=h
theorem own:ownKnob Tryz.prog.godebug=none:=aBf
abbrev gM:List (String×DataW Unit):=Rows.stepSortsRow.laid
noncomputable def mA (os:Os):World:=World.laidAll Tryz.prog os gM
theorem seat_met(os:Os)(args:Array Value):laidMet Tryz.prog gM ((mA os).forCall (fun _ _=>0) ⟨#[],args,[]⟩).memory:=laidMet_laidAll _ aBf aBf
theorem seat_plain(w:World):laidMetH Tryz.prog gM w=laidMet Tryz.prog gM w:=MakeChecks.laidMetH_plain _ _ _ aBf
theorem seat_shaped(os:Os)(args:Array Value):((mA os).forCall (fun _ _=>0) ⟨#[],args,[]⟩).Shaped Tryz.prog:=World.shaped_of_ZipB aBf aBf
def rA{H:Type}(zs:List (List UInt8)):DataW H:=.agg (zs.map fun z=>.lit (.string z))
theorem cells_of_strs{H:Type}{enc:TypeId×Value->H}{P:Program}{w:World}{base:Nat}{sp:Nat->Bool}{held:Bool}{fuel:Nat}{t e:TypeId}{n:Nat}{cs:List Value}{zs:List (List UInt8)}{p:List MemPlace}
  (ht:P.underlying t=some (.array n e)) (he:P.underlying e=some .string) (hce:P.cellsOf e=1) (hct:P.cellsOf t=n)
  (h:DataW.trod enc P w base sp held fuel t cs=some (rA zs,p)):cs=zs.map fun z=>Value.string ⟨z.toArray⟩:=by
 cases fuel with
 |zero=>simp[DataW.trod] at h
 |succ fuel=>
  simp only[DataW.trod,ht,hce,hct,Nat.mul_one] at h;split at h
  ·rename_i hl;obtain⟨xs,hm,hx⟩:=Option.map_eq_some_iff.1 h
   have hxs:xs.map (·.1)=zs.map fun z=>(DataW.lit (.string z):DataW H):=by
    have:=congrArg Prod.fst hx;simpa[rA] using this
   have I7:xs.length=n:=by simpa using Lib.mapM_length hm
   have hzl:zs.length=n:=by
    have:=congrArg List.length hxs;simp at this;omega
   apply List.ext_getElem?;intro i;by_cases hi:i<n
   ·obtain⟨b,hb,hf⟩:=Lib.mapM_at hm i i (by simp[hi]);obtain⟨z,hc,rfl,_⟩:=DataW.trod_string he hf
    have h1:cs[i]? =some (.string z):=by
     have:=congrArg (·[0]?) hc;simpa[List.getElem?_take,List.getElem?_drop] using this
    (have h2:(xs.map (·.1))[i]? =some (DataW.lit (.string z.data.toList):DataW H):=by simp[hb]);rw[hxs] at h2;simp only[List.getElem?_map,Option.map_eq_some_iff,DataW.lit.injEq,Lit.string.injEq] at h2;obtain⟨z',LI,rfl⟩:=h2;simp[h1,LI]
   rw[List.getElem?_eq_none (by omega),List.getElem?_eq_none (by simp;omega)]
  cases h
theorem cell_of_strs{W:World}{name:String}{g:Nat}{cs:Array Value}{zs:List (List UInt8)}(hg:Tryz.prog.globalNamed name=some g)(hv:W.var? Tryz.prog name=some cs)(wC:cs.toList=zs.map fun z=>Value.string ⟨z.toArray⟩)(i:Nat)(x:List UInt8)(hx:zs[i]? =some x):
  W.cell? ⟨g,i,none⟩=some (.string ⟨x.toArray⟩):=by
 have:=World.var?_cell hg hv i;rw[this,<-Array.getElem?_toList,wC,List.getElem?_map,hx];rfl
theorem spc_eq:(Rows.laid_strings_asciiSpace:DataW Unit)=Lib.tabData .u8 Lib.asciiSpaceTab:=aBf
theorem spc_mem:("strings.asciiSpace",Lib.tabData .u8 Lib.asciiSpaceTab)∈gM:=by
 rw[<-spc_eq];simp[gM,Rows.stepSortsRow]
theorem signs_eq:(Rows.laid_lading_lex_signs:DataW Unit)=rA (gL.map fun x=>x.data.toList):=aBf
theorem signs_mem:("lading/lex.signs",rA (gL.map fun x=>x.data.toList))∈gM:=by
 rw[<-signs_eq];simp[gM,Rows.stepSortsRow]
theorem words_eq:(Rows.laid_lading_code_words:DataW Unit)=rA jW:=aBf
theorem words_mem:("lading/code.words",rA jW)∈gM:=by
 rw[<-words_eq];simp[gM,Rows.stepSortsRow]
theorem pow10_eq:(Rows.laid_internal_strconv_uint64pow10:DataW Unit)=Lib.tabData .u64 Lib.pow10Tab:=aBf
theorem pow10_mem:("internal/strconv.uint64pow10",Lib.tabData .u64 Lib.pow10Tab)∈gM:=by
 rw[<-pow10_eq];exact .tail _ (.tail _ (.head _))
theorem glob_of{W:World}(hL:laidMetH Tryz.prog gM W)(hs:W.ShapedOpen Tryz.prog):dL W:=by
 rw[seat_plain] at hL
 have tC:11<=W.heap.size:=by
  obtain⟨o,-,ho,-⟩:=hs.2 11 (of_decide_eq_true aBf) (of_decide_eq_true aBf);have:=(Array.getElem?_eq_some_iff.1 ho).1;omega
 refine⟨tC,Go.Proofs.cell_of_shapedOpen_int (zero:=#[.int .i64 0]) (t:=3) hs (of_decide_eq_true aBf) aBf rfl aBf aBf Tryz.underlying3,?_,?_,?_,?_⟩
 ·obtain⟨g,t,cs,fuel,p,hg,ht,hv,hd⟩:=Lib.laidMet.reads hL pow10_mem;obtain rfl:=Option.some.inj ((show Tryz.prog.globalNamed "internal/strconv.uint64pow10" =some 4 by kernel_rfl).symm.trans hg);obtain rfl:=Option.some.inj ((show(Tryz.prog.globals[4]?).map (·.type)=some 292 by kernel_rfl).symm.trans ht);unfold Lib.TabIs;rw[hv,<-Lib.cells_of_tab Tryz.underlying292 Tryz.underlying248 aBf aBf hd]
 ·obtain⟨g,t,cs,fuel,p,hg,ht,hv,hd⟩:=Lib.laidMet.reads hL spc_mem;obtain rfl:=Option.some.inj ((show Tryz.prog.globalNamed "strings.asciiSpace" =some 3 by kernel_rfl).symm.trans hg);obtain rfl:=Option.some.inj ((show(Tryz.prog.globals[3]?).map (·.type)=some 283 by kernel_rfl).symm.trans ht);unfold Lib.TabIs;rw[hv,<-Lib.cells_of_tab Tryz.underlying283 Tryz.underlying5 aBf aBf hd]
 ·obtain⟨g,t,cs,fuel,p,hg,ht,hv,hd⟩:=Lib.laidMet.reads hL signs_mem;have H5:Tryz.prog.globalNamed "lading/lex.signs" =some 1:=aBf;obtain rfl:=Option.some.inj (H5.symm.trans hg);obtain rfl:=Option.some.inj ((show(Tryz.prog.globals[1]?).map (·.type)=some 250 by kernel_rfl).symm.trans ht);intro i x hx;have hc:=cells_of_strs Tryz.underlying250 Tryz.underlying9 aBf aBf hd;exact cell_of_strs H5 hv hc i x.data.toList (by rw[List.getElem?_map,hx];rfl)
 obtain⟨g,t,cs,fuel,p,hg,ht,hv,hd⟩:=Lib.laidMet.reads hL words_mem;have H5:Tryz.prog.globalNamed "lading/code.words" =some 0:=aBf;obtain rfl:=Option.some.inj (H5.symm.trans hg);obtain rfl:=Option.some.inj ((show(Tryz.prog.globals[0]?).map (·.type)=some 221 by kernel_rfl).symm.trans ht);intro i x hx;have hc:=cells_of_strs Tryz.underlying221 Tryz.underlying9 aBf aBf hd;exact cell_of_strs H5 hv hc i x hx
end Go.Proofs.YtacgopankhpnbaaGreatDoor
