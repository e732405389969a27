/- Texts of this seat, joined. -/
import Derived.Test.YtmpopphjaggeoaaGreatDoorKB
import Derived.Test.YtmpopphjaggeoaaGreatDoorShelf
import Derived.Test.YtmpopphjaggeoaaGreatDoorKD
import Derived.Test.YtmpopphjaggeoaaGreatDoorWw
import Derived.WalkSmall
set_option linter.unusedVariables false
set_option linter.unusedSimpArgs false
set_option linter.constructorNameAsVariable false
namespace Go.Proofs.YtmpopphjaggeoaaGreatDoor
open Go.RowKit
structure bC (w:World):Prop where
 big:11<=w.heap.size
 maxLen:∃m,w.cell? ⟨1,0,none⟩=some (.int .i64 m)
 pow10:Lib.TabIs Tryz.prog w "internal/strconv.uint64pow10" .u64 Lib.pow10Tab
 spc:Lib.TabIs Tryz.prog w "strings.asciiSpace" .u8 Lib.asciiSpaceTab
 signs:∀i x,signsL[i]? =some x->w.cell? ⟨0,i,none⟩=some (.string x)
theorem bC.later{w w':World}(h:bC w)(hb:Below w.heap.size w w'):bC w':=by
 refine⟨Nat.le_trans h.big hb.size,?_,?_,?_,fun i x hx=>aD hb (h.signs i x hx)⟩
 ·obtain⟨m,hm⟩:=h.maxLen;exact⟨m,aD hb hm⟩
 ·exact var?_below (g:=2) hb (by kernel_rfl) (by have:=h.big;omega) h.pow10
 exact var?_below (g:=3) hb (by kernel_rfl) (by have:=h.big;omega) h.spc
end Go.Proofs.YtmpopphjaggeoaaGreatDoor
