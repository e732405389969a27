/- Texts of this seat, joined. -/
import Derived.Test.YtiionicikdnnpaaGreatDoorPB
import Derived.Test.YtiionicikdnnpaaGreatDoorShelf
import Derived.Test.YtiionicikdnnpaaGreatDoorPE
import Derived.Test.YtiionicikdnnpaaGreatDoorWw
import Derived.WalkSmall
set_option linter.unusedVariables false
set_option linter.unusedSimpArgs false
set_option linter.constructorNameAsVariable false
namespace Go.Proofs.YtiionicikdnnpaaGreatDoor
open Go.RowKit
structure hZ (w:World):Prop where
 big:11<=w.heap.size
 maxLen:∃m,w.cell? ⟨2,0,none⟩=some (.int .i64 m)
 pow10:Lib.TabIs Tryz.prog w "internal/strconv.uint64pow10" .u64 Lib.pow10Tab
 spc:Lib.TabIs Tryz.prog w "strings.asciiSpace" .u8 Lib.asciiSpaceTab
 signs:∀i x,eZ[i]? =some x->w.cell? ⟨0,i,none⟩=some (.string x)
 words:wordsOn=true->∀i x,wordsL[i]? =some x->w.cell? ⟨4,i,none⟩=some (.string (bs x))
theorem hZ.later{w w':World}(h:hZ w)(hb:Below w.heap.size w w'):hZ w':=by
 refine⟨Nat.le_trans h.big hb.size,?_,?_,?_,fun i x hx=>aB hb (h.signs i x hx),fun ho i x hx=>aB hb (h.words ho i x hx)⟩
 ·obtain⟨m,hm⟩:=h.maxLen;exact⟨m,aB hb hm⟩
 ·exact var?_below (g:=5) hb (by kernel_rfl) (by have:=h.big;omega) h.pow10
 exact var?_below (g:=1) hb (by kernel_rfl) (by have:=h.big;omega) h.spc
end Go.Proofs.YtiionicikdnnpaaGreatDoor
