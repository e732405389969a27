/- Texts of this seat, joined. -/
import Derived.WalkSmall
import Derived.Test.YtacgopankhpnbaaGreatDoorTQB
import Derived.Test.YtacgopankhpnbaaGreatDoorTQC
import Derived.Test.YtacgopankhpnbaaGreatDoorTQD
set_option linter.unusedVariables false
set_option linter.unusedSimpArgs false
namespace Go.Proofs.YtacgopankhpnbaaGreatDoor
open Go.RowKit
structure dL (w:World):Prop where
 big:11<=w.heap.size
 maxLen:∃m,w.cell? ⟨2,0,none⟩=some (.int .i64 m)
 pow10:Lib.TabIs Tryz.prog w "internal/strconv.uint64pow10" .u64 Lib.pow10Tab
 spc:Lib.TabIs Tryz.prog w "strings.asciiSpace" .u8 Lib.asciiSpaceTab
 signs:∀i x,gL[i]? =some x->w.cell? ⟨1,i,none⟩=some (.string x)
 words:∀i x,jW[i]? =some x->w.cell? ⟨0,i,none⟩=some (.string (bs x))
theorem dL.later{w w':World}(h:dL w)(hb:Below w.heap.size w w'):dL w':=by
 refine⟨Nat.le_trans h.big hb.size,?_,?_,?_,fun i x hx=>aC hb (h.signs i x hx),fun i x hx=>aC hb (h.words i x hx)⟩
 ·obtain⟨m,hm⟩:=h.maxLen;exact⟨m,aC hb hm⟩
 ·exact var?_below (g:=4) hb (by kernel_rfl) (by have:=h.big;omega) h.pow10
 exact var?_below (g:=3) hb (by kernel_rfl) (by have:=h.big;omega) h.spc
end Go.Proofs.YtacgopankhpnbaaGreatDoor
