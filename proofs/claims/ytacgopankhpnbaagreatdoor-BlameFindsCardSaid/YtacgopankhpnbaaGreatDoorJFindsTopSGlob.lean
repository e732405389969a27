/- Texts of this seat, joined: Glob. -/
import Derived.Test.YtacgopankhpnbaaGreatDoorJFindsTopA
import Derived.Test.YtacgopankhpnbaaGreatDoorShelf
import Derived.WalkSmall
/- What is known of the package-level variables, in every world that comes. -/
namespace Go.Proofs.YtacgopankhpnbaaGreatDoor
open Go.RowKit

structure Glob (w : World) : Prop where
  big : 11 ≤ w.heap.size
  maxLen : ∃ m, w.cell? ⟨2, 0, none⟩ = some (.int .i64 m)
  pow10 : Lib.TabIs Tryz.prog w "internal/strconv.uint64pow10" .u64 Lib.pow10Tab

theorem Glob.later {w w' : World} (h : Glob w) (hb : Below w.heap.size w w') : Glob w' := by
  refine ⟨Nat.le_trans h.big hb.size, ?_, ?_⟩
  · obtain ⟨m, hm⟩ := h.maxLen
    exact ⟨m, cell_later hb hm⟩
  · exact var?_below (g := 4) hb (by kernel_rfl) (by have := h.big; omega) h.pow10
end Go.Proofs.YtacgopankhpnbaaGreatDoor
