/- Texts of this seat, joined: CardA. -/
import Derived.Test.YtacgopankhpnbaaGreatDoorCards
import Derived.Test.YtacgopankhpnbaaGreatDoorTie
import Derived.Test.YtacgopankhpnbaaGreatDoorJFindsTopSGlob
import Derived.ProofKit
import Derived.OpenShut
import Derived.Lay
import Derived.LaidMore
import Derived.Deep.DeepHandedRow
import Derived.Lib.LaidTab
import Derived.Lib.LaidU8
/- What every card of this seat wants: the witness's world with the nine listed variables laid, and what the list gives. -/
namespace Go.Proofs.YtacgopankhpnbaaGreatDoor
open Go.ChangeShapes Go.WideShapes Go.ChangeAt Go.RowKit
open Go.ChangeMaps (open_string shut_string)

theorem own : ownKnob Tryz.prog.godebug = none := by kernel_rfl
/-- The nine listed variables; alike in all rows of this seat. -/
abbrev seatLaid : List (String × DataW Unit) := Rows.stepSortsRow.laid
noncomputable def seatWorld (os : Os) : World := World.laidAll Tryz.prog os seatLaid
theorem seat_met (os : Os) (args : Array Value) : laidMet Tryz.prog seatLaid ((seatWorld os).forCall (fun _ _ => 0) ⟨#[], args, []⟩).memory := laidMet_laidAll _ (by kernel_rfl) (by kernel_rfl)
theorem seat_plain (w : World) : laidMetH Tryz.prog seatLaid w = laidMet Tryz.prog seatLaid w := MakeChecks.laidMetH_plain _ _ _ (by kernel_rfl)
theorem seat_shaped (os : Os) (args : Array Value) : ((seatWorld os).forCall (fun _ _ => 0) ⟨#[], args, []⟩).Shaped Tryz.prog := World.shaped_of_ZipB (by kernel_rfl) (by kernel_rfl)

theorem pow10_eq : (Rows.laid_internal_strconv_uint64pow10 : DataW Unit) = Lib.tabData .u64 Lib.pow10Tab := by kernel_rfl
theorem pow10_mem : ("internal/strconv.uint64pow10", Lib.tabData .u64 Lib.pow10Tab) ∈ seatLaid := by
  rw [← pow10_eq]
  exact .tail _ (.tail _ (.head _))
theorem glob_of {W : World} (hL : laidMetH Tryz.prog seatLaid W) (hs : W.ShapedOpen Tryz.prog) : Glob W := by
  rw [seat_plain] at hL
  have hbig : 11 ≤ W.heap.size := by
    obtain ⟨o, -, ho, -⟩ := hs.2 11 (of_decide_eq_true (by kernel_rfl)) (of_decide_eq_true (by kernel_rfl))
    have := (Array.getElem?_eq_some_iff.1 ho).1
    omega
  refine ⟨hbig, Go.Proofs.cell_of_shapedOpen_int (zero := #[.int .i64 0]) (t := 3) hs (of_decide_eq_true (by kernel_rfl)) (by kernel_rfl) rfl (by kernel_rfl) (by kernel_rfl) Tryz.underlying3, ?_⟩
  obtain ⟨g, t, cs, fuel, p, hg, ht, hv, hd⟩ := Lib.laidMet.reads hL pow10_mem
  obtain rfl := Option.some.inj ((show Tryz.prog.globalNamed "internal/strconv.uint64pow10" = some 4 by kernel_rfl).symm.trans hg)
  obtain rfl := Option.some.inj ((show (Tryz.prog.globals[4]?).map (·.type) = some 292 by kernel_rfl).symm.trans ht)
  unfold Lib.TabIs
  rw [hv, ← Lib.cells_of_tab Tryz.underlying292 Tryz.underlying248 (by kernel_rfl) (by kernel_rfl) hd]
end Go.Proofs.YtacgopankhpnbaaGreatDoor
