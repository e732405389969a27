/-
  DERIVED. GIVEN WITH THE SEED: THE CARDS: each row of YtmpopphjaggeoaaGreatDoorRows.lean that lists a variable, with what it lists TIED to the program's text (the seventh form; the later family's looks); each row that meets fmt, with fmt's text TOLD by the authors' own Lean function (tested against real Go, not proved from fmt's source: count such statements apart). THE CARD IS WHAT COUNTS. Prove the row's statement (the work); the ties are given (YtmpopphjaggeoaaGreatDoorTie.lean); close each card by the builder's one call (the guide's Derived/Test/ToyasCard.lean, 'card_holds'). Laid BY PROGRAM, IN A SANDBOX (cutbox-door.mjs). By AI agents, Wed Nov 11 2026. No macro, syntax, notation, axiom, sorry.
-/
import Derived.Test.YtmpopphjaggeoaaGreatDoorRows
import GoSem.ClaimSeven
namespace Go.Proofs.YtmpopphjaggeoaaGreatDoor
namespace Rows

/-- THE TIED CARD OF 'ladinglaw24.FactKeys'. -/
def factKeysCard : Claim7 := { stood := { row := factKeysRow, standIns := [], harness := (true, "7a988366d10aae7c98279c6de06be5c6ae99f8e5fd7c9f78ed094fc161954f26"), looks := true }, kinds := [], alts := [], laidByText := true, laidKinds := [.data, .data, .data, .data, .sentinel, .sentinel, .listed, .data, .data, .pinned], laidTests := true, laidLooks := .later }
def FactKeysCardSaid : Prop := Claim7.holds Tryz.pinned (.plain (OpenSpec.ofChange factKeysSpec)) factKeysCard

/-- THE TIED CARD OF 'ladinglaw24.FactBack'. -/
def factBackCard : Claim7 := { stood := { row := factBackRow, standIns := [], harness := (true, "7a988366d10aae7c98279c6de06be5c6ae99f8e5fd7c9f78ed094fc161954f26"), looks := true }, kinds := [], alts := [], laidByText := true, laidKinds := [.data, .data, .data, .data, .sentinel, .sentinel, .listed, .data, .data, .pinned], laidTests := true, laidLooks := .later }
def FactBackCardSaid : Prop := Claim7.holds Tryz.pinned (.plain (OpenSpec.ofChange factBackSpec)) factBackCard

/-- THE TIED CARD OF 'ladinglaw24.FactLog'. -/
def factLogCard : Claim7 := { stood := { row := factLogRow, standIns := [], harness := (true, "7a988366d10aae7c98279c6de06be5c6ae99f8e5fd7c9f78ed094fc161954f26"), looks := true }, kinds := [], alts := [], laidByText := true, laidKinds := [.data, .data, .data, .data, .sentinel, .sentinel, .listed, .data, .data, .pinned], laidTests := true, laidLooks := .later }
def FactLogCardSaid : Prop := Claim7.holds Tryz.pinned (.plain (OpenSpec.ofChange factLogSpec)) factLogCard

/-- THE TIED CARD OF 'ladinglaw24.FactAdmits'. -/
def factAdmitsCard : Claim7 := { stood := { row := factAdmitsRow, standIns := [], harness := (true, "7a988366d10aae7c98279c6de06be5c6ae99f8e5fd7c9f78ed094fc161954f26"), looks := true }, kinds := [], alts := [], laidByText := true, laidKinds := [.data, .data, .data, .data, .sentinel, .sentinel, .listed, .data, .data, .pinned], laidTests := true, laidLooks := .later }
def FactAdmitsCardSaid : Prop := Claim7.holds Tryz.pinned (.plain (OpenSpec.ofChange factAdmitsSpec)) factAdmitsCard

/-- THE SECOND FORM's CARD OF 'ladinglaw24.FactKeys'. -/
def factKeysUptoCard : Claim7 := { stood := { row := factKeysUptoRow, standIns := [], harness := (true, "7a988366d10aae7c98279c6de06be5c6ae99f8e5fd7c9f78ed094fc161954f26"), looks := true }, kinds := [], alts := [], laidByText := true, laidKinds := [.data, .data, .data, .data, .sentinel, .sentinel, .listed, .data, .data, .pinned], laidTests := true, laidLooks := .later }
def FactKeysUptoCardSaid : Prop := Claim7.holds Tryz.pinned (.plain (OpenSpec.upto factKeysSpec)) factKeysUptoCard

/-- THE SECOND FORM's CARD OF 'ladinglaw24.FactBack'. -/
def factBackUptoCard : Claim7 := { stood := { row := factBackUptoRow, standIns := [], harness := (true, "7a988366d10aae7c98279c6de06be5c6ae99f8e5fd7c9f78ed094fc161954f26"), looks := true }, kinds := [], alts := [], laidByText := true, laidKinds := [.data, .data, .data, .data, .sentinel, .sentinel, .listed, .data, .data, .pinned], laidTests := true, laidLooks := .later }
def FactBackUptoCardSaid : Prop := Claim7.holds Tryz.pinned (.plain (OpenSpec.upto factBackSpec)) factBackUptoCard

/-- THE SECOND FORM's CARD OF 'ladinglaw24.FactLog'. -/
def factLogUptoCard : Claim7 := { stood := { row := factLogUptoRow, standIns := [], harness := (true, "7a988366d10aae7c98279c6de06be5c6ae99f8e5fd7c9f78ed094fc161954f26"), looks := true }, kinds := [], alts := [], laidByText := true, laidKinds := [.data, .data, .data, .data, .sentinel, .sentinel, .listed, .data, .data, .pinned], laidTests := true, laidLooks := .later }
def FactLogUptoCardSaid : Prop := Claim7.holds Tryz.pinned (.plain (OpenSpec.upto factLogSpec)) factLogUptoCard

/-- THE SECOND FORM's CARD OF 'ladinglaw24.FactAdmits'. -/
def factAdmitsUptoCard : Claim7 := { stood := { row := factAdmitsUptoRow, standIns := [], harness := (true, "7a988366d10aae7c98279c6de06be5c6ae99f8e5fd7c9f78ed094fc161954f26"), looks := true }, kinds := [], alts := [], laidByText := true, laidKinds := [.data, .data, .data, .data, .sentinel, .sentinel, .listed, .data, .data, .pinned], laidTests := true, laidLooks := .later }
def FactAdmitsUptoCardSaid : Prop := Claim7.holds Tryz.pinned (.plain (OpenSpec.upto factAdmitsSpec)) factAdmitsUptoCard
end Rows
end Go.Proofs.YtmpopphjaggeoaaGreatDoor
