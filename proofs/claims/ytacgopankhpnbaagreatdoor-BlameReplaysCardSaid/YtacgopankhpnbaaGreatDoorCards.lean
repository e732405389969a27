/-
  DERIVED. GIVEN WITH THE SEED: THE CARDS: each row of YtacgopankhpnbaaGreatDoorRows.lean that lists a variable, with what it lists TIED to the program's text (the seventh form; the later family's looks); each row that meets fmt, with fmt's text TOLD by the authors' own Lean function (tested against real Go, not proved from fmt's source: count such statements apart). THE CARD IS WHAT COUNTS. Prove the row's statement (the work); the ties are given (YtacgopankhpnbaaGreatDoorTie.lean); close each card by the builder's one call (the guide's Derived/Test/ToyasCard.lean, 'card_holds'). Laid BY PROGRAM, IN A SANDBOX (cutbox-door.mjs). By AI agents, Wed Nov 11 2026. No macro, syntax, notation, axiom, sorry.
-/
import Derived.Test.YtacgopankhpnbaaGreatDoorRows
import GoSem.ClaimSeven
namespace Go.Proofs.YtacgopankhpnbaaGreatDoor
namespace Rows

/-- THE TIED CARD OF 'ladinglaw32.StepPure'. -/
def stepPureCard : Claim7 := { stood := { row := stepPureRow, standIns := [], harness := (true, "b833779d8378e5fce628c67cc3a0dabc5e2210d5d0bc19357697e6b883b3456f"), looks := true }, kinds := [], alts := [], laidByText := true, laidKinds := [.data, .data, .data, .data, .listed, .data, .data, .widerDeep, .pinned], laidTests := true, laidLooks := .later }
def StepPureCardSaid : Prop := Claim7.holds Tryz.pinned (.plain (OpenSpec.ofChange stepPureSpec)) stepPureCard

/-- THE TIED CARD OF 'ladinglaw32.StepSees'. -/
def stepSeesCard : Claim7 := { stood := { row := stepSeesRow, standIns := [], harness := (true, "b833779d8378e5fce628c67cc3a0dabc5e2210d5d0bc19357697e6b883b3456f"), looks := true }, kinds := [], alts := [], laidByText := true, laidKinds := [.data, .data, .data, .data, .listed, .data, .data, .widerDeep, .pinned], laidTests := true, laidLooks := .later }
def StepSeesCardSaid : Prop := Claim7.holds Tryz.pinned (.plain (OpenSpec.ofChange stepSeesSpec)) stepSeesCard

/-- THE TIED CARD OF 'ladinglaw32.StepSorts'. -/
def stepSortsCard : Claim7 := { stood := { row := stepSortsRow, standIns := [], harness := (true, "b833779d8378e5fce628c67cc3a0dabc5e2210d5d0bc19357697e6b883b3456f"), looks := true }, kinds := [], alts := [], laidByText := true, laidKinds := [.data, .data, .data, .data, .listed, .data, .data, .widerDeep, .pinned], laidTests := true, laidLooks := .later }
def StepSortsCardSaid : Prop := Claim7.holds Tryz.pinned (.plain (OpenSpec.ofChange stepSortsSpec)) stepSortsCard

/-- THE TIED CARD OF 'ladinglaw32.StepLists'. -/
def stepListsCard : Claim7 := { stood := { row := stepListsRow, standIns := [], harness := (true, "b833779d8378e5fce628c67cc3a0dabc5e2210d5d0bc19357697e6b883b3456f"), looks := true }, kinds := [], alts := [], laidByText := true, laidKinds := [.data, .data, .data, .data, .listed, .data, .data, .widerDeep, .pinned], laidTests := true, laidLooks := .later }
def StepListsCardSaid : Prop := Claim7.holds Tryz.pinned (.plain (OpenSpec.ofChange stepListsSpec)) stepListsCard

/-- THE TIED CARD OF 'ladinglaw33.BuildSame'. -/
def buildSameCard : Claim7 := { stood := { row := buildSameRow, standIns := [], harness := (true, "b833779d8378e5fce628c67cc3a0dabc5e2210d5d0bc19357697e6b883b3456f"), looks := true }, kinds := [], alts := [], laidByText := true, laidKinds := [.data, .data, .data, .data, .listed, .data, .data, .widerDeep, .pinned], laidTests := true, laidLooks := .later }
def BuildSameCardSaid : Prop := Claim7.holds Tryz.pinned (.plain (OpenSpec.ofChange buildSameSpec)) buildSameCard

/-- THE TIED CARD OF 'ladinglaw33.BuildOrders'. -/
def buildOrdersCard : Claim7 := { stood := { row := buildOrdersRow, standIns := [], harness := (true, "b833779d8378e5fce628c67cc3a0dabc5e2210d5d0bc19357697e6b883b3456f"), looks := true }, kinds := [], alts := [], laidByText := true, laidKinds := [.data, .data, .data, .data, .listed, .data, .data, .widerDeep, .pinned], laidTests := true, laidLooks := .later }
def BuildOrdersCardSaid : Prop := Claim7.holds Tryz.pinned (.plain (OpenSpec.ofChange buildOrdersSpec)) buildOrdersCard

/-- THE TIED CARD OF 'ladinglaw33.BuildSlices'. -/
def buildSlicesCard : Claim7 := { stood := { row := buildSlicesRow, standIns := [], harness := (true, "b833779d8378e5fce628c67cc3a0dabc5e2210d5d0bc19357697e6b883b3456f"), looks := true }, kinds := [], alts := [], laidByText := true, laidKinds := [.data, .data, .data, .data, .listed, .data, .data, .widerDeep, .pinned], laidTests := true, laidLooks := .later }
def BuildSlicesCardSaid : Prop := Claim7.holds Tryz.pinned (.plain (OpenSpec.ofChange buildSlicesSpec)) buildSlicesCard

/-- THE TIED CARD OF 'ladinglaw33.BuildRefuses'. -/
def buildRefusesCard : Claim7 := { stood := { row := buildRefusesRow, standIns := [], harness := (true, "b833779d8378e5fce628c67cc3a0dabc5e2210d5d0bc19357697e6b883b3456f"), looks := true }, kinds := [], alts := [], laidByText := true, laidKinds := [.data, .data, .data, .data, .listed, .data, .data, .widerDeep, .pinned], laidTests := true, laidLooks := .later }
def BuildRefusesCardSaid : Prop := Claim7.holds Tryz.pinned (.plain (OpenSpec.ofChange buildRefusesSpec)) buildRefusesCard

/-- THE TIED CARD OF 'ladinglaw35.BlameFinds'. -/
def blameFindsCard : Claim7 := { stood := { row := blameFindsRow, standIns := [], harness := (true, "b833779d8378e5fce628c67cc3a0dabc5e2210d5d0bc19357697e6b883b3456f"), looks := true }, kinds := [], alts := [], laidByText := true, laidKinds := [.data, .data, .data, .data, .listed, .data, .data, .widerDeep, .pinned], laidTests := true, laidLooks := .later }
def BlameFindsCardSaid : Prop := Claim7.holds Tryz.pinned (.plain (OpenSpec.ofChange blameFindsSpec)) blameFindsCard

/-- THE TIED CARD OF 'ladinglaw35.BlameBuilds'. -/
def blameBuildsCard : Claim7 := { stood := { row := blameBuildsRow, standIns := [], harness := (true, "b833779d8378e5fce628c67cc3a0dabc5e2210d5d0bc19357697e6b883b3456f"), looks := true }, kinds := [], alts := [], laidByText := true, laidKinds := [.data, .data, .data, .data, .listed, .data, .data, .widerDeep, .pinned], laidTests := true, laidLooks := .later }
def BlameBuildsCardSaid : Prop := Claim7.holds Tryz.pinned (.plain (OpenSpec.ofChange blameBuildsSpec)) blameBuildsCard

/-- THE TIED CARD OF 'ladinglaw35.BlameReplays'. -/
def blameReplaysCard : Claim7 := { stood := { row := blameReplaysRow, standIns := [], harness := (true, "b833779d8378e5fce628c67cc3a0dabc5e2210d5d0bc19357697e6b883b3456f"), looks := true }, kinds := [], alts := [], laidByText := true, laidKinds := [.data, .data, .data, .data, .listed, .data, .data, .widerDeep, .pinned], laidTests := true, laidLooks := .later }
def BlameReplaysCardSaid : Prop := Claim7.holds Tryz.pinned (.plain (OpenSpec.ofChange blameReplaysSpec)) blameReplaysCard

/-- THE TIED CARD OF 'ladinglaw35.BlameConvicts'. -/
def blameConvictsCard : Claim7 := { stood := { row := blameConvictsRow, standIns := [], harness := (true, "b833779d8378e5fce628c67cc3a0dabc5e2210d5d0bc19357697e6b883b3456f"), looks := true }, kinds := [], alts := [], laidByText := true, laidKinds := [.data, .data, .data, .data, .listed, .data, .data, .widerDeep, .pinned], laidTests := true, laidLooks := .later }
def BlameConvictsCardSaid : Prop := Claim7.holds Tryz.pinned (.plain (OpenSpec.ofChange blameConvictsSpec)) blameConvictsCard

/-- THE SECOND FORM's CARD OF 'ladinglaw32.StepPure'. -/
def stepPureUptoCard : Claim7 := { stood := { row := stepPureUptoRow, standIns := [], harness := (true, "b833779d8378e5fce628c67cc3a0dabc5e2210d5d0bc19357697e6b883b3456f"), looks := true }, kinds := [], alts := [], laidByText := true, laidKinds := [.data, .data, .data, .data, .listed, .data, .data, .widerDeep, .pinned], laidTests := true, laidLooks := .later }
def StepPureUptoCardSaid : Prop := Claim7.holds Tryz.pinned (.plain (OpenSpec.upto stepPureSpec)) stepPureUptoCard

/-- THE SECOND FORM's CARD OF 'ladinglaw32.StepSees'. -/
def stepSeesUptoCard : Claim7 := { stood := { row := stepSeesUptoRow, standIns := [], harness := (true, "b833779d8378e5fce628c67cc3a0dabc5e2210d5d0bc19357697e6b883b3456f"), looks := true }, kinds := [], alts := [], laidByText := true, laidKinds := [.data, .data, .data, .data, .listed, .data, .data, .widerDeep, .pinned], laidTests := true, laidLooks := .later }
def StepSeesUptoCardSaid : Prop := Claim7.holds Tryz.pinned (.plain (OpenSpec.upto stepSeesSpec)) stepSeesUptoCard

/-- THE SECOND FORM's CARD OF 'ladinglaw32.StepSorts'. -/
def stepSortsUptoCard : Claim7 := { stood := { row := stepSortsUptoRow, standIns := [], harness := (true, "b833779d8378e5fce628c67cc3a0dabc5e2210d5d0bc19357697e6b883b3456f"), looks := true }, kinds := [], alts := [], laidByText := true, laidKinds := [.data, .data, .data, .data, .listed, .data, .data, .widerDeep, .pinned], laidTests := true, laidLooks := .later }
def StepSortsUptoCardSaid : Prop := Claim7.holds Tryz.pinned (.plain (OpenSpec.upto stepSortsSpec)) stepSortsUptoCard

/-- THE SECOND FORM's CARD OF 'ladinglaw32.StepLists'. -/
def stepListsUptoCard : Claim7 := { stood := { row := stepListsUptoRow, standIns := [], harness := (true, "b833779d8378e5fce628c67cc3a0dabc5e2210d5d0bc19357697e6b883b3456f"), looks := true }, kinds := [], alts := [], laidByText := true, laidKinds := [.data, .data, .data, .data, .listed, .data, .data, .widerDeep, .pinned], laidTests := true, laidLooks := .later }
def StepListsUptoCardSaid : Prop := Claim7.holds Tryz.pinned (.plain (OpenSpec.upto stepListsSpec)) stepListsUptoCard

/-- THE SECOND FORM's CARD OF 'ladinglaw33.BuildSame'. -/
def buildSameUptoCard : Claim7 := { stood := { row := buildSameUptoRow, standIns := [], harness := (true, "b833779d8378e5fce628c67cc3a0dabc5e2210d5d0bc19357697e6b883b3456f"), looks := true }, kinds := [], alts := [], laidByText := true, laidKinds := [.data, .data, .data, .data, .listed, .data, .data, .widerDeep, .pinned], laidTests := true, laidLooks := .later }
def BuildSameUptoCardSaid : Prop := Claim7.holds Tryz.pinned (.plain (OpenSpec.upto buildSameSpec)) buildSameUptoCard

/-- THE SECOND FORM's CARD OF 'ladinglaw33.BuildOrders'. -/
def buildOrdersUptoCard : Claim7 := { stood := { row := buildOrdersUptoRow, standIns := [], harness := (true, "b833779d8378e5fce628c67cc3a0dabc5e2210d5d0bc19357697e6b883b3456f"), looks := true }, kinds := [], alts := [], laidByText := true, laidKinds := [.data, .data, .data, .data, .listed, .data, .data, .widerDeep, .pinned], laidTests := true, laidLooks := .later }
def BuildOrdersUptoCardSaid : Prop := Claim7.holds Tryz.pinned (.plain (OpenSpec.upto buildOrdersSpec)) buildOrdersUptoCard

/-- THE SECOND FORM's CARD OF 'ladinglaw33.BuildSlices'. -/
def buildSlicesUptoCard : Claim7 := { stood := { row := buildSlicesUptoRow, standIns := [], harness := (true, "b833779d8378e5fce628c67cc3a0dabc5e2210d5d0bc19357697e6b883b3456f"), looks := true }, kinds := [], alts := [], laidByText := true, laidKinds := [.data, .data, .data, .data, .listed, .data, .data, .widerDeep, .pinned], laidTests := true, laidLooks := .later }
def BuildSlicesUptoCardSaid : Prop := Claim7.holds Tryz.pinned (.plain (OpenSpec.upto buildSlicesSpec)) buildSlicesUptoCard

/-- THE SECOND FORM's CARD OF 'ladinglaw33.BuildRefuses'. -/
def buildRefusesUptoCard : Claim7 := { stood := { row := buildRefusesUptoRow, standIns := [], harness := (true, "b833779d8378e5fce628c67cc3a0dabc5e2210d5d0bc19357697e6b883b3456f"), looks := true }, kinds := [], alts := [], laidByText := true, laidKinds := [.data, .data, .data, .data, .listed, .data, .data, .widerDeep, .pinned], laidTests := true, laidLooks := .later }
def BuildRefusesUptoCardSaid : Prop := Claim7.holds Tryz.pinned (.plain (OpenSpec.upto buildRefusesSpec)) buildRefusesUptoCard

/-- THE SECOND FORM's CARD OF 'ladinglaw35.BlameFinds'. -/
def blameFindsUptoCard : Claim7 := { stood := { row := blameFindsUptoRow, standIns := [], harness := (true, "b833779d8378e5fce628c67cc3a0dabc5e2210d5d0bc19357697e6b883b3456f"), looks := true }, kinds := [], alts := [], laidByText := true, laidKinds := [.data, .data, .data, .data, .listed, .data, .data, .widerDeep, .pinned], laidTests := true, laidLooks := .later }
def BlameFindsUptoCardSaid : Prop := Claim7.holds Tryz.pinned (.plain (OpenSpec.upto blameFindsSpec)) blameFindsUptoCard

/-- THE SECOND FORM's CARD OF 'ladinglaw35.BlameBuilds'. -/
def blameBuildsUptoCard : Claim7 := { stood := { row := blameBuildsUptoRow, standIns := [], harness := (true, "b833779d8378e5fce628c67cc3a0dabc5e2210d5d0bc19357697e6b883b3456f"), looks := true }, kinds := [], alts := [], laidByText := true, laidKinds := [.data, .data, .data, .data, .listed, .data, .data, .widerDeep, .pinned], laidTests := true, laidLooks := .later }
def BlameBuildsUptoCardSaid : Prop := Claim7.holds Tryz.pinned (.plain (OpenSpec.upto blameBuildsSpec)) blameBuildsUptoCard

/-- THE SECOND FORM's CARD OF 'ladinglaw35.BlameReplays'. -/
def blameReplaysUptoCard : Claim7 := { stood := { row := blameReplaysUptoRow, standIns := [], harness := (true, "b833779d8378e5fce628c67cc3a0dabc5e2210d5d0bc19357697e6b883b3456f"), looks := true }, kinds := [], alts := [], laidByText := true, laidKinds := [.data, .data, .data, .data, .listed, .data, .data, .widerDeep, .pinned], laidTests := true, laidLooks := .later }
def BlameReplaysUptoCardSaid : Prop := Claim7.holds Tryz.pinned (.plain (OpenSpec.upto blameReplaysSpec)) blameReplaysUptoCard

/-- THE SECOND FORM's CARD OF 'ladinglaw35.BlameConvicts'. -/
def blameConvictsUptoCard : Claim7 := { stood := { row := blameConvictsUptoRow, standIns := [], harness := (true, "b833779d8378e5fce628c67cc3a0dabc5e2210d5d0bc19357697e6b883b3456f"), looks := true }, kinds := [], alts := [], laidByText := true, laidKinds := [.data, .data, .data, .data, .listed, .data, .data, .widerDeep, .pinned], laidTests := true, laidLooks := .later }
def BlameConvictsUptoCardSaid : Prop := Claim7.holds Tryz.pinned (.plain (OpenSpec.upto blameConvictsSpec)) blameConvictsUptoCard
end Rows
end Go.Proofs.YtacgopankhpnbaaGreatDoor
