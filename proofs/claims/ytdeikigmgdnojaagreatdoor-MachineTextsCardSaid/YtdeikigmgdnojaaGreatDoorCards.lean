/-
  DERIVED. GIVEN WITH THE SEED: THE CARDS: each row of YtdeikigmgdnojaaGreatDoorRows.lean that lists a variable, with what it lists TIED to the program's text (the seventh form; the later family's looks); each row that meets fmt, with fmt's text TOLD by the authors' own Lean function (tested against real Go, not proved from fmt's source: count such statements apart). THE CARD IS WHAT COUNTS. Prove the row's statement (the work); the ties are given (YtdeikigmgdnojaaGreatDoorTie.lean); close each card by the builder's one call (the guide's Derived/Test/ToyasCard.lean, 'card_holds'). Laid BY PROGRAM, IN A SANDBOX (cutbox-door.mjs). By AI agents, Wed Nov 11 2026. No macro, syntax, notation, axiom, sorry.
-/
import Derived.Test.YtdeikigmgdnojaaGreatDoorRows
import GoSem.ClaimSeven
namespace Go.Proofs.YtdeikigmgdnojaaGreatDoor
namespace Rows

/-- THE TIED CARD OF 'seedbedlaw14.MachineStarts'. -/
def machineStartsCard : Claim7 := { stood := { row := machineStartsRow, standIns := [], harness := (true, "eeb729ea5854dec3af34cdb7bac2e90a6530410aa469370056f8c20f2d7e3633"), looks := true }, kinds := [], alts := [], laidByText := true, laidKinds := [.data, .listed, .data, .pinned], laidTests := true, laidLooks := .later }
def MachineStartsCardSaid : Prop := Claim7.holds Tryz.pinned (.plain (OpenSpec.ofChange machineStartsSpec)) machineStartsCard

/-- THE TIED CARD OF 'seedbedlaw14.MachineGoes'. -/
def machineGoesCard : Claim7 := { stood := { row := machineGoesRow, standIns := [], harness := (true, "eeb729ea5854dec3af34cdb7bac2e90a6530410aa469370056f8c20f2d7e3633"), looks := true }, kinds := [], alts := [], laidByText := true, laidKinds := [.data, .listed, .data, .pinned], laidTests := true, laidLooks := .later }
def MachineGoesCardSaid : Prop := Claim7.holds Tryz.pinned (.plain (OpenSpec.ofChange machineGoesSpec)) machineGoesCard

/-- THE TIED CARD OF 'seedbedlaw14.MachineGood'. -/
def machineGoodCard : Claim7 := { stood := { row := machineGoodRow, standIns := [], harness := (true, "eeb729ea5854dec3af34cdb7bac2e90a6530410aa469370056f8c20f2d7e3633"), looks := true }, kinds := [], alts := [], laidByText := true, laidKinds := [.data, .listed, .data, .pinned], laidTests := true, laidLooks := .later }
def MachineGoodCardSaid : Prop := Claim7.holds Tryz.pinned (.plain (OpenSpec.ofChange machineGoodSpec)) machineGoodCard

/-- THE TIED CARD OF 'seedbedlaw14.MachineFirst'. -/
def machineFirstCard : Claim7 := { stood := { row := machineFirstRow, standIns := [], harness := (true, "eeb729ea5854dec3af34cdb7bac2e90a6530410aa469370056f8c20f2d7e3633"), looks := true }, kinds := [], alts := [], laidByText := true, laidKinds := [.data, .listed, .data, .pinned], laidTests := true, laidLooks := .later }
def MachineFirstCardSaid : Prop := Claim7.holds Tryz.pinned (.plain (OpenSpec.ofChange machineFirstSpec)) machineFirstCard

/-- THE TIED CARD OF 'seedbedlaw14.MachineRepeated'. -/
def machineRepeatedCard : Claim7 := { stood := { row := machineRepeatedRow, standIns := [], harness := (true, "eeb729ea5854dec3af34cdb7bac2e90a6530410aa469370056f8c20f2d7e3633"), looks := true }, kinds := [], alts := [], laidByText := true, laidKinds := [.data, .listed, .data, .pinned], laidTests := true, laidLooks := .later }
def MachineRepeatedCardSaid : Prop := Claim7.holds Tryz.pinned (.plain (OpenSpec.ofChange machineRepeatedSpec)) machineRepeatedCard

/-- THE TIED CARD OF 'seedbedlaw14.MachineTurns'. -/
def machineTurnsCard : Claim7 := { stood := { row := machineTurnsRow, standIns := [], harness := (true, "eeb729ea5854dec3af34cdb7bac2e90a6530410aa469370056f8c20f2d7e3633"), looks := true }, kinds := [], alts := [], laidByText := true, laidKinds := [.data, .listed, .data, .pinned], laidTests := true, laidLooks := .later }
def MachineTurnsCardSaid : Prop := Claim7.holds Tryz.pinned (.plain (OpenSpec.ofChange machineTurnsSpec)) machineTurnsCard

/-- THE TIED CARD OF 'seedbedlaw14.MachineTexts'. -/
def machineTextsCard : Claim7 := { stood := { row := machineTextsRow, standIns := [], harness := (true, "eeb729ea5854dec3af34cdb7bac2e90a6530410aa469370056f8c20f2d7e3633"), looks := true }, kinds := [], alts := [], laidByText := true, laidKinds := [.data, .data, .data, .data, .listed, .data, .pinned], laidTests := true, laidLooks := .later }
def MachineTextsCardSaid : Prop := Claim7.holds Tryz.pinned (.plain (OpenSpec.ofChange machineTextsSpec)) machineTextsCard

/-- THE TIED CARD OF 'seedbedlaw14.MachineReads'. -/
def machineReadsCard : Claim7 := { stood := { row := machineReadsRow, standIns := [], harness := (true, "eeb729ea5854dec3af34cdb7bac2e90a6530410aa469370056f8c20f2d7e3633"), looks := true }, kinds := [], alts := [], laidByText := true, laidKinds := [.data, .data, .data, .data, .sentinel, .sentinel, .listed, .data, .pinned], laidTests := true, laidLooks := .later }
def MachineReadsCardSaid : Prop := Claim7.holds Tryz.pinned (.plain (OpenSpec.ofChange machineReadsSpec)) machineReadsCard

/-- THE TIED CARD OF 'seedbedlaw14.MachineWritten'. -/
def machineWrittenCard : Claim7 := { stood := { row := machineWrittenRow, standIns := [], harness := (true, "eeb729ea5854dec3af34cdb7bac2e90a6530410aa469370056f8c20f2d7e3633"), looks := true }, kinds := [], alts := [], laidByText := true, laidKinds := [.data, .data, .data, .data, .sentinel, .sentinel, .listed, .data, .pinned], laidTests := true, laidLooks := .later }
def MachineWrittenCardSaid : Prop := Claim7.holds Tryz.pinned (.plain (OpenSpec.ofChange machineWrittenSpec)) machineWrittenCard

/-- THE SECOND FORM's CARD OF 'seedbedlaw14.MachineStarts'. -/
def machineStartsUptoCard : Claim7 := { stood := { row := machineStartsUptoRow, standIns := [], harness := (true, "eeb729ea5854dec3af34cdb7bac2e90a6530410aa469370056f8c20f2d7e3633"), looks := true }, kinds := [], alts := [], laidByText := true, laidKinds := [.data, .listed, .data, .pinned], laidTests := true, laidLooks := .later }
def MachineStartsUptoCardSaid : Prop := Claim7.holds Tryz.pinned (.plain (OpenSpec.upto machineStartsSpec)) machineStartsUptoCard

/-- THE SECOND FORM's CARD OF 'seedbedlaw14.MachineGoes'. -/
def machineGoesUptoCard : Claim7 := { stood := { row := machineGoesUptoRow, standIns := [], harness := (true, "eeb729ea5854dec3af34cdb7bac2e90a6530410aa469370056f8c20f2d7e3633"), looks := true }, kinds := [], alts := [], laidByText := true, laidKinds := [.data, .listed, .data, .pinned], laidTests := true, laidLooks := .later }
def MachineGoesUptoCardSaid : Prop := Claim7.holds Tryz.pinned (.plain (OpenSpec.upto machineGoesSpec)) machineGoesUptoCard

/-- THE SECOND FORM's CARD OF 'seedbedlaw14.MachineGood'. -/
def machineGoodUptoCard : Claim7 := { stood := { row := machineGoodUptoRow, standIns := [], harness := (true, "eeb729ea5854dec3af34cdb7bac2e90a6530410aa469370056f8c20f2d7e3633"), looks := true }, kinds := [], alts := [], laidByText := true, laidKinds := [.data, .listed, .data, .pinned], laidTests := true, laidLooks := .later }
def MachineGoodUptoCardSaid : Prop := Claim7.holds Tryz.pinned (.plain (OpenSpec.upto machineGoodSpec)) machineGoodUptoCard

/-- THE SECOND FORM's CARD OF 'seedbedlaw14.MachineFirst'. -/
def machineFirstUptoCard : Claim7 := { stood := { row := machineFirstUptoRow, standIns := [], harness := (true, "eeb729ea5854dec3af34cdb7bac2e90a6530410aa469370056f8c20f2d7e3633"), looks := true }, kinds := [], alts := [], laidByText := true, laidKinds := [.data, .listed, .data, .pinned], laidTests := true, laidLooks := .later }
def MachineFirstUptoCardSaid : Prop := Claim7.holds Tryz.pinned (.plain (OpenSpec.upto machineFirstSpec)) machineFirstUptoCard

/-- THE SECOND FORM's CARD OF 'seedbedlaw14.MachineRepeated'. -/
def machineRepeatedUptoCard : Claim7 := { stood := { row := machineRepeatedUptoRow, standIns := [], harness := (true, "eeb729ea5854dec3af34cdb7bac2e90a6530410aa469370056f8c20f2d7e3633"), looks := true }, kinds := [], alts := [], laidByText := true, laidKinds := [.data, .listed, .data, .pinned], laidTests := true, laidLooks := .later }
def MachineRepeatedUptoCardSaid : Prop := Claim7.holds Tryz.pinned (.plain (OpenSpec.upto machineRepeatedSpec)) machineRepeatedUptoCard

/-- THE SECOND FORM's CARD OF 'seedbedlaw14.MachineTurns'. -/
def machineTurnsUptoCard : Claim7 := { stood := { row := machineTurnsUptoRow, standIns := [], harness := (true, "eeb729ea5854dec3af34cdb7bac2e90a6530410aa469370056f8c20f2d7e3633"), looks := true }, kinds := [], alts := [], laidByText := true, laidKinds := [.data, .listed, .data, .pinned], laidTests := true, laidLooks := .later }
def MachineTurnsUptoCardSaid : Prop := Claim7.holds Tryz.pinned (.plain (OpenSpec.upto machineTurnsSpec)) machineTurnsUptoCard

/-- THE SECOND FORM's CARD OF 'seedbedlaw14.MachineTexts'. -/
def machineTextsUptoCard : Claim7 := { stood := { row := machineTextsUptoRow, standIns := [], harness := (true, "eeb729ea5854dec3af34cdb7bac2e90a6530410aa469370056f8c20f2d7e3633"), looks := true }, kinds := [], alts := [], laidByText := true, laidKinds := [.data, .data, .data, .data, .listed, .data, .pinned], laidTests := true, laidLooks := .later }
def MachineTextsUptoCardSaid : Prop := Claim7.holds Tryz.pinned (.plain (OpenSpec.upto machineTextsSpec)) machineTextsUptoCard

/-- THE SECOND FORM's CARD OF 'seedbedlaw14.MachineReads'. -/
def machineReadsUptoCard : Claim7 := { stood := { row := machineReadsUptoRow, standIns := [], harness := (true, "eeb729ea5854dec3af34cdb7bac2e90a6530410aa469370056f8c20f2d7e3633"), looks := true }, kinds := [], alts := [], laidByText := true, laidKinds := [.data, .data, .data, .data, .sentinel, .sentinel, .listed, .data, .pinned], laidTests := true, laidLooks := .later }
def MachineReadsUptoCardSaid : Prop := Claim7.holds Tryz.pinned (.plain (OpenSpec.upto machineReadsSpec)) machineReadsUptoCard

/-- THE SECOND FORM's CARD OF 'seedbedlaw14.MachineWritten'. -/
def machineWrittenUptoCard : Claim7 := { stood := { row := machineWrittenUptoRow, standIns := [], harness := (true, "eeb729ea5854dec3af34cdb7bac2e90a6530410aa469370056f8c20f2d7e3633"), looks := true }, kinds := [], alts := [], laidByText := true, laidKinds := [.data, .data, .data, .data, .sentinel, .sentinel, .listed, .data, .pinned], laidTests := true, laidLooks := .later }
def MachineWrittenUptoCardSaid : Prop := Claim7.holds Tryz.pinned (.plain (OpenSpec.upto machineWrittenSpec)) machineWrittenUptoCard
end Rows
end Go.Proofs.YtdeikigmgdnojaaGreatDoor
