/-
  DERIVED. GIVEN WITH THE SEED: THE CARDS: each row of YtcfnmbmmncmjiaaGreatDoorRows.lean that lists a variable, with what it lists TIED to the program's text (the seventh form; the later family's looks); each row that meets fmt, with fmt's text TOLD by the authors' own Lean function (tested against real Go, not proved from fmt's source: count such statements apart). THE CARD IS WHAT COUNTS. Prove the row's statement (the work); the ties are given (YtcfnmbmmncmjiaaGreatDoorTie.lean); close each card by the builder's one call (the guide's Derived/Test/ToyasCard.lean, 'card_holds'). Laid BY PROGRAM, IN A SANDBOX (cutbox-door.mjs). By AI agents, Wed Nov 11 2026. No macro, syntax, notation, axiom, sorry.
-/
import Derived.Test.YtcfnmbmmncmjiaaGreatDoorRows
import GoSem.ClaimSeven
namespace Go.Proofs.YtcfnmbmmncmjiaaGreatDoor
namespace Rows

/-- THE TIED CARD OF 'progenylaw11.DbdParses'. -/
def dbdParsesCard : Claim7 := { stood := { row := dbdParsesRow, standIns := [], harness := (true, "fc0c967b0401c61a2f8a6fcb6a5cc754e8fbe7eff31bac5484face12daa5906d"), looks := true }, kinds := [], alts := [], laidByText := true, laidKinds := [.data, .data, .data, .data, .sentinel, .sentinel, .pinned], laidTests := true, laidLooks := .later }
def DbdParsesCardSaid : Prop := Claim7.holds Tryz.pinned (.plain (OpenSpec.ofChange dbdParsesSpec)) dbdParsesCard

/-- THE TIED CARD OF 'progenylaw11.DbdValid'. -/
def dbdValidCard : Claim7 := { stood := { row := dbdValidRow, standIns := [], harness := (true, "fc0c967b0401c61a2f8a6fcb6a5cc754e8fbe7eff31bac5484face12daa5906d"), looks := true }, kinds := [], alts := [], laidByText := true, laidKinds := [.data, .data, .data, .data, .sentinel, .sentinel, .pinned], laidTests := true, laidLooks := .later }
def DbdValidCardSaid : Prop := Claim7.holds Tryz.pinned (.plain (OpenSpec.ofChange dbdValidSpec)) dbdValidCard

/-- THE SECOND FORM's CARD OF 'progenylaw11.DbdParses'. -/
def dbdParsesUptoCard : Claim7 := { stood := { row := dbdParsesUptoRow, standIns := [], harness := (true, "fc0c967b0401c61a2f8a6fcb6a5cc754e8fbe7eff31bac5484face12daa5906d"), looks := true }, kinds := [], alts := [], laidByText := true, laidKinds := [.data, .data, .data, .data, .sentinel, .sentinel, .pinned], laidTests := true, laidLooks := .later }
def DbdParsesUptoCardSaid : Prop := Claim7.holds Tryz.pinned (.plain (OpenSpec.upto dbdParsesSpec)) dbdParsesUptoCard

/-- THE SECOND FORM's CARD OF 'progenylaw11.DbdValid'. -/
def dbdValidUptoCard : Claim7 := { stood := { row := dbdValidUptoRow, standIns := [], harness := (true, "fc0c967b0401c61a2f8a6fcb6a5cc754e8fbe7eff31bac5484face12daa5906d"), looks := true }, kinds := [], alts := [], laidByText := true, laidKinds := [.data, .data, .data, .data, .sentinel, .sentinel, .pinned], laidTests := true, laidLooks := .later }
def DbdValidUptoCardSaid : Prop := Claim7.holds Tryz.pinned (.plain (OpenSpec.upto dbdValidSpec)) dbdValidUptoCard
end Rows
end Go.Proofs.YtcfnmbmmncmjiaaGreatDoor
