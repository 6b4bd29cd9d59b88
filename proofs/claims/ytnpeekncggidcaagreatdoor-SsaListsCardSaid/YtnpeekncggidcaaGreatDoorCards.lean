/-
  DERIVED. GIVEN WITH THE SEED: THE CARDS: each row of YtnpeekncggidcaaGreatDoorRows.lean that lists a variable, with what it lists TIED to the program's text (the seventh form; the later family's looks); each row that meets fmt, with fmt's text TOLD by the authors' own Lean function (tested against real Go, not proved from fmt's source: count such statements apart). THE CARD IS WHAT COUNTS. Prove the row's statement (the work); the ties are given (YtnpeekncggidcaaGreatDoorTie.lean); close each card by the builder's one call (the guide's Derived/Test/ToyasCard.lean, 'card_holds'). Laid BY PROGRAM, IN A SANDBOX (cutbox-door.mjs). By AI agents, Wed Nov 11 2026. No macro, syntax, notation, axiom, sorry.
-/
import Derived.Test.YtnpeekncggidcaaGreatDoorRows
import GoSem.ClaimSeven
namespace Go.Proofs.YtnpeekncggidcaaGreatDoor
namespace Rows

/-- THE TIED CARD OF 'progenylaw14.SsaTexts'. -/
def ssaTextsCard : Claim7 := { stood := { row := ssaTextsRow, standIns := [], harness := (true, "9d92146f9f75c9320039c44d6e031dfd19260c38e1f8e0aa4c6319fbee3cc2af"), looks := false }, kinds := [], alts := [], laidByText := true, laidKinds := [.data, .pinned], laidTests := true, laidLooks := .later }
def SsaTextsCardSaid : Prop := Claim7.holds Tryz.pinned (.plain (OpenSpec.ofChange ssaTextsSpec)) ssaTextsCard

/-- THE TIED CARD OF 'progenylaw14.SsaLists'. -/
def ssaListsCard : Claim7 := { stood := { row := ssaListsRow, standIns := [], harness := (true, "9d92146f9f75c9320039c44d6e031dfd19260c38e1f8e0aa4c6319fbee3cc2af"), looks := false }, kinds := [], alts := [], laidByText := true, laidKinds := [.data, .pinned], laidTests := true, laidLooks := .later }
def SsaListsCardSaid : Prop := Claim7.holds Tryz.pinned (.plain (OpenSpec.ofChange ssaListsSpec)) ssaListsCard

/-- THE SECOND FORM's CARD OF 'progenylaw14.SsaTexts'. -/
def ssaTextsUptoCard : Claim7 := { stood := { row := ssaTextsUptoRow, standIns := [], harness := (true, "9d92146f9f75c9320039c44d6e031dfd19260c38e1f8e0aa4c6319fbee3cc2af"), looks := false }, kinds := [], alts := [], laidByText := true, laidKinds := [.data, .pinned], laidTests := true, laidLooks := .later }
def SsaTextsUptoCardSaid : Prop := Claim7.holds Tryz.pinned (.plain (OpenSpec.upto ssaTextsSpec)) ssaTextsUptoCard

/-- THE SECOND FORM's CARD OF 'progenylaw14.SsaLists'. -/
def ssaListsUptoCard : Claim7 := { stood := { row := ssaListsUptoRow, standIns := [], harness := (true, "9d92146f9f75c9320039c44d6e031dfd19260c38e1f8e0aa4c6319fbee3cc2af"), looks := false }, kinds := [], alts := [], laidByText := true, laidKinds := [.data, .pinned], laidTests := true, laidLooks := .later }
def SsaListsUptoCardSaid : Prop := Claim7.holds Tryz.pinned (.plain (OpenSpec.upto ssaListsSpec)) ssaListsUptoCard
end Rows
end Go.Proofs.YtnpeekncggidcaaGreatDoor
