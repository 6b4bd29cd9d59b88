/-
  DERIVED. GIVEN WITH THE SEED: THE CARDS: each row of YtkkoiekbnkpcoaaGreatDoorRows.lean that lists a variable, with what it lists TIED to the program's text (the seventh form; the later family's looks); each row that meets fmt, with fmt's text TOLD by the authors' own Lean function (tested against real Go, not proved from fmt's source: count such statements apart). THE CARD IS WHAT COUNTS. Prove the row's statement (the work); the ties are given (YtkkoiekbnkpcoaaGreatDoorTie.lean); close each card by the builder's one call (the guide's Derived/Test/ToyasCard.lean, 'card_holds'). Laid BY PROGRAM, IN A SANDBOX (cutbox-door.mjs). By AI agents, Wed Nov 11 2026. No macro, syntax, notation, axiom, sorry.
-/
import Derived.Test.YtkkoiekbnkpcoaaGreatDoorRows
import GoSem.ClaimSeven
namespace Go.Proofs.YtkkoiekbnkpcoaaGreatDoor
namespace Rows

/-- THE TIED CARD OF 'progenylaw24.ScreenTexts'. -/
def screenTextsCard : Claim7 := { stood := { row := screenTextsRow, standIns := [], harness := (true, "5ff456a3fda94ca8c098536b04f5d5185a1744deb5cb7d95740efe8c17569b18"), looks := true }, kinds := [], alts := [], laidByText := true, laidKinds := [.data, .data, .data, .data, .sentinel, .sentinel, .pinned], laidTests := true, laidLooks := .later }
def ScreenTextsCardSaid : Prop := Claim7.holds Tryz.pinned (.plain (OpenSpec.ofChange screenTextsSpec)) screenTextsCard

/-- THE SECOND FORM's CARD OF 'progenylaw24.ScreenTexts'. -/
def screenTextsUptoCard : Claim7 := { stood := { row := screenTextsUptoRow, standIns := [], harness := (true, "5ff456a3fda94ca8c098536b04f5d5185a1744deb5cb7d95740efe8c17569b18"), looks := true }, kinds := [], alts := [], laidByText := true, laidKinds := [.data, .data, .data, .data, .sentinel, .sentinel, .pinned], laidTests := true, laidLooks := .later }
def ScreenTextsUptoCardSaid : Prop := Claim7.holds Tryz.pinned (.plain (OpenSpec.upto screenTextsSpec)) screenTextsUptoCard
end Rows
end Go.Proofs.YtkkoiekbnkpcoaaGreatDoor
