/-
  DERIVED. GIVEN WITH THE SEED: THE CARDS: each row of YteecoopnleidaaaDoorRows.lean that lists a variable, with what it lists TIED to the program's text (the seventh form; the later family's looks); each row that meets fmt, with fmt's text TOLD by the authors' own Lean function (tested against real Go, not proved from fmt's source: count such statements apart). THE CARD IS WHAT COUNTS. Prove the row's statement (the work); the ties are given (YteecoopnleidaaaDoorTie.lean); close each card by the builder's one call (the guide's Derived/Test/ToyasCard.lean, 'card_holds'). Laid BY PROGRAM, IN A SANDBOX (cutbox-door.mjs). By AI agents, Wed Nov 11 2026. No macro, syntax, notation, axiom, sorry.
-/
import Derived.Test.YteecoopnleidaaaDoorRows
import GoSem.ClaimSeven
namespace Go.Proofs.YteecoopnleidaaaDoor
namespace Rows

/-- THE TIED CARD OF 'progenylaw01.OctetOrder'. -/
def octetOrderCard : Claim7 := { stood := { row := octetOrderRow, standIns := [], harness := (true, "8d5e7db44124402822449b0c44f1dba19f7a7f079f4be68bdf55145ff6a805a6"), looks := false }, kinds := [], alts := [], laidByText := true, laidKinds := [.data, .data, .data, .data, .pinned], laidTests := true, laidLooks := .later }
def OctetOrderCardSaid : Prop := Claim7.holds Tryd.pinned (.plain (OpenSpec.ofChange octetOrderSpec)) octetOrderCard

/-- THE TIED CARD OF 'progenylaw01.OctetBytes'. -/
def octetBytesCard : Claim7 := { stood := { row := octetBytesRow, standIns := [], harness := (true, "8d5e7db44124402822449b0c44f1dba19f7a7f079f4be68bdf55145ff6a805a6"), looks := false }, kinds := [], alts := [], laidByText := true, laidKinds := [.data, .data, .data, .data, .pinned], laidTests := true, laidLooks := .later }
def OctetBytesCardSaid : Prop := Claim7.holds Tryd.pinned (.plain (OpenSpec.ofChange octetBytesSpec)) octetBytesCard

/-- THE TIED CARD OF 'progenylaw01.OctetKeys'. -/
def octetKeysCard : Claim7 := { stood := { row := octetKeysRow, standIns := [], harness := (true, "8d5e7db44124402822449b0c44f1dba19f7a7f079f4be68bdf55145ff6a805a6"), looks := false }, kinds := [], alts := [], laidByText := true, laidKinds := [.data, .data, .data, .data, .pinned], laidTests := true, laidLooks := .later }
def OctetKeysCardSaid : Prop := Claim7.holds Tryd.pinned (.plain (OpenSpec.ofChange octetKeysSpec)) octetKeysCard

/-- THE TIED CARD OF 'progenylaw01.OctetNobody'. -/
def octetNobodyCard : Claim7 := { stood := { row := octetNobodyRow, standIns := [], harness := (true, "8d5e7db44124402822449b0c44f1dba19f7a7f079f4be68bdf55145ff6a805a6"), looks := false }, kinds := [], alts := [], laidByText := true, laidKinds := [.data, .data, .data, .data, .pinned], laidTests := true, laidLooks := .later }
def OctetNobodyCardSaid : Prop := Claim7.holds Tryd.pinned (.plain (OpenSpec.ofChange octetNobodySpec)) octetNobodyCard

/-- THE TIED CARD OF 'progenylaw01.OctetReads'. -/
def octetReadsCard : Claim7 := { stood := { row := octetReadsRow, standIns := [], harness := (true, "8d5e7db44124402822449b0c44f1dba19f7a7f079f4be68bdf55145ff6a805a6"), looks := false }, kinds := [], alts := [], laidByText := true, laidKinds := [.data, .data, .data, .data, .pinned], laidTests := true, laidLooks := .later }
def OctetReadsCardSaid : Prop := Claim7.holds Tryd.pinned (.plain (OpenSpec.ofChange octetReadsSpec)) octetReadsCard

/-- THE TIED CARD OF 'progenylaw01.OctetBack'. -/
def octetBackCard : Claim7 := { stood := { row := octetBackRow, standIns := [], harness := (true, "8d5e7db44124402822449b0c44f1dba19f7a7f079f4be68bdf55145ff6a805a6"), looks := false }, kinds := [], alts := [], laidByText := true, laidKinds := [.data, .data, .data, .data, .pinned], laidTests := true, laidLooks := .later }
def OctetBackCardSaid : Prop := Claim7.holds Tryd.pinned (.plain (OpenSpec.ofChange octetBackSpec)) octetBackCard

/-- THE TIED CARD OF 'progenylaw01.OctetDigits'. -/
def octetDigitsCard : Claim7 := { stood := { row := octetDigitsRow, standIns := [], harness := (true, "8d5e7db44124402822449b0c44f1dba19f7a7f079f4be68bdf55145ff6a805a6"), looks := false }, kinds := [], alts := [], laidByText := true, laidKinds := [.data, .data, .data, .data, .pinned], laidTests := true, laidLooks := .later }
def OctetDigitsCardSaid : Prop := Claim7.holds Tryd.pinned (.plain (OpenSpec.ofChange octetDigitsSpec)) octetDigitsCard

/-- THE SECOND FORM's CARD OF 'progenylaw01.OctetOrder'. -/
def octetOrderUptoCard : Claim7 := { stood := { row := octetOrderUptoRow, standIns := [], harness := (true, "8d5e7db44124402822449b0c44f1dba19f7a7f079f4be68bdf55145ff6a805a6"), looks := false }, kinds := [], alts := [], laidByText := true, laidKinds := [.data, .data, .data, .data, .pinned], laidTests := true, laidLooks := .later }
def OctetOrderUptoCardSaid : Prop := Claim7.holds Tryd.pinned (.plain (OpenSpec.upto octetOrderSpec)) octetOrderUptoCard

/-- THE SECOND FORM's CARD OF 'progenylaw01.OctetBytes'. -/
def octetBytesUptoCard : Claim7 := { stood := { row := octetBytesUptoRow, standIns := [], harness := (true, "8d5e7db44124402822449b0c44f1dba19f7a7f079f4be68bdf55145ff6a805a6"), looks := false }, kinds := [], alts := [], laidByText := true, laidKinds := [.data, .data, .data, .data, .pinned], laidTests := true, laidLooks := .later }
def OctetBytesUptoCardSaid : Prop := Claim7.holds Tryd.pinned (.plain (OpenSpec.upto octetBytesSpec)) octetBytesUptoCard

/-- THE SECOND FORM's CARD OF 'progenylaw01.OctetKeys'. -/
def octetKeysUptoCard : Claim7 := { stood := { row := octetKeysUptoRow, standIns := [], harness := (true, "8d5e7db44124402822449b0c44f1dba19f7a7f079f4be68bdf55145ff6a805a6"), looks := false }, kinds := [], alts := [], laidByText := true, laidKinds := [.data, .data, .data, .data, .pinned], laidTests := true, laidLooks := .later }
def OctetKeysUptoCardSaid : Prop := Claim7.holds Tryd.pinned (.plain (OpenSpec.upto octetKeysSpec)) octetKeysUptoCard

/-- THE SECOND FORM's CARD OF 'progenylaw01.OctetNobody'. -/
def octetNobodyUptoCard : Claim7 := { stood := { row := octetNobodyUptoRow, standIns := [], harness := (true, "8d5e7db44124402822449b0c44f1dba19f7a7f079f4be68bdf55145ff6a805a6"), looks := false }, kinds := [], alts := [], laidByText := true, laidKinds := [.data, .data, .data, .data, .pinned], laidTests := true, laidLooks := .later }
def OctetNobodyUptoCardSaid : Prop := Claim7.holds Tryd.pinned (.plain (OpenSpec.upto octetNobodySpec)) octetNobodyUptoCard

/-- THE SECOND FORM's CARD OF 'progenylaw01.OctetReads'. -/
def octetReadsUptoCard : Claim7 := { stood := { row := octetReadsUptoRow, standIns := [], harness := (true, "8d5e7db44124402822449b0c44f1dba19f7a7f079f4be68bdf55145ff6a805a6"), looks := false }, kinds := [], alts := [], laidByText := true, laidKinds := [.data, .data, .data, .data, .pinned], laidTests := true, laidLooks := .later }
def OctetReadsUptoCardSaid : Prop := Claim7.holds Tryd.pinned (.plain (OpenSpec.upto octetReadsSpec)) octetReadsUptoCard

/-- THE SECOND FORM's CARD OF 'progenylaw01.OctetBack'. -/
def octetBackUptoCard : Claim7 := { stood := { row := octetBackUptoRow, standIns := [], harness := (true, "8d5e7db44124402822449b0c44f1dba19f7a7f079f4be68bdf55145ff6a805a6"), looks := false }, kinds := [], alts := [], laidByText := true, laidKinds := [.data, .data, .data, .data, .pinned], laidTests := true, laidLooks := .later }
def OctetBackUptoCardSaid : Prop := Claim7.holds Tryd.pinned (.plain (OpenSpec.upto octetBackSpec)) octetBackUptoCard

/-- THE SECOND FORM's CARD OF 'progenylaw01.OctetDigits'. -/
def octetDigitsUptoCard : Claim7 := { stood := { row := octetDigitsUptoRow, standIns := [], harness := (true, "8d5e7db44124402822449b0c44f1dba19f7a7f079f4be68bdf55145ff6a805a6"), looks := false }, kinds := [], alts := [], laidByText := true, laidKinds := [.data, .data, .data, .data, .pinned], laidTests := true, laidLooks := .later }
def OctetDigitsUptoCardSaid : Prop := Claim7.holds Tryd.pinned (.plain (OpenSpec.upto octetDigitsSpec)) octetDigitsUptoCard
end Rows
end Go.Proofs.YteecoopnleidaaaDoor
