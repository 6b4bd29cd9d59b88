/-
  No cell of these rows narrows 'for every input' (looked for: loops, veiled, ifaces, maps, wideKeys, modest, calm, conditions, laid).
  DERIVED. THE GIVEN ROWS OF THIS SEAT. 6 by the template 'for every input the law returns true; each argument reads behind the call as it read before'; 0 by the template 'total and deterministic' (their statements: YtgideolbpeidmaaTotals.lean).
  GIVEN WITH THE SEED: the statements are not yours to turn. If you find one false, say at which input.
  Laid BY PROGRAM, IN A SANDBOX (cutbox-rows.mjs): the forced cells as the released guide's own fill.sh prints them over the translation 65f41e2e692776cc… (all of the seat's roots in one cut). By AI agents, Wed Nov 11 2026. No macro, syntax, notation, axiom, sorry.
-/
import Derived.Test.YtgideolbpeidmaaChecked
import GoSem.Claim
import GoSem.ClaimJoined
import GoSem.ClaimMapViews
import Derived.JoinedTies
import Derived.KernelRfl
namespace Go.Proofs.Ytgideolbpeidmaa
/- THE CELL 'sum', in the pinned program and in every row, IS THE sha256 OF THE DUMP (.gsa) THAT YtgideolbpeidmaaProg.lean LOADS. Nothing in Lean hashes anything: it is a label: what it is worth is what the hold of that sum in a sandbox is worth. -/
noncomputable def Try.pinned : Pinned := { name := "ytgideolbpeidmaa", sum := "65f41e2e692776ccd3352260a878df454fbf16f318e0cc0755516ac522e17104", checked := Try.checked }
namespace Rows
def none {H : Type} : Left H := { results := [], args := [] }

/-- 'progenylaw11.DbdWays': WHATEVER THE INPUT: true; the input reads as it did. -/
def dbdWaysSpec : ChangeSpec := { name := "dbdWays", fn := fun _ => fun
  | [d1, d2, d3] => { results := [.lit (.bool true)], args := [d1, d2, d3] }
  | _ => none }
def dbdWaysRow : OpenClaim := { program := "ytgideolbpeidmaa", sum := "65f41e2e692776ccd3352260a878df454fbf16f318e0cc0755516ac522e17104", func := "progeny/progenylaw11.DbdWays", spec := "dbdWays", unfollowed := true, recurses := true, apart := false }
def DbdWaysSaid : Prop := dbdWaysRow.holds Try.pinned (OpenSpec.ofChange dbdWaysSpec)

/-- ITS FALSE NEIGHBOUR: 'it returns false'. Refute it at one input. -/
def dbdWaysWrong : ChangeSpec := { name := "dbdWays", fn := fun _ => fun
  | [d1, d2, d3] => { results := [.lit (.bool false)], args := [d1, d2, d3] }
  | _ => none }
def DbdWaysWrongFalsely : Prop := dbdWaysRow.holds Try.pinned (OpenSpec.ofChange dbdWaysWrong)

/-- 'progenylaw11.DbdNames': WHATEVER THE INPUT: true; the input reads as it did. -/
def dbdNamesSpec : ChangeSpec := { name := "dbdNames", fn := fun _ => fun
  | [d1, d2, d3] => { results := [.lit (.bool true)], args := [d1, d2, d3] }
  | _ => none }
def dbdNamesRow : OpenClaim := { program := "ytgideolbpeidmaa", sum := "65f41e2e692776ccd3352260a878df454fbf16f318e0cc0755516ac522e17104", func := "progeny/progenylaw11.DbdNames", spec := "dbdNames", unfollowed := true, recurses := true, apart := false }
def DbdNamesSaid : Prop := dbdNamesRow.holds Try.pinned (OpenSpec.ofChange dbdNamesSpec)

/-- ITS FALSE NEIGHBOUR: 'it returns false'. Refute it at one input. -/
def dbdNamesWrong : ChangeSpec := { name := "dbdNames", fn := fun _ => fun
  | [d1, d2, d3] => { results := [.lit (.bool false)], args := [d1, d2, d3] }
  | _ => none }
def DbdNamesWrongFalsely : Prop := dbdNamesRow.holds Try.pinned (OpenSpec.ofChange dbdNamesWrong)

/-- 'progenylaw11.DbdSame': WHATEVER THE INPUT: true; the input reads as it did. -/
def dbdSameSpec : ChangeSpec := { name := "dbdSame", fn := fun _ => fun
  | [d1, d2] => { results := [.lit (.bool true)], args := [d1, d2] }
  | _ => none }
def dbdSameRow : OpenClaim := { program := "ytgideolbpeidmaa", sum := "65f41e2e692776ccd3352260a878df454fbf16f318e0cc0755516ac522e17104", func := "progeny/progenylaw11.DbdSame", spec := "dbdSame", unfollowed := true, recurses := true, apart := false }
def DbdSameSaid : Prop := dbdSameRow.holds Try.pinned (OpenSpec.ofChange dbdSameSpec)

/-- ITS FALSE NEIGHBOUR: 'it returns false'. Refute it at one input. -/
def dbdSameWrong : ChangeSpec := { name := "dbdSame", fn := fun _ => fun
  | [d1, d2] => { results := [.lit (.bool false)], args := [d1, d2] }
  | _ => none }
def DbdSameWrongFalsely : Prop := dbdSameRow.holds Try.pinned (OpenSpec.ofChange dbdSameWrong)

/-- 'progenylaw11.DbdParts': WHATEVER THE INPUT: true; the input reads as it did. -/
def dbdPartsSpec : ChangeSpec := { name := "dbdParts", fn := fun _ => fun
  | [d1, d2] => { results := [.lit (.bool true)], args := [d1, d2] }
  | _ => none }
def dbdPartsRow : OpenClaim := { program := "ytgideolbpeidmaa", sum := "65f41e2e692776ccd3352260a878df454fbf16f318e0cc0755516ac522e17104", func := "progeny/progenylaw11.DbdParts", spec := "dbdParts", unfollowed := true, recurses := true, apart := false }
def DbdPartsSaid : Prop := dbdPartsRow.holds Try.pinned (OpenSpec.ofChange dbdPartsSpec)

/-- ITS FALSE NEIGHBOUR: 'it returns false'. Refute it at one input. -/
def dbdPartsWrong : ChangeSpec := { name := "dbdParts", fn := fun _ => fun
  | [d1, d2] => { results := [.lit (.bool false)], args := [d1, d2] }
  | _ => none }
def DbdPartsWrongFalsely : Prop := dbdPartsRow.holds Try.pinned (OpenSpec.ofChange dbdPartsWrong)

/-- 'progenylaw11.DbdTwice': WHATEVER THE INPUT: true; the input reads as it did. -/
def dbdTwiceSpec : ChangeSpec := { name := "dbdTwice", fn := fun _ => fun
  | [d1, d2, d3] => { results := [.lit (.bool true)], args := [d1, d2, d3] }
  | _ => none }
def dbdTwiceRow : OpenClaim := { program := "ytgideolbpeidmaa", sum := "65f41e2e692776ccd3352260a878df454fbf16f318e0cc0755516ac522e17104", func := "progeny/progenylaw11.DbdTwice", spec := "dbdTwice", unfollowed := true, recurses := true, apart := false }
def DbdTwiceSaid : Prop := dbdTwiceRow.holds Try.pinned (OpenSpec.ofChange dbdTwiceSpec)

/-- ITS FALSE NEIGHBOUR: 'it returns false'. Refute it at one input. -/
def dbdTwiceWrong : ChangeSpec := { name := "dbdTwice", fn := fun _ => fun
  | [d1, d2, d3] => { results := [.lit (.bool false)], args := [d1, d2, d3] }
  | _ => none }
def DbdTwiceWrongFalsely : Prop := dbdTwiceRow.holds Try.pinned (OpenSpec.ofChange dbdTwiceWrong)

/-- 'progenylaw11.DbdData': WHATEVER THE INPUT: true; the input reads as it did. -/
def dbdDataSpec : ChangeSpec := { name := "dbdData", fn := fun _ => fun
  | [d1, d2, d3] => { results := [.lit (.bool true)], args := [d1, d2, d3] }
  | _ => none }
def dbdDataRow : OpenClaim := { program := "ytgideolbpeidmaa", sum := "65f41e2e692776ccd3352260a878df454fbf16f318e0cc0755516ac522e17104", func := "progeny/progenylaw11.DbdData", spec := "dbdData", unfollowed := true, recurses := true, apart := false }
def DbdDataSaid : Prop := dbdDataRow.holds Try.pinned (OpenSpec.ofChange dbdDataSpec)

/-- ITS FALSE NEIGHBOUR: 'it returns false'. Refute it at one input. -/
def dbdDataWrong : ChangeSpec := { name := "dbdData", fn := fun _ => fun
  | [d1, d2, d3] => { results := [.lit (.bool false)], args := [d1, d2, d3] }
  | _ => none }
def DbdDataWrongFalsely : Prop := dbdDataRow.holds Try.pinned (OpenSpec.ofChange dbdDataWrong)

/- THE SECOND FORM. 'bulk': how many values and letters a reading holds, each counted each time it is reached (what is shared counts as often as it is met; a slice's spare places count too). A statement '..UptoSaid' is the law's where the arguments, and the package variables that the reading takes, are together of bulk at most 1048576: NARROWER than '..Said'. Prove '..Said' where nothing that the law and all that it calls make is longer than what came in: it says more and counts as full. Else prove '..UptoSaid'. A law counts once. -/
mutual
def uptoBulk {H : Type} : DataW H → Nat
  | .lit (.string bytes) => bytes.length + 1
  | .lit _ => 1
  | .nil => 1
  | .ptr d => uptoBulk d + 1
  | .slice elems spare => uptoBulkAll elems + uptoBulkAll spare + 1
  | .agg parts => uptoBulkAll parts + 1
  | .iface _ d => uptoBulk d + 1
  | .map entries => uptoBulkEntries entries + 1
  | .held _ => 1
def uptoBulkAll {H : Type} : List (DataW H) → Nat
  | [] => 0
  | d :: r => uptoBulk d + uptoBulkAll r
def uptoBulkEntries {H : Type} : List (Lit × DataW H) → Nat
  | [] => 0
  | x :: r => uptoBulkEntry x + uptoBulkEntries r
def uptoBulkEntry {H : Type} : Lit × DataW H → Nat
  | (.string bytes, d) => bytes.length + uptoBulk d + 1
  | (_, d) => uptoBulk d + 1
 end
def uptoSmall : (H : Type) → List (DataW H) → Bool := fun _ ds => decide (uptoBulkAll ds ≤ 1048576)
def OpenSpec.upto (s : _root_.Go.ChangeSpec) : _root_.Go.OpenSpec := { _root_.Go.OpenSpec.ofChange s with cond := some uptoSmall }

/-- 'progenylaw11.DbdWays', WHERE WHAT IT READS IS OF BULK AT MOST 1048576: true; the input reads as it did. -/
def dbdWaysUptoRow : OpenClaim := { program := "ytgideolbpeidmaa", sum := "65f41e2e692776ccd3352260a878df454fbf16f318e0cc0755516ac522e17104", func := "progeny/progenylaw11.DbdWays", spec := "dbdWays", unfollowed := true, recurses := true, apart := false, narrowed := true }
def DbdWaysUptoSaid : Prop := dbdWaysUptoRow.holds Try.pinned (OpenSpec.upto dbdWaysSpec)

/-- 'progenylaw11.DbdNames', WHERE WHAT IT READS IS OF BULK AT MOST 1048576: true; the input reads as it did. -/
def dbdNamesUptoRow : OpenClaim := { program := "ytgideolbpeidmaa", sum := "65f41e2e692776ccd3352260a878df454fbf16f318e0cc0755516ac522e17104", func := "progeny/progenylaw11.DbdNames", spec := "dbdNames", unfollowed := true, recurses := true, apart := false, narrowed := true }
def DbdNamesUptoSaid : Prop := dbdNamesUptoRow.holds Try.pinned (OpenSpec.upto dbdNamesSpec)

/-- 'progenylaw11.DbdSame', WHERE WHAT IT READS IS OF BULK AT MOST 1048576: true; the input reads as it did. -/
def dbdSameUptoRow : OpenClaim := { program := "ytgideolbpeidmaa", sum := "65f41e2e692776ccd3352260a878df454fbf16f318e0cc0755516ac522e17104", func := "progeny/progenylaw11.DbdSame", spec := "dbdSame", unfollowed := true, recurses := true, apart := false, narrowed := true }
def DbdSameUptoSaid : Prop := dbdSameUptoRow.holds Try.pinned (OpenSpec.upto dbdSameSpec)

/-- 'progenylaw11.DbdParts', WHERE WHAT IT READS IS OF BULK AT MOST 1048576: true; the input reads as it did. -/
def dbdPartsUptoRow : OpenClaim := { program := "ytgideolbpeidmaa", sum := "65f41e2e692776ccd3352260a878df454fbf16f318e0cc0755516ac522e17104", func := "progeny/progenylaw11.DbdParts", spec := "dbdParts", unfollowed := true, recurses := true, apart := false, narrowed := true }
def DbdPartsUptoSaid : Prop := dbdPartsUptoRow.holds Try.pinned (OpenSpec.upto dbdPartsSpec)

/-- 'progenylaw11.DbdTwice', WHERE WHAT IT READS IS OF BULK AT MOST 1048576: true; the input reads as it did. -/
def dbdTwiceUptoRow : OpenClaim := { program := "ytgideolbpeidmaa", sum := "65f41e2e692776ccd3352260a878df454fbf16f318e0cc0755516ac522e17104", func := "progeny/progenylaw11.DbdTwice", spec := "dbdTwice", unfollowed := true, recurses := true, apart := false, narrowed := true }
def DbdTwiceUptoSaid : Prop := dbdTwiceUptoRow.holds Try.pinned (OpenSpec.upto dbdTwiceSpec)

/-- 'progenylaw11.DbdData', WHERE WHAT IT READS IS OF BULK AT MOST 1048576: true; the input reads as it did. -/
def dbdDataUptoRow : OpenClaim := { program := "ytgideolbpeidmaa", sum := "65f41e2e692776ccd3352260a878df454fbf16f318e0cc0755516ac522e17104", func := "progeny/progenylaw11.DbdData", spec := "dbdData", unfollowed := true, recurses := true, apart := false, narrowed := true }
def DbdDataUptoSaid : Prop := dbdDataUptoRow.holds Try.pinned (OpenSpec.upto dbdDataSpec)

end Rows
end Go.Proofs.Ytgideolbpeidmaa
