/-
  No cell of these rows narrows 'for every input' (looked for: loops, veiled, ifaces, maps, wideKeys, modest, calm, conditions, laid).
  DERIVED. THE GIVEN ROWS OF THIS SEAT. 3 by the template 'for every input the law returns true; each argument reads behind the call as it read before'; 0 by the template 'total and deterministic' (their statements: YtnpeekncggidcaaTotals.lean).
  GIVEN WITH THE SEED: the statements are not yours to turn. If you find one false, say at which input.
  Laid BY PROGRAM, IN A SANDBOX (cutbox-rows.mjs): the forced cells as the released guide's own fill.sh prints them over the translation 4dc0044c9784e4ee… (all of the seat's roots in one cut). By AI agents, Wed Nov 11 2026. No macro, syntax, notation, axiom, sorry.
-/
import Derived.Test.YtnpeekncggidcaaChecked
import GoSem.Claim
import GoSem.ClaimJoined
import GoSem.ClaimMapViews
import Derived.JoinedTies
import Derived.KernelRfl
namespace Go.Proofs.Ytnpeekncggidcaa
/- THE CELL 'sum', in the pinned program and in every row, IS THE sha256 OF THE DUMP (.gsa) THAT YtnpeekncggidcaaProg.lean LOADS. Nothing in Lean hashes anything: it is a label: what it is worth is what the hold of that sum in a sandbox is worth. -/
noncomputable def Try.pinned : Pinned := { name := "ytnpeekncggidcaa", sum := "4dc0044c9784e4eeff647465e4d8f3177fd43d189a402c33ba0dfd680f57be05", checked := Try.checked }
namespace Rows
def none {H : Type} : Left H := { results := [], args := [] }

/-- 'progenylaw14.SsaChecks': WHATEVER THE INPUT: true; the input reads as it did. -/
def ssaChecksSpec : ChangeSpec := { name := "ssaChecks", fn := fun _ => fun
  | [d1, d2] => { results := [.lit (.bool true)], args := [d1, d2] }
  | _ => none }
def ssaChecksRow : OpenClaim := { program := "ytnpeekncggidcaa", sum := "4dc0044c9784e4eeff647465e4d8f3177fd43d189a402c33ba0dfd680f57be05", func := "progeny/progenylaw14.SsaChecks", spec := "ssaChecks", inPlace := ["internal/bytealg.IndexByteString", "internal/abi.NoEscape", "internal/bytealg.MakeNoZero"], unfollowed := true, recurses := true, apart := false }
def SsaChecksSaid : Prop := ssaChecksRow.holds Try.pinned (OpenSpec.ofChange ssaChecksSpec)

/-- ITS FALSE NEIGHBOUR: 'it returns false'. Refute it at one input. -/
def ssaChecksWrong : ChangeSpec := { name := "ssaChecks", fn := fun _ => fun
  | [d1, d2] => { results := [.lit (.bool false)], args := [d1, d2] }
  | _ => none }
def SsaChecksWrongFalsely : Prop := ssaChecksRow.holds Try.pinned (OpenSpec.ofChange ssaChecksWrong)

/-- 'progenylaw14.SsaBegins': WHATEVER THE INPUT: true; the input reads as it did. -/
def ssaBeginsSpec : ChangeSpec := { name := "ssaBegins", fn := fun _ => fun
  | [d1, d2] => { results := [.lit (.bool true)], args := [d1, d2] }
  | _ => none }
def ssaBeginsRow : OpenClaim := { program := "ytnpeekncggidcaa", sum := "4dc0044c9784e4eeff647465e4d8f3177fd43d189a402c33ba0dfd680f57be05", func := "progeny/progenylaw14.SsaBegins", spec := "ssaBegins", inPlace := ["internal/bytealg.IndexByteString", "internal/abi.NoEscape", "internal/bytealg.MakeNoZero"], unfollowed := true, recurses := true, apart := false }
def SsaBeginsSaid : Prop := ssaBeginsRow.holds Try.pinned (OpenSpec.ofChange ssaBeginsSpec)

/-- ITS FALSE NEIGHBOUR: 'it returns false'. Refute it at one input. -/
def ssaBeginsWrong : ChangeSpec := { name := "ssaBegins", fn := fun _ => fun
  | [d1, d2] => { results := [.lit (.bool false)], args := [d1, d2] }
  | _ => none }
def SsaBeginsWrongFalsely : Prop := ssaBeginsRow.holds Try.pinned (OpenSpec.ofChange ssaBeginsWrong)

/-- 'progenylaw14.SsaWays': WHATEVER THE INPUT: true; the input reads as it did. -/
def ssaWaysSpec : ChangeSpec := { name := "ssaWays", fn := fun _ => fun
  | [d1, d2, d3] => { results := [.lit (.bool true)], args := [d1, d2, d3] }
  | _ => none }
def ssaWaysRow : OpenClaim := { program := "ytnpeekncggidcaa", sum := "4dc0044c9784e4eeff647465e4d8f3177fd43d189a402c33ba0dfd680f57be05", func := "progeny/progenylaw14.SsaWays", spec := "ssaWays", inPlace := ["internal/bytealg.IndexByteString", "internal/abi.NoEscape", "internal/bytealg.MakeNoZero"], unfollowed := true, recurses := true, apart := false }
def SsaWaysSaid : Prop := ssaWaysRow.holds Try.pinned (OpenSpec.ofChange ssaWaysSpec)

/-- ITS FALSE NEIGHBOUR: 'it returns false'. Refute it at one input. -/
def ssaWaysWrong : ChangeSpec := { name := "ssaWays", fn := fun _ => fun
  | [d1, d2, d3] => { results := [.lit (.bool false)], args := [d1, d2, d3] }
  | _ => none }
def SsaWaysWrongFalsely : Prop := ssaWaysRow.holds Try.pinned (OpenSpec.ofChange ssaWaysWrong)

/- THE SECOND FORM. 'bulk': how many values and letters a reading holds, each counted each time it is reached (what is shared counts as often as it is met; a slice's spare places count too). A statement '..UptoSaid' is the law's where the arguments, and the package variables that the reading takes, are together of bulk at most 1048576: NARROWER than '..Said'. Prove '..Said' where nothing that the law and all that it calls make is longer than what came in: it says more and counts as full. Else prove '..UptoSaid'. A law counts once. -/
mutual
def uptoBulk {H : Type} : DataW H → Nat
  | .lit (.string bytes) => bytes.length + 1
  | .lit _ => 1
  | .nil => 1
  | .ptr d => uptoBulk d + 1
  | .slice elems spare => uptoBulkAll elems + uptoBulkAll spare + 1
  | .agg parts => uptoBulkAll parts + 1
  | .iface _ d => uptoBulk d + 1
  | .map entries => uptoBulkEntries entries + 1
  | .held _ => 1
def uptoBulkAll {H : Type} : List (DataW H) → Nat
  | [] => 0
  | d :: r => uptoBulk d + uptoBulkAll r
def uptoBulkEntries {H : Type} : List (Lit × DataW H) → Nat
  | [] => 0
  | x :: r => uptoBulkEntry x + uptoBulkEntries r
def uptoBulkEntry {H : Type} : Lit × DataW H → Nat
  | (.string bytes, d) => bytes.length + uptoBulk d + 1
  | (_, d) => uptoBulk d + 1
 end
def uptoSmall : (H : Type) → List (DataW H) → Bool := fun _ ds => decide (uptoBulkAll ds ≤ 1048576)
def OpenSpec.upto (s : _root_.Go.ChangeSpec) : _root_.Go.OpenSpec := { _root_.Go.OpenSpec.ofChange s with cond := some uptoSmall }

/-- 'progenylaw14.SsaChecks', WHERE WHAT IT READS IS OF BULK AT MOST 1048576: true; the input reads as it did. -/
def ssaChecksUptoRow : OpenClaim := { program := "ytnpeekncggidcaa", sum := "4dc0044c9784e4eeff647465e4d8f3177fd43d189a402c33ba0dfd680f57be05", func := "progeny/progenylaw14.SsaChecks", spec := "ssaChecks", inPlace := ["internal/bytealg.IndexByteString", "internal/abi.NoEscape", "internal/bytealg.MakeNoZero"], unfollowed := true, recurses := true, apart := false, narrowed := true }
def SsaChecksUptoSaid : Prop := ssaChecksUptoRow.holds Try.pinned (OpenSpec.upto ssaChecksSpec)

/-- 'progenylaw14.SsaBegins', WHERE WHAT IT READS IS OF BULK AT MOST 1048576: true; the input reads as it did. -/
def ssaBeginsUptoRow : OpenClaim := { program := "ytnpeekncggidcaa", sum := "4dc0044c9784e4eeff647465e4d8f3177fd43d189a402c33ba0dfd680f57be05", func := "progeny/progenylaw14.SsaBegins", spec := "ssaBegins", inPlace := ["internal/bytealg.IndexByteString", "internal/abi.NoEscape", "internal/bytealg.MakeNoZero"], unfollowed := true, recurses := true, apart := false, narrowed := true }
def SsaBeginsUptoSaid : Prop := ssaBeginsUptoRow.holds Try.pinned (OpenSpec.upto ssaBeginsSpec)

/-- 'progenylaw14.SsaWays', WHERE WHAT IT READS IS OF BULK AT MOST 1048576: true; the input reads as it did. -/
def ssaWaysUptoRow : OpenClaim := { program := "ytnpeekncggidcaa", sum := "4dc0044c9784e4eeff647465e4d8f3177fd43d189a402c33ba0dfd680f57be05", func := "progeny/progenylaw14.SsaWays", spec := "ssaWays", inPlace := ["internal/bytealg.IndexByteString", "internal/abi.NoEscape", "internal/bytealg.MakeNoZero"], unfollowed := true, recurses := true, apart := false, narrowed := true }
def SsaWaysUptoSaid : Prop := ssaWaysUptoRow.holds Try.pinned (OpenSpec.upto ssaWaysSpec)

end Rows
end Go.Proofs.Ytnpeekncggidcaa
