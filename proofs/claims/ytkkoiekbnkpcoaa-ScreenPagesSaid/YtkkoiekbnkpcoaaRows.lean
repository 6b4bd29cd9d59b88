/-
  No cell of these rows narrows 'for every input' (looked for: loops, veiled, ifaces, maps, wideKeys, modest, calm, conditions, laid).
  DERIVED. THE GIVEN ROWS OF THIS SEAT. 5 by the template 'for every input the law returns true; each argument reads behind the call as it read before'; 0 by the template 'total and deterministic' (their statements: YtkkoiekbnkpcoaaTotals.lean).
  GIVEN WITH THE SEED: the statements are not yours to turn. If you find one false, say at which input.
  Laid BY PROGRAM, IN A SANDBOX (cutbox-rows.mjs): the forced cells as the released guide's own fill.sh prints them over the translation 03494c1493bc7ad8… (all of the seat's roots in one cut). By AI agents, Wed Nov 11 2026. No macro, syntax, notation, axiom, sorry.
-/
import Derived.Test.YtkkoiekbnkpcoaaChecked
import GoSem.Claim
import GoSem.ClaimJoined
import GoSem.ClaimMapViews
import Derived.JoinedTies
import Derived.KernelRfl
namespace Go.Proofs.Ytkkoiekbnkpcoaa
/- THE CELL 'sum', in the pinned program and in every row, IS THE sha256 OF THE DUMP (.gsa) THAT YtkkoiekbnkpcoaaProg.lean LOADS. Nothing in Lean hashes anything: it is a label: what it is worth is what the hold of that sum in a sandbox is worth. -/
noncomputable def Try.pinned : Pinned := { name := "ytkkoiekbnkpcoaa", sum := "03494c1493bc7ad82c8a94e99976d8f00d3044f2722624c69f3a7b5070275971", checked := Try.checked }
namespace Rows
def none {H : Type} : Left H := { results := [], args := [] }

/-- 'progenylaw24.ScreenShows': WHATEVER THE INPUT: true; the input reads as it did. -/
def screenShowsSpec : ChangeSpec := { name := "screenShows", fn := fun _ => fun
  | [d1, d2, d3] => { results := [.lit (.bool true)], args := [d1, d2, d3] }
  | _ => none }
def screenShowsRow : OpenClaim := { program := "ytkkoiekbnkpcoaa", sum := "03494c1493bc7ad82c8a94e99976d8f00d3044f2722624c69f3a7b5070275971", func := "progeny/progenylaw24.ScreenShows", spec := "screenShows", inPlace := ["internal/abi.NoEscape", "internal/bytealg.MakeNoZero"], unfollowed := true, recurses := true, apart := false }
def ScreenShowsSaid : Prop := screenShowsRow.holds Try.pinned (OpenSpec.ofChange screenShowsSpec)

/-- ITS FALSE NEIGHBOUR: 'it returns false'. Refute it at one input. -/
def screenShowsWrong : ChangeSpec := { name := "screenShows", fn := fun _ => fun
  | [d1, d2, d3] => { results := [.lit (.bool false)], args := [d1, d2, d3] }
  | _ => none }
def ScreenShowsWrongFalsely : Prop := screenShowsRow.holds Try.pinned (OpenSpec.ofChange screenShowsWrong)

/-- 'progenylaw24.ScreenTypes': WHATEVER THE INPUT: true; the input reads as it did. -/
def screenTypesSpec : ChangeSpec := { name := "screenTypes", fn := fun _ => fun
  | [d1, d2, d3] => { results := [.lit (.bool true)], args := [d1, d2, d3] }
  | _ => none }
def screenTypesRow : OpenClaim := { program := "ytkkoiekbnkpcoaa", sum := "03494c1493bc7ad82c8a94e99976d8f00d3044f2722624c69f3a7b5070275971", func := "progeny/progenylaw24.ScreenTypes", spec := "screenTypes", inPlace := ["internal/abi.NoEscape", "internal/bytealg.MakeNoZero"], unfollowed := true, recurses := true, apart := false }
def ScreenTypesSaid : Prop := screenTypesRow.holds Try.pinned (OpenSpec.ofChange screenTypesSpec)

/-- ITS FALSE NEIGHBOUR: 'it returns false'. Refute it at one input. -/
def screenTypesWrong : ChangeSpec := { name := "screenTypes", fn := fun _ => fun
  | [d1, d2, d3] => { results := [.lit (.bool false)], args := [d1, d2, d3] }
  | _ => none }
def ScreenTypesWrongFalsely : Prop := screenTypesRow.holds Try.pinned (OpenSpec.ofChange screenTypesWrong)

/-- 'progenylaw24.ScreenForms': WHATEVER THE INPUT: true; the input reads as it did. -/
def screenFormsSpec : ChangeSpec := { name := "screenForms", fn := fun _ => fun
  | [d1, d2, d3] => { results := [.lit (.bool true)], args := [d1, d2, d3] }
  | _ => none }
def screenFormsRow : OpenClaim := { program := "ytkkoiekbnkpcoaa", sum := "03494c1493bc7ad82c8a94e99976d8f00d3044f2722624c69f3a7b5070275971", func := "progeny/progenylaw24.ScreenForms", spec := "screenForms", inPlace := ["internal/abi.NoEscape", "internal/bytealg.MakeNoZero"], unfollowed := true, recurses := true, apart := false }
def ScreenFormsSaid : Prop := screenFormsRow.holds Try.pinned (OpenSpec.ofChange screenFormsSpec)

/-- ITS FALSE NEIGHBOUR: 'it returns false'. Refute it at one input. -/
def screenFormsWrong : ChangeSpec := { name := "screenForms", fn := fun _ => fun
  | [d1, d2, d3] => { results := [.lit (.bool false)], args := [d1, d2, d3] }
  | _ => none }
def ScreenFormsWrongFalsely : Prop := screenFormsRow.holds Try.pinned (OpenSpec.ofChange screenFormsWrong)

/-- 'progenylaw24.ScreenPages': WHATEVER THE INPUT: true; the input reads as it did. -/
def screenPagesSpec : ChangeSpec := { name := "screenPages", fn := fun _ => fun
  | [d1, d2] => { results := [.lit (.bool true)], args := [d1, d2] }
  | _ => none }
def screenPagesRow : OpenClaim := { program := "ytkkoiekbnkpcoaa", sum := "03494c1493bc7ad82c8a94e99976d8f00d3044f2722624c69f3a7b5070275971", func := "progeny/progenylaw24.ScreenPages", spec := "screenPages", inPlace := ["internal/abi.NoEscape", "internal/bytealg.MakeNoZero"], unfollowed := true, recurses := true, apart := false }
def ScreenPagesSaid : Prop := screenPagesRow.holds Try.pinned (OpenSpec.ofChange screenPagesSpec)

/-- ITS FALSE NEIGHBOUR: 'it returns false'. Refute it at one input. -/
def screenPagesWrong : ChangeSpec := { name := "screenPages", fn := fun _ => fun
  | [d1, d2] => { results := [.lit (.bool false)], args := [d1, d2] }
  | _ => none }
def ScreenPagesWrongFalsely : Prop := screenPagesRow.holds Try.pinned (OpenSpec.ofChange screenPagesWrong)

/-- 'progenylaw24.ScreenPlaces': WHATEVER THE INPUT: true; the input reads as it did. -/
def screenPlacesSpec : ChangeSpec := { name := "screenPlaces", fn := fun _ => fun
  | [d1, d2] => { results := [.lit (.bool true)], args := [d1, d2] }
  | _ => none }
def screenPlacesRow : OpenClaim := { program := "ytkkoiekbnkpcoaa", sum := "03494c1493bc7ad82c8a94e99976d8f00d3044f2722624c69f3a7b5070275971", func := "progeny/progenylaw24.ScreenPlaces", spec := "screenPlaces", inPlace := ["internal/abi.NoEscape", "internal/bytealg.MakeNoZero"], unfollowed := true, recurses := true, apart := false }
def ScreenPlacesSaid : Prop := screenPlacesRow.holds Try.pinned (OpenSpec.ofChange screenPlacesSpec)

/-- ITS FALSE NEIGHBOUR: 'it returns false'. Refute it at one input. -/
def screenPlacesWrong : ChangeSpec := { name := "screenPlaces", fn := fun _ => fun
  | [d1, d2] => { results := [.lit (.bool false)], args := [d1, d2] }
  | _ => none }
def ScreenPlacesWrongFalsely : Prop := screenPlacesRow.holds Try.pinned (OpenSpec.ofChange screenPlacesWrong)

/- THE SECOND FORM. 'bulk': how many values and letters a reading holds, each counted each time it is reached (what is shared counts as often as it is met; a slice's spare places count too). A statement '..UptoSaid' is the law's where the arguments, and the package variables that the reading takes, are together of bulk at most 1048576: NARROWER than '..Said'. Prove '..Said' where nothing that the law and all that it calls make is longer than what came in: it says more and counts as full. Else prove '..UptoSaid'. A law counts once. -/
mutual
def uptoBulk {H : Type} : DataW H → Nat
  | .lit (.string bytes) => bytes.length + 1
  | .lit _ => 1
  | .nil => 1
  | .ptr d => uptoBulk d + 1
  | .slice elems spare => uptoBulkAll elems + uptoBulkAll spare + 1
  | .agg parts => uptoBulkAll parts + 1
  | .iface _ d => uptoBulk d + 1
  | .map entries => uptoBulkEntries entries + 1
  | .held _ => 1
def uptoBulkAll {H : Type} : List (DataW H) → Nat
  | [] => 0
  | d :: r => uptoBulk d + uptoBulkAll r
def uptoBulkEntries {H : Type} : List (Lit × DataW H) → Nat
  | [] => 0
  | x :: r => uptoBulkEntry x + uptoBulkEntries r
def uptoBulkEntry {H : Type} : Lit × DataW H → Nat
  | (.string bytes, d) => bytes.length + uptoBulk d + 1
  | (_, d) => uptoBulk d + 1
 end
def uptoSmall : (H : Type) → List (DataW H) → Bool := fun _ ds => decide (uptoBulkAll ds ≤ 1048576)
def OpenSpec.upto (s : _root_.Go.ChangeSpec) : _root_.Go.OpenSpec := { _root_.Go.OpenSpec.ofChange s with cond := some uptoSmall }

/-- 'progenylaw24.ScreenShows', WHERE WHAT IT READS IS OF BULK AT MOST 1048576: true; the input reads as it did. -/
def screenShowsUptoRow : OpenClaim := { program := "ytkkoiekbnkpcoaa", sum := "03494c1493bc7ad82c8a94e99976d8f00d3044f2722624c69f3a7b5070275971", func := "progeny/progenylaw24.ScreenShows", spec := "screenShows", inPlace := ["internal/abi.NoEscape", "internal/bytealg.MakeNoZero"], unfollowed := true, recurses := true, apart := false, narrowed := true }
def ScreenShowsUptoSaid : Prop := screenShowsUptoRow.holds Try.pinned (OpenSpec.upto screenShowsSpec)

/-- 'progenylaw24.ScreenTypes', WHERE WHAT IT READS IS OF BULK AT MOST 1048576: true; the input reads as it did. -/
def screenTypesUptoRow : OpenClaim := { program := "ytkkoiekbnkpcoaa", sum := "03494c1493bc7ad82c8a94e99976d8f00d3044f2722624c69f3a7b5070275971", func := "progeny/progenylaw24.ScreenTypes", spec := "screenTypes", inPlace := ["internal/abi.NoEscape", "internal/bytealg.MakeNoZero"], unfollowed := true, recurses := true, apart := false, narrowed := true }
def ScreenTypesUptoSaid : Prop := screenTypesUptoRow.holds Try.pinned (OpenSpec.upto screenTypesSpec)

/-- 'progenylaw24.ScreenForms', WHERE WHAT IT READS IS OF BULK AT MOST 1048576: true; the input reads as it did. -/
def screenFormsUptoRow : OpenClaim := { program := "ytkkoiekbnkpcoaa", sum := "03494c1493bc7ad82c8a94e99976d8f00d3044f2722624c69f3a7b5070275971", func := "progeny/progenylaw24.ScreenForms", spec := "screenForms", inPlace := ["internal/abi.NoEscape", "internal/bytealg.MakeNoZero"], unfollowed := true, recurses := true, apart := false, narrowed := true }
def ScreenFormsUptoSaid : Prop := screenFormsUptoRow.holds Try.pinned (OpenSpec.upto screenFormsSpec)

/-- 'progenylaw24.ScreenPages', WHERE WHAT IT READS IS OF BULK AT MOST 1048576: true; the input reads as it did. -/
def screenPagesUptoRow : OpenClaim := { program := "ytkkoiekbnkpcoaa", sum := "03494c1493bc7ad82c8a94e99976d8f00d3044f2722624c69f3a7b5070275971", func := "progeny/progenylaw24.ScreenPages", spec := "screenPages", inPlace := ["internal/abi.NoEscape", "internal/bytealg.MakeNoZero"], unfollowed := true, recurses := true, apart := false, narrowed := true }
def ScreenPagesUptoSaid : Prop := screenPagesUptoRow.holds Try.pinned (OpenSpec.upto screenPagesSpec)

/-- 'progenylaw24.ScreenPlaces', WHERE WHAT IT READS IS OF BULK AT MOST 1048576: true; the input reads as it did. -/
def screenPlacesUptoRow : OpenClaim := { program := "ytkkoiekbnkpcoaa", sum := "03494c1493bc7ad82c8a94e99976d8f00d3044f2722624c69f3a7b5070275971", func := "progeny/progenylaw24.ScreenPlaces", spec := "screenPlaces", inPlace := ["internal/abi.NoEscape", "internal/bytealg.MakeNoZero"], unfollowed := true, recurses := true, apart := false, narrowed := true }
def ScreenPlacesUptoSaid : Prop := screenPlacesUptoRow.holds Try.pinned (OpenSpec.upto screenPlacesSpec)

end Rows
end Go.Proofs.Ytkkoiekbnkpcoaa
