/- The functions as functions on lists, and what they come to: no program in sight. Conditions: those that each theorem names. -/
import Derived.Test.YteecoopnleidaaaDoorA3
import Derived.IntWalk
namespace Go.Sh
open Go.AE (idx idxS cut cat app upTo inB sameLen revInt wfI wfS wfL wfT mkN repS repL joinS cmpB idxB quoI remE shlI shrI andI orI xorI catL bytesB itoa1 repG)
set_option linter.unusedVariables false
abbrev Str := List UInt8
def octet_Text : Nat → (Str) → Option ((List Int) × Int)
  | 0, _ => none
  | k + 1, a0 =>
    (bif (decide ((a0.length : Int) > 255)) then (some (([] : List Int), 2)) else
      (((app ([(Go.IntKind.wrap .u8 (a0.length : Int))] : List Int) (bytesB a0)).bind fun v1 => (some (v1, 0))).bind fun o2 =>
        (some (o2.1, o2.2))))
def octet_Number : Nat → (Int) → Option ((List Int) × Int)
  | 0, _ => none
  | k + 1, a0 =>
    ((bif (decide (a0 < 0)) then (some (true)) else (some ((decide (a0 > 4294967295))))).bind fun o1 =>
      (bif o1 then (some (([] : List Int), 2)) else
      (((shrI .i64 a0 24).bind fun v2 => ((shrI .i64 a0 16).bind fun v3 => ((shrI .i64 a0 8).bind fun v4 => (some (([(Go.IntKind.wrap .u8 v2), (Go.IntKind.wrap .u8 v3), (Go.IntKind.wrap .u8 v4), (Go.IntKind.wrap .u8 a0)] : List Int), 0))))).bind fun o5 =>
        (some (o5.1, o5.2)))))
def strconv_Itoa : Nat → Int → Option Str
  | 0, _ => none
  | _ + 1, n => itoa1 n
def strings_Repeat : Nat → Str → Int → Option Str
  | 0, _, _ => none
  | _ + 1, s, n => repS s n
def octet_Digits : Nat → (Int) → (Int) → Option (Str × Int)
  | 0, _, _ => none
  | k + 1, a0, a1 =>
    ((strconv_Itoa k a0).bind fun o2 =>
      ((bif (decide (a0 < 0)) then (some (true)) else (bif (decide (a1 < 1)) then (some (true)) else (bif (decide (a1 > 9)) then (some (true)) else (some ((decide ((o2.length : Int) > a1))))))).bind fun o3 =>
      (bif o3 then (some (([] : Str), 2)) else
      (((strings_Repeat k ([48] : Str) (Go.IntKind.wrap .i64 (a1 - (o2.length : Int)))).bind fun v4 => ((cat v4 o2).bind fun v5 => (some (v5, 0)))).bind fun o6 =>
        (some (o6.1, o6.2))))))
def octet_Pad : Nat → (Str) → (Int) → Option (Str × Int)
  | 0, _, _ => none
  | k + 1, a0, a1 =>
    ((bif (decide (a1 < (a0.length : Int))) then (some (true)) else (some ((decide (a1 > 255))))).bind fun o1 =>
      (bif o1 then (some (([] : Str), 2)) else
      (((strings_Repeat k ([32] : Str) (Go.IntKind.wrap .i64 (a1 - (a0.length : Int)))).bind fun v2 => ((cat a0 v2).bind fun v3 => (some (v3, 0)))).bind fun o4 =>
        (some (o4.1, o4.2)))))
def strings_ReplaceAll : Nat → Str → Str → Str → Option Str
  | 0, _, _, _ => none
  | _ + 1, s, o, n => repG s o n
def octet_Key_L1 (k : Nat) (a0 : (List Str))  (K0 : (List Int) → Int → Option (List Int)) : Nat → (List Int) → Int → Option (List Int)
  | 0, _, _ => none
  | m + 1, x8, x9 =>
    (bif (decide (x9 < (a0.length : Int))) then ((idx a0 x9).bind fun o11 =>
          (((strings_ReplaceAll k o11 ([0] : Str) ([0, 255] : Str)).bind fun v12 => (app x8 (bytesB v12))).bind fun o14 =>
          ((app o14 ([0, 1] : List Int)).bind fun o16 =>
          (octet_Key_L1 k a0 K0 m o16 (Go.IntKind.wrap .i64 (x9 + 1)))))) else
        (K0 x8 x9))
def octet_Key : Nat → ((List Str)) → Option (List Int)
  | 0, _ => none
  | k + 1, a0 =>
    (octet_Key_L1 k a0 (fun y17 y18 =>
      (some y17)) k ([] : List Int) 0)
def law01_First : Nat → Option Bool
  | _ + 5 => some true
  | _ => none
end Go.Sh
namespace Go.Sh
open Go.AE
set_option linter.unusedVariables false
end Go.Sh

