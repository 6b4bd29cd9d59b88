/- The functions as functions on lists, and what they come to: no program in sight. Conditions: those that each theorem names. -/
import Derived.Test.YtkkoiekbnkpcoaaGreatDoorA3
import Derived.IntWalk
import Derived.Lib.SplitLaws
import Derived.Lib.AtoiAllCases
namespace Go.Sh
open Go.AE (idx idxS cut cat app upTo inB sameLen revInt wfI wfS wfL wfT mkN repS repL joinS cmpB idxB quoI remE shlI shrI andI orI xorI catL bytesB itoaA repG trimR fdS runeS bldApp bldB bldStr splS splN cutS numV)
set_option linter.unusedVariables false
abbrev Str := List UInt8
structure T_api_Mark where
 fRow : Int
 fColumn : Int
 fText : Str
 deriving DecidableEq
structure T_api_Slot where
 fName : Str
 fRow : Int
 fColumn : Int
 fBytes : Int
 fIn : Int
 fOut : Int
 fFill : Int
 deriving DecidableEq
structure T_api_Form where
 fRows : Int
 fColumns : Int
 fMarks : (List T_api_Mark)
 fFields : (List T_api_Slot)
 deriving DecidableEq
structure T_screen_part where
 frow : Int
 fcolumn : Int
 fn : Int
 deriving DecidableEq
structure T_progenyref24_span where
 frow : Int
 fcolumn : Int
 fbytes : Int
 deriving DecidableEq
def wf_T_api_Mark (a : T_api_Mark) : Prop := (wfI .i64) a.fRow ∧ (wfI .i64) a.fColumn ∧ wfS a.fText ∧ wfT ()
def wf_T_api_Slot (a : T_api_Slot) : Prop := wfS a.fName ∧ (wfI .i64) a.fRow ∧ (wfI .i64) a.fColumn ∧ (wfI .i64) a.fBytes ∧ (wfI .i64) a.fIn ∧ (wfI .i64) a.fOut ∧ (wfI .u8) a.fFill ∧ wfT ()
def wf_T_api_Form (a : T_api_Form) : Prop := (wfI .i64) a.fRows ∧ (wfI .i64) a.fColumns ∧ (wfL wf_T_api_Mark) a.fMarks ∧ (wfL wf_T_api_Slot) a.fFields ∧ wfT ()
def wf_T_screen_part (a : T_screen_part) : Prop := (wfI .i64) a.frow ∧ (wfI .i64) a.fcolumn ∧ (wfI .i64) a.fn ∧ wfT ()
def wf_T_progenyref24_span (a : T_progenyref24_span) : Prop := (wfI .i64) a.frow ∧ (wfI .i64) a.fcolumn ∧ (wfI .i64) a.fbytes ∧ wfT ()
def law24_Large_L1 (a0 : T_api_Form)  (K0 : Int → Option Bool) : Nat → Int → Option Bool
 | 0, _ => none
 | m + 1, x4 =>
  (bif (decide (x4 < (a0.fMarks.length : Int))) then (((idx a0.fMarks x4).bind fun v5 => (some ((decide ((v5.fText.length : Int) > 100))))).bind fun o6 =>
        (bif o6 then (some true) else
        (law24_Large_L1 a0 K0 m (Go.IntKind.wrap .i64 (x4 + 1))))) else
    (K0 x4))
def law24_Large_L2 (a0 : T_api_Form)  (K0 : Int → Option Bool) : Nat → Int → Option Bool
 | 0, _ => none
 | m + 1, x10 =>
  (bif (decide (x10 < (a0.fFields.length : Int))) then (((idx a0.fFields x10).bind fun v11 => (some ((decide ((v11.fName.length : Int) > 100))))).bind fun o12 =>
        (bif o12 then (some true) else
        (law24_Large_L2 a0 K0 m (Go.IntKind.wrap .i64 (x10 + 1))))) else
    (K0 x10))
def law24_Large : Nat → (T_api_Form) → Option Bool
 | 0, _ => none
 | k + 1, a0 =>
  ((bif (decide ((a0.fMarks.length : Int) > 20)) then (some (true)) else (some ((decide ((a0.fFields.length : Int) > 20))))).bind fun o1 =>
   (bif o1 then (some true) else
   (law24_Large_L1 a0 (fun y7 =>
    (law24_Large_L2 a0 (fun y13 =>
     (some false)) k 0)) k 0)))
def screen_isName_L1 (a0 : Str)  (K0 : Int → Option Bool) : Nat → Int → Option Bool
 | 0, _ => none
 | m + 1, x7 =>
  (bif (decide (x7 < (a0.length : Int))) then (((idxS a0 x7).bind fun v8 => (bif (decide (v8 ≥ 65)) then ((idxS a0 x7).bind fun v9 => (some ((decide (v9 ≤ 90))))) else (some (false)))).bind fun o10 =>
        ((bif (!o10) then (bif (x7 == 0) then (some (true)) else ((idxS a0 x7).bind fun v11 => (bif (decide (v11 < 48)) then (some (true)) else ((idxS a0 x7).bind fun v12 => (some ((decide (v12 > 57)))))))) else (some (false))).bind fun o13 =>
        (bif o13 then (some false) else
        (screen_isName_L1 a0 K0 m (Go.IntKind.wrap .i64 (x7 + 1)))))) else
    (K0 x7))
def screen_isName : Nat → (Str) → Option Bool
 | 0, _ => none
 | k + 1, a0 =>
  (screen_isName_L1 a0 (fun y14 =>
   ((bif (decide ((a0.length : Int) ≥ 1)) then (some ((decide ((a0.length : Int) ≤ 8)))) else (some (false))).bind fun o15 =>
    (some o15))) k 0)
def screen_isPlace : Nat → (Int) → Option Bool
 | 0, _ => none
 | k + 1, a0 =>
  ((bif (decide (a0 ≥ (-1))) then (some ((decide (a0 < 4)))) else (some (false))).bind fun o1 =>
   (some o1))
def screen_isByte : Nat → (Int) → Option Bool
 | 0, _ => none
 | k + 1, a0 =>
  ((bif (decide (a0 ≥ 32)) then (some ((decide (a0 ≤ 126)))) else (some (false))).bind fun o1 =>
   (some o1))
def slices_IndexFunc_Slot_L1 (k : Nat) (a0 : (List T_api_Slot)) (a1 : Nat → T_api_Slot → Option Bool) (K0 : Int → Option Int) : Nat → Int → Option Int
 | 0, _ => none
 | m + 1, x4 =>
  (bif (decide (x4 < (a0.length : Int))) then (((idx a0 x4).bind fun v5 => (a1 k v5)).bind fun o7 =>
        (bif o7 then (some x4) else
        (slices_IndexFunc_Slot_L1 k a0 a1 K0 m (Go.IntKind.wrap .i64 (x4 + 1))))) else
    (K0 x4))
def slices_IndexFunc_Slot : Nat → ((List T_api_Slot)) → (Nat → T_api_Slot → Option Bool) → Option Int
 | 0, _, _ => none
 | k + 1, a0, a1 =>
  (slices_IndexFunc_Slot_L1 k a0 a1 (fun y8 =>
   (some (-1))) k 0)
def slices_ContainsFunc_Slot : Nat → ((List T_api_Slot)) → (Nat → T_api_Slot → Option Bool) → Option Bool
 | 0, _, _ => none
 | k + 1, a0, a1 =>
  (((slices_IndexFunc_Slot k a0 a1).bind fun v1 => (some ((decide (v1 ≥ 0))))).bind fun o2 =>
   (some o2))
def screen_areSlots_1 : Nat → (T_api_Slot) → (T_api_Slot) → Option Bool
 | 0, _, _ => none
 | k + 1, a0, a1 =>
  ((bif (a0.fName == a1.fName) then (some (true)) else (bif (decide (a1.fIn ≥ 0)) then (bif (a0.fIn == a1.fIn) then (some (true)) else (bif (decide (a1.fOut ≥ 0)) then (some ((a0.fOut == a1.fOut))) else (some (false)))) else (bif (decide (a1.fOut ≥ 0)) then (some ((a0.fOut == a1.fOut))) else (some (false))))).bind fun o1 =>
   (some o1))
def screen_areSlots_L1 (k : Nat) (a0 : (List T_api_Slot))  (K0 : Int → Option Bool) : Nat → Int → Option Bool
 | 0, _ => none
 | m + 1, x11 =>
  (bif (decide (x11 < (a0.length : Int))) then (((idx a0 x11).bind fun v12 => (some (x11, v12))).bind fun o13 =>
        (((screen_isName k o13.2.fName).bind fun v14 => (bif (!v14) then (some (true)) else ((screen_isPlace k o13.2.fIn).bind fun v15 => (bif (!v15) then (some (true)) else ((screen_isPlace k o13.2.fOut).bind fun v16 => (bif (!v16) then (some (true)) else ((screen_isByte k o13.2.fFill).bind fun v17 => (some ((!v17)))))))))).bind fun o18 =>
        (bif o18 then (some false) else
        (((cut a0 0 o13.1).bind fun v19 => (slices_ContainsFunc_Slot k v19 (fun j x0 => (screen_areSlots_1 j x0 o13.2)))).bind fun o21 =>
         (bif o21 then (some false) else
         (screen_areSlots_L1 k a0 K0 m (Go.IntKind.wrap .i64 (x11 + 1)))))))) else
    (K0 x11))
def screen_areSlots : Nat → ((List T_api_Slot)) → Option Bool
 | 0, _ => none
 | k + 1, a0 =>
  (screen_areSlots_L1 k a0 (fun y22 =>
   (some (decide ((a0.length : Int) ≤ 10)))) k 0)
def screen_isText_L1 (k : Nat) (a0 : Str)  (K0 : Int → Option Bool) : Nat → Int → Option Bool
 | 0, _ => none
 | m + 1, x4 =>
  (bif (decide (x4 < (a0.length : Int))) then (((idxS a0 x4).bind fun v5 => ((screen_isByte k v5).bind fun v6 => (some ((!v6))))).bind fun o7 =>
        (bif o7 then (some false) else
        (screen_isText_L1 k a0 K0 m (Go.IntKind.wrap .i64 (x4 + 1))))) else
    (K0 x4))
def screen_isText : Nat → (Str) → Option Bool
 | 0, _ => none
 | k + 1, a0 =>
  (screen_isText_L1 k a0 (fun y8 =>
   (some true)) k 0)
def screen_lies : Nat → (T_api_Form) → (Int) → (Int) → (Int) → Option Bool
 | 0, _, _, _, _ => none
 | k + 1, a0, a1, a2, a3 =>
  ((bif (decide (a1 ≥ 0)) then (bif (decide (a1 < a0.fRows)) then (bif (decide (a2 ≥ 0)) then (bif (decide (a2 < a0.fColumns)) then (bif (decide (a3 ≥ 1)) then (some ((decide (a3 ≤ (Go.IntKind.wrap .i64 (a0.fColumns - a2)))))) else (some (false))) else (some (false))) else (some (false))) else (some (false))) else (some (false))).bind fun o1 =>
   (some o1))
def slices_IndexFunc_part_v10s72_L1 (k : Nat) (a0 : (List T_screen_part)) (a1 : Nat → T_screen_part → Option Bool) (K0 : Int → Option Int) : Nat → Int → Option Int
 | 0, _ => none
 | m + 1, x4 =>
  (bif (decide (x4 < (a0.length : Int))) then (((idx a0 x4).bind fun v5 => (a1 k v5)).bind fun o7 =>
        (bif o7 then (some x4) else
        (slices_IndexFunc_part_v10s72_L1 k a0 a1 K0 m (Go.IntKind.wrap .i64 (x4 + 1))))) else
    (K0 x4))
def slices_IndexFunc_part_v10s72 : Nat → ((List T_screen_part)) → (Nat → T_screen_part → Option Bool) → Option Int
 | 0, _, _ => none
 | k + 1, a0, a1 =>
  (slices_IndexFunc_part_v10s72_L1 k a0 a1 (fun y8 =>
   (some (-1))) k 0)
def slices_ContainsFunc_part_v10s72 : Nat → ((List T_screen_part)) → (Nat → T_screen_part → Option Bool) → Option Bool
 | 0, _, _ => none
 | k + 1, a0, a1 =>
  (((slices_IndexFunc_part_v10s72 k a0 a1).bind fun v1 => (some ((decide (v1 ≥ 0))))).bind fun o2 =>
   (some o2))
def screen_part_meets : Nat → (T_screen_part) → (T_screen_part) → Option Bool
 | 0, _, _ => none
 | k + 1, a0, a1 =>
  ((bif (a0.frow == a1.frow) then (bif (decide (a0.fcolumn < (Go.IntKind.wrap .i64 (a1.fcolumn + a1.fn)))) then (some ((decide (a1.fcolumn < (Go.IntKind.wrap .i64 (a0.fcolumn + a0.fn)))))) else (some (false))) else (some (false))).bind fun o1 =>
   (some o1))
def screen_Valid_L1 (k : Nat) (a0 : T_api_Form)  (K0 : (List T_screen_part) → Int → Option Bool) : Nat → (List T_screen_part) → Int → Option Bool
 | 0, _, _ => none
 | m + 1, x10, x11 =>
  (bif (decide (x11 < (a0.fMarks.length : Int))) then ((idx a0.fMarks x11).bind fun o13 =>
        ((bif (decide ((o13.fText.length : Int) > 40)) then (some (true)) else ((screen_isText k o13.fText).bind fun v14 => (bif (!v14) then (some (true)) else ((screen_lies k a0 o13.fRow o13.fColumn (o13.fText.length : Int)).bind fun v15 => (some ((!v15))))))).bind fun o16 =>
        (bif o16 then (some false) else
        ((app x10 ([({ frow := o13.fRow, fcolumn := o13.fColumn, fn := (o13.fText.length : Int) } : T_screen_part)] : List T_screen_part)).bind fun o18 =>
         (screen_Valid_L1 k a0 K0 m o18 (Go.IntKind.wrap .i64 (x11 + 1))))))) else
    (K0 x10 x11))
def screen_Valid_L2 (k : Nat) (a0 : T_api_Form)  (K0 : (List T_screen_part) → Int → Option Bool) : Nat → (List T_screen_part) → Int → Option Bool
 | 0, _, _ => none
 | m + 1, x27, x28 =>
  (bif (decide (x28 < (a0.fFields.length : Int))) then ((idx a0.fFields x28).bind fun o30 =>
        (((screen_lies k a0 o30.fRow o30.fColumn o30.fBytes).bind fun v31 => (some ((!v31)))).bind fun o32 =>
        (bif o32 then (some false) else
        ((app x27 ([({ frow := o30.fRow, fcolumn := o30.fColumn, fn := o30.fBytes } : T_screen_part)] : List T_screen_part)).bind fun o34 =>
         (screen_Valid_L2 k a0 K0 m o34 (Go.IntKind.wrap .i64 (x28 + 1))))))) else
    (K0 x27 x28))
def screen_Valid_L3 (k : Nat) (y35 : (List T_screen_part))  (K0 : Int → Option Bool) : Nat → Int → Option Bool
 | 0, _ => none
 | m + 1, x42 =>
  (bif (decide (x42 < (y35.length : Int))) then (((idx y35 x42).bind fun v43 => (some (x42, v43))).bind fun o44 =>
        (((cut y35 0 o44.1).bind fun v45 => (slices_ContainsFunc_part_v10s72 k v45 (fun j x0 => (screen_part_meets j o44.2 x0)))).bind fun o47 =>
        (bif o47 then (some false) else
        (screen_Valid_L3 k y35 K0 m (Go.IntKind.wrap .i64 (x42 + 1)))))) else
    (K0 x42))
def screen_Valid : Nat → (T_api_Form) → Option Bool
 | 0, _ => none
 | k + 1, a0 =>
  ((bif (decide (a0.fRows < 1)) then (some (true)) else (bif (decide (a0.fRows > 12)) then (some (true)) else (bif (decide (a0.fColumns < 10)) then (some (true)) else (bif (decide (a0.fColumns > 40)) then (some (true)) else (bif (decide ((a0.fMarks.length : Int) > 8)) then (some (true)) else ((screen_areSlots k a0.fFields).bind fun v1 => (some ((!v1))))))))).bind fun o2 =>
   (bif o2 then (some false) else
   (screen_Valid_L1 k a0 (fun y19 y20 =>
    (screen_Valid_L2 k a0 (fun y35 y36 =>
     (screen_Valid_L3 k y35 (fun y48 =>
      (some true)) k 0)) k y19 0)) k ([] : List T_screen_part) 0)))
def screen_lengths_L1 (a0 : T_api_Form)  (K0 : Int → Int → Int → Option (Int × Int)) : Nat → Int → Int → Int → Option (Int × Int)
 | 0, _, _, _ => none
 | m + 1, x3, x4, x5 =>
  (bif (decide (x5 < (a0.fFields.length : Int))) then ((idx a0.fFields x5).bind fun o7 =>
        (screen_lengths_L1 a0 K0 m (if (Go.IntKind.wrap .i64 (o7.fIn + 1)) > x3 then (Go.IntKind.wrap .i64 (o7.fIn + 1)) else x3) (if (Go.IntKind.wrap .i64 (o7.fOut + 1)) > x4 then (Go.IntKind.wrap .i64 (o7.fOut + 1)) else x4) (Go.IntKind.wrap .i64 (x5 + 1)))) else
    (K0 x3 x4 x5))
def screen_lengths : Nat → (T_api_Form) → Option (Int × Int)
 | 0, _ => none
 | k + 1, a0 =>
  (screen_lengths_L1 a0 (fun y8 y9 y10 =>
   (some (y8, y9))) k 0 0 0)
def slices_IndexFunc_string_v10_L1 (k : Nat) (a0 : (List Str)) (a1 : Nat → Str → Option Bool) (K0 : Int → Option Int) : Nat → Int → Option Int
 | 0, _ => none
 | m + 1, x4 =>
  (bif (decide (x4 < (a0.length : Int))) then (((idx a0 x4).bind fun v5 => (a1 k v5)).bind fun o7 =>
        (bif o7 then (some x4) else
        (slices_IndexFunc_string_v10_L1 k a0 a1 K0 m (Go.IntKind.wrap .i64 (x4 + 1))))) else
    (K0 x4))
def slices_IndexFunc_string_v10 : Nat → ((List Str)) → (Nat → Str → Option Bool) → Option Int
 | 0, _, _ => none
 | k + 1, a0, a1 =>
  (slices_IndexFunc_string_v10_L1 k a0 a1 (fun y8 =>
   (some (-1))) k 0)
def slices_ContainsFunc_string_v10 : Nat → ((List Str)) → (Nat → Str → Option Bool) → Option Bool
 | 0, _, _ => none
 | k + 1, a0, a1 =>
  (((slices_IndexFunc_string_v10 k a0 a1).bind fun v1 => (some ((decide (v1 ≥ 0))))).bind fun o2 =>
   (some o2))
def screen_shows_1 : Nat → (Str) → Option Bool
 | 0, _ => none
 | k + 1, a0 =>
  ((bif (decide ((a0.length : Int) > 200)) then (some (true)) else ((screen_isText k a0).bind fun v1 => (some ((!v1))))).bind fun o2 =>
   (some o2))
def screen_shows : Nat → (T_api_Form) → ((List Str)) → Option Int
 | 0, _, _ => none
 | k + 1, a0, a1 =>
  (((screen_Valid k a0).bind fun v1 => (some ((!v1)))).bind fun o2 =>
   (bif o2 then (some 220) else
   (((screen_lengths k a0).bind fun v3 => (some (v3.2))).bind fun o4 =>
    ((bif ((a1.length : Int) != o4) then (some (true)) else (slices_ContainsFunc_string_v10 k a1 (fun j x0 => (screen_shows_1 j x0)))).bind fun o6 =>
    (bif o6 then (some 2) else
    (some 0))))))
def strings_Repeat : Nat → Str → Int → Option Str
 | 0, _, _ => none
 | _ + 1, s, n => repS s n
def slices_Repeat_string : Nat → (List Str) → Int → Option (List Str)
 | 0, _, _ => none
 | _ + 1, s, n => repL s n
def slices_Clone_string_c : Nat → (Str) → ((List Str)) → Option (List Str)
 | 0, _, _ => none
 | k + 1, y, l =>
  ((app ([] : List Str) (y :: l)).bind fun o2 =>
   (some o2))
def slices_Clone_string : Nat → List Str → Option (List Str)
 | 0, _ => none
 | _ + 1, [] => none
 | k + 1, y :: l => slices_Clone_string_c (k + 1) y l
def screen_laid : Nat → ((List Str)) → (Int) → (Int) → (Str) → Option (List Str)
 | 0, _, _, _, _ => none
 | k + 1, a0, a1, a2, a3 =>
  ((slices_Clone_string k a0).bind fun o2 =>
   (((inB o2.length a1).bind fun v3 => ((o2[0 + a1.toNat]?).bind fun v4 => ((cut v4 0 a2).bind fun v5 => ((cat v5 a3).bind fun v6 => ((inB o2.length a1).bind fun v7 => ((o2[0 + a1.toNat]?).bind fun v8 => ((cut v8 (Go.IntKind.wrap .i64 (a2 + (a3.length : Int))) (v8.length : Int)).bind fun v9 => ((cat v6 v9).bind fun v10 => ((inB o2.length a1).bind fun v11 => ((o2[0 + a1.toNat]?).bind fun v12 => (some ((o2.set (0 + a1.toNat) v10))))))))))))).bind fun o13 =>
   (some o13)))
def screen_filled : Nat → (T_api_Slot) → (Str) → Option Str
 | 0, _, _ => none
 | k + 1, a0, a1 =>
  (bif (decide ((a1.length : Int) ≥ a0.fBytes)) then ((cut a1 0 a0.fBytes).bind fun o2 =>
    (some o2)) else
   (((strings_Repeat k (Go.AE.strB ([a0.fFill] : List Int)) (Go.IntKind.wrap .i64 (a0.fBytes - (a1.length : Int)))).bind fun v3 => (cat a1 v3)).bind fun o5 =>
    (some o5)))
def screen_show_L1 (k : Nat) (a0 : T_api_Form)  (K0 : (List Str) → Int → Option (List Str)) : Nat → (List Str) → Int → Option (List Str)
 | 0, _, _ => none
 | m + 1, x8, x9 =>
  (bif (decide (x9 < (a0.fMarks.length : Int))) then ((idx a0.fMarks x9).bind fun o11 =>
        ((screen_laid k x8 o11.fRow o11.fColumn o11.fText).bind fun o13 =>
        (screen_show_L1 k a0 K0 m o13 (Go.IntKind.wrap .i64 (x9 + 1))))) else
    (K0 x8 x9))
def screen_show_L2 (k : Nat) (a0 : T_api_Form) (a1 : (List Str))  (K0 : (List Str) → Int → Option (List Str)) : Nat → (List Str) → Int → Option (List Str)
 | 0, _, _ => none
 | m + 1, x26, x27 =>
  (bif (decide (x27 < (a0.fFields.length : Int))) then ((idx a0.fFields x27).bind fun o29 =>
        (bif (decide (o29.fOut ≥ 0)) then ((idx a1 o29.fOut).bind fun o31 =>
         (((screen_filled k o29 o31).bind fun v32 => (screen_laid k x26 o29.fRow o29.fColumn v32)).bind fun o34 =>
         (screen_show_L2 k a0 a1 K0 m o34 (Go.IntKind.wrap .i64 (x27 + 1))))) else
        (((screen_filled k o29 ([] : Str)).bind fun v35 => (screen_laid k x26 o29.fRow o29.fColumn v35)).bind fun o37 =>
         (screen_show_L2 k a0 a1 K0 m o37 (Go.IntKind.wrap .i64 (x27 + 1)))))) else
    (K0 x26 x27))
def screen_show : Nat → (T_api_Form) → ((List Str)) → Option (List Str)
 | 0, _, _ => none
 | k + 1, a0, a1 =>
  (((strings_Repeat k ([32] : Str) a0.fColumns).bind fun v1 => (slices_Repeat_string k ([v1] : List Str) a0.fRows)).bind fun o3 =>
   (screen_show_L1 k a0 (fun y14 y15 =>
   (screen_show_L2 k a0 a1 (fun y38 y39 =>
    (some y38)) k y14 0)) k o3 0))
def screen_Show : Nat → (T_api_Form) → ((List Str)) → Option ((List Str) × Int)
 | 0, _, _ => none
 | k + 1, a0, a1 =>
  ((screen_shows k a0 a1).bind fun o2 =>
   (bif (o2 != 0) then (some (([] : List Str), o2)) else
   (((screen_show k a0 a1).bind fun v3 => (some (v3, 0))).bind fun o4 =>
    (some (o4.1, o4.2)))))
def slices_IndexFunc_string_L1 (k : Nat) (a0 : (List Str)) (a1 : Nat → Str → Option Bool) (K0 : Int → Option Int) : Nat → Int → Option Int
 | 0, _ => none
 | m + 1, x4 =>
  (bif (decide (x4 < (a0.length : Int))) then (((idx a0 x4).bind fun v5 => (a1 k v5)).bind fun o7 =>
        (bif o7 then (some x4) else
        (slices_IndexFunc_string_L1 k a0 a1 K0 m (Go.IntKind.wrap .i64 (x4 + 1))))) else
    (K0 x4))
def slices_IndexFunc_string : Nat → ((List Str)) → (Nat → Str → Option Bool) → Option Int
 | 0, _, _ => none
 | k + 1, a0, a1 =>
  (slices_IndexFunc_string_L1 k a0 a1 (fun y8 =>
   (some (-1))) k 0)
def slices_ContainsFunc_string : Nat → ((List Str)) → (Nat → Str → Option Bool) → Option Bool
 | 0, _, _ => none
 | k + 1, a0, a1 =>
  (((slices_IndexFunc_string k a0 a1).bind fun v1 => (some ((decide (v1 ≥ 0))))).bind fun o2 =>
   (some o2))
def screen_fits_1 : Nat → (Str) → (T_api_Form) → Option Bool
 | 0, _, _ => none
 | k + 1, a0, a1 =>
  ((bif ((a0.length : Int) != a1.fColumns) then (some (true)) else ((screen_isText k a0).bind fun v1 => (some ((!v1))))).bind fun o2 =>
   (some o2))
def screen_fits : Nat → (T_api_Form) → ((List Str)) → Option Bool
 | 0, _, _ => none
 | k + 1, a0, a1 =>
  ((bif ((a1.length : Int) == a0.fRows) then ((slices_ContainsFunc_string k a1 (fun j x0 => (screen_fits_1 j x0 a0))).bind fun v1 => (some ((!v1)))) else (some (false))).bind fun o2 =>
   (some o2))
def screen_pictured : Nat → (T_api_Form) → ((List Str)) → Option Int
 | 0, _, _ => none
 | k + 1, a0, a1 =>
  (((screen_Valid k a0).bind fun v1 => (some ((!v1)))).bind fun o2 =>
   (bif o2 then (some 220) else
   (((screen_fits k a0 a1).bind fun v3 => (some ((!v3)))).bind fun o4 =>
    (bif o4 then (some 2) else
    (some 0)))))
def screen_Take_L2 (o28 : T_api_Slot)  (K0 : Str → Option ((List Str) × Int)) : Nat → Str → Option ((List Str) × Int)
 | 0, _ => none
 | m + 1, x36 =>
  ((bif (decide ((x36.length : Int) > 0)) then ((idxS x36 (Go.IntKind.wrap .i64 ((x36.length : Int) - 1))).bind fun v37 => (some ((v37 == o28.fFill)))) else (some (false))).bind fun o38 =>
    (bif o38 then ((cut x36 0 (Go.IntKind.wrap .i64 ((x36.length : Int) - 1))).bind fun o40 =>
     (screen_Take_L2 o28 K0 m o40)) else
    (K0 x36)))
def screen_Take_L1 (k : Nat) (a0 : T_api_Form) (a1 : (List Str))  (K0 : Int → (List Str) → Option ((List Str) × Int)) : Nat → Int → (List Str) → Option ((List Str) × Int)
 | 0, _, _ => none
 | m + 1, x25, x26 =>
  (bif (decide (x25 < (a0.fFields.length : Int))) then ((idx a0.fFields x25).bind fun o28 =>
        (bif (decide (o28.fIn < 0)) then (screen_Take_L1 k a0 a1 K0 m (Go.IntKind.wrap .i64 (x25 + 1)) x26) else
        (((idx a1 o28.fRow).bind fun v29 => (cut v29 o28.fColumn (Go.IntKind.wrap .i64 (o28.fColumn + o28.fBytes)))).bind fun o31 =>
         (screen_Take_L2 o28 (fun y41 =>
         (((inB x26.length o28.fIn).bind fun v42 => ((x26[0 + o28.fIn.toNat]?).bind fun v43 => (some ((x26.set (0 + o28.fIn.toNat) y41))))).bind fun o44 =>
          (screen_Take_L1 k a0 a1 K0 m (Go.IntKind.wrap .i64 (x25 + 1)) o44))) k o31)))) else
    (K0 x25 x26))
def screen_Take : Nat → (T_api_Form) → ((List Str)) → Option ((List Str) × Int)
 | 0, _, _ => none
 | k + 1, a0, a1 =>
  ((screen_pictured k a0 a1).bind fun o2 =>
   (bif (o2 != 0) then (some (([] : List Str), o2)) else
   (((screen_lengths k a0).bind fun v3 => (some (v3.1))).bind fun o4 =>
    ((mkN [] o4).bind fun o6 =>
    (screen_Take_L1 k a0 a1 (fun y45 y46 =>
    (some (y46, 0))) k 0 o6)))))
def ref01_SameTexts_L1 (a0 : (List Str)) (a1 : (List Str))  (K0 : Int → Option Bool) : Nat → Int → Option Bool
 | 0, _ => none
 | m + 1, x4 =>
  (bif (decide (x4 < (a0.length : Int))) then (((idx a0 x4).bind fun v5 => ((idx a1 x4).bind fun v6 => (some ((!(v5 == v6)))))).bind fun o7 =>
        (bif o7 then (some false) else
        (ref01_SameTexts_L1 a0 a1 K0 m (Go.IntKind.wrap .i64 (x4 + 1))))) else
    (K0 x4))
def ref01_SameTexts : Nat → ((List Str)) → ((List Str)) → Option Bool
 | 0, _, _ => none
 | k + 1, a0, a1 =>
  (bif ((a0.length : Int) != (a1.length : Int)) then (some false) else
   (ref01_SameTexts_L1 a0 a1 (fun y8 =>
    (some true)) k 0))
def law24_Awake : Nat → Option Bool
 | 0 => none
 | k + 1 =>
  (((screen_Show k ({ fRows := 2, fColumns := 20, fMarks := ([({ fRow := 0, fColumn := 0, fText := ([78, 65, 77, 69, 58] : Str) } : T_api_Mark)] : List T_api_Mark), fFields := ([({ fName := ([65] : Str), fRow := 0, fColumn := 6, fBytes := 5, fIn := 0, fOut := 0, fFill := 95 } : T_api_Slot)] : List T_api_Slot) } : T_api_Form) ([([65, 66] : Str)] : List Str)).bind fun v1 => (some (v1.1, v1.2))).bind fun o2 =>
   (((screen_Take k ({ fRows := 2, fColumns := 20, fMarks := ([({ fRow := 0, fColumn := 0, fText := ([78, 65, 77, 69, 58] : Str) } : T_api_Mark)] : List T_api_Mark), fFields := ([({ fName := ([65] : Str), fRow := 0, fColumn := 6, fBytes := 5, fIn := 0, fOut := 0, fFill := 95 } : T_api_Slot)] : List T_api_Slot) } : T_api_Form) o2.1).bind fun v3 => (some (v3.1, v3.2))).bind fun o4 =>
   ((bif (o2.2 == 0) then (bif (o4.2 == 0) then (bif ((o2.1.length : Int) == 2) then ((idx o2.1 0).bind fun v5 => (bif (v5 == ([78, 65, 77, 69, 58, 32, 65, 66, 95, 95, 95, 32, 32, 32, 32, 32, 32, 32, 32, 32] : Str)) then (ref01_SameTexts k o4.1 ([([65, 66] : Str)] : List Str)) else (some (false)))) else (some (false))) else (some (false))) else (some (false))).bind fun o7 =>
   (some o7))))
def strconv_Itoa : Nat → Int → Option Str
 | 0, _ => none
 | _ + 1, n => itoaA n
def strings_Join : Nat → List Str → Str → Option Str
 | 0, _, _ => none
 | _ + 1, s, n => joinS s n
def strings_Builder_WriteString : Nat → Str → Str → Option Str
 | 0, _, _ => none
 | _ + 1, b, s => bldApp b s
def strings_Builder_WriteByte : Nat → Str → Int → Option Str
 | 0, _, _ => none
 | _ + 1, b, s => bldB b s
def screen_Format_1 : Nat → ((List Str)) → (Str) → Option (Str)
 | 0, _, _ => none
 | k + 1, a0, a1 =>
  (((strings_Join k a0 ([32] : Str)).bind fun v1 => (strings_Builder_WriteString k a1 v1)).bind fun o3 =>
   ((strings_Builder_WriteByte k o3 10).bind fun o5 =>
   (some o5)))
def screen_place : Nat → (Int) → Option Str
 | 0, _ => none
 | k + 1, a0 =>
  (bif (decide (a0 < 0)) then (some ([45] : Str)) else
   ((strconv_Itoa k a0).bind fun o2 =>
    (some o2)))
def strings_Builder_String : Nat → Str → Option Str
 | 0, _ => none
 | _ + 1, b => bldStr b
def screen_Format_L1 (k : Nat) (a0 : T_api_Form)  (K0 : Int → Str → Option (Str × Int)) : Nat → Int → Str → Option (Str × Int)
 | 0, _, _ => none
 | m + 1, x13, x14 =>
  (bif (decide (x13 < (a0.fMarks.length : Int))) then ((idx a0.fMarks x13).bind fun o16 =>
        (((strconv_Itoa k o16.fRow).bind fun v17 => ((strconv_Itoa k o16.fColumn).bind fun v18 => (screen_Format_1 k ([([77, 65, 82, 75] : Str), v17, v18, o16.fText] : List Str) x14))).bind fun o20 =>
        (screen_Format_L1 k a0 K0 m (Go.IntKind.wrap .i64 (x13 + 1)) o20))) else
    (K0 x13 x14))
def screen_Format_L2 (k : Nat) (a0 : T_api_Form)  (K0 : Int → Str → Option (Str × Int)) : Nat → Int → Str → Option (Str × Int)
 | 0, _, _ => none
 | m + 1, x33, x34 =>
  (bif (decide (x33 < (a0.fFields.length : Int))) then ((idx a0.fFields x33).bind fun o36 =>
        (((strconv_Itoa k o36.fRow).bind fun v37 => ((strconv_Itoa k o36.fColumn).bind fun v38 => ((strconv_Itoa k o36.fBytes).bind fun v39 => ((screen_place k o36.fIn).bind fun v40 => ((screen_place k o36.fOut).bind fun v41 => ((strconv_Itoa k (Go.IntKind.wrap .i64 o36.fFill)).bind fun v42 => (screen_Format_1 k ([([70, 73, 69, 76, 68] : Str), o36.fName, v37, v38, v39, v40, v41, v42] : List Str) x34))))))).bind fun o44 =>
        (screen_Format_L2 k a0 K0 m (Go.IntKind.wrap .i64 (x33 + 1)) o44))) else
    (K0 x33 x34))
def screen_Format : Nat → (T_api_Form) → Option (Str × Int)
 | 0, _ => none
 | k + 1, a0 =>
  (((screen_Valid k a0).bind fun v1 => (some ((!v1)))).bind fun o2 =>
   (bif o2 then (some (([] : Str), 220)) else
   (((strconv_Itoa k a0.fRows).bind fun v3 => ((strconv_Itoa k a0.fColumns).bind fun v4 => (screen_Format_1 k ([([70, 79, 82, 77] : Str), v3, v4] : List Str) ([] : Str)))).bind fun o6 =>
    (screen_Format_L1 k a0 (fun y21 y22 =>
    (screen_Format_L2 k a0 (fun y45 y46 =>
     (((strings_Builder_String k y46).bind fun v47 => (some (v47, 0))).bind fun o48 =>
      (some (o48.1, o48.2)))) k 0 y22)) k 0 o6))))
def ref24_IsText_L1 (a0 : Str)  (K0 : Int → Option Bool) : Nat → Int → Option Bool
 | 0, _ => none
 | m + 1, x4 =>
  (bif (decide (x4 < (a0.length : Int))) then (((idxS a0 x4).bind fun v5 => (bif (decide (v5 < 32)) then (some (true)) else ((idxS a0 x4).bind fun v6 => (some ((decide (v6 > 126))))))).bind fun o7 =>
        (bif o7 then (some false) else
        (ref24_IsText_L1 a0 K0 m (Go.IntKind.wrap .i64 (x4 + 1))))) else
    (K0 x4))
def ref24_IsText : Nat → (Str) → Option Bool
 | 0, _ => none
 | k + 1, a0 =>
  (ref24_IsText_L1 a0 (fun y8 =>
   (some true)) k 0)
def ref11_IsName_L1 (a0 : Str)  (K0 : Int → Option Bool) : Nat → Int → Option Bool
 | 0, _ => none
 | m + 1, x7 =>
  (bif (decide (x7 < (a0.length : Int))) then (((idxS a0 x7).bind fun v8 => (bif (decide (v8 ≥ 65)) then ((idxS a0 x7).bind fun v9 => (some ((decide (v9 ≤ 90))))) else (some (false)))).bind fun o10 =>
        ((bif (!o10) then (bif (x7 == 0) then (some (true)) else ((idxS a0 x7).bind fun v11 => (bif (decide (v11 < 48)) then (some (true)) else ((idxS a0 x7).bind fun v12 => (some ((decide (v12 > 57)))))))) else (some (false))).bind fun o13 =>
        (bif o13 then (some false) else
        (ref11_IsName_L1 a0 K0 m (Go.IntKind.wrap .i64 (x7 + 1)))))) else
    (K0 x7))
def ref11_IsName : Nat → (Str) → Option Bool
 | 0, _ => none
 | k + 1, a0 =>
  (ref11_IsName_L1 a0 (fun y14 =>
   ((bif (decide ((a0.length : Int) ≥ 1)) then (some ((decide ((a0.length : Int) ≤ 8)))) else (some (false))).bind fun o15 =>
    (some o15))) k 0)
def ref24_isField_L1 (a0 : (List T_api_Slot)) (a1 : T_api_Slot)  (K0 : Int → Option Bool) : Nat → Int → Option Bool
 | 0, _ => none
 | m + 1, x8 =>
  (bif (decide (x8 < (a0.length : Int))) then (((idx a0 x8).bind fun v9 => (bif (v9.fName == a1.fName) then (some (true)) else (bif (decide (a1.fIn ≥ 0)) then ((idx a0 x8).bind fun v10 => (bif (v10.fIn == a1.fIn) then (some (true)) else (bif (decide (a1.fOut ≥ 0)) then ((idx a0 x8).bind fun v11 => (some ((v11.fOut == a1.fOut)))) else (some (false))))) else (bif (decide (a1.fOut ≥ 0)) then ((idx a0 x8).bind fun v12 => (some ((v12.fOut == a1.fOut)))) else (some (false)))))).bind fun o13 =>
        (bif o13 then (some false) else
        (ref24_isField_L1 a0 a1 K0 m (Go.IntKind.wrap .i64 (x8 + 1))))) else
    (K0 x8))
def ref24_isField : Nat → ((List T_api_Slot)) → (T_api_Slot) → Option Bool
 | 0, _, _ => none
 | k + 1, a0, a1 =>
  (((ref11_IsName k a1.fName).bind fun v1 => (bif (!v1) then (some (true)) else (bif (decide (a1.fIn < (-1))) then (some (true)) else (bif (decide (a1.fIn > 3)) then (some (true)) else (bif (decide (a1.fOut < (-1))) then (some (true)) else (bif (decide (a1.fOut > 3)) then (some (true)) else (bif (decide (a1.fFill < 32)) then (some (true)) else (some ((decide (a1.fFill > 126))))))))))).bind fun o2 =>
   (bif o2 then (some false) else
   (ref24_isField_L1 a0 a1 (fun y14 =>
    (some true)) k 0)))
def ref24_spans_L1 (a0 : T_api_Form)  (K0 : Int → (List T_progenyref24_span) → Option (List T_progenyref24_span)) : Nat → Int → (List T_progenyref24_span) → Option (List T_progenyref24_span)
 | 0, _, _ => none
 | m + 1, x6, x7 =>
  (bif (decide (x6 < (a0.fMarks.length : Int))) then (((idx a0.fMarks x6).bind fun v8 => ((idx a0.fMarks x6).bind fun v9 => ((idx a0.fMarks x6).bind fun v10 => (app x7 ([({ frow := v8.fRow, fcolumn := v9.fColumn, fbytes := (v10.fText.length : Int) } : T_progenyref24_span)] : List T_progenyref24_span))))).bind fun o12 =>
        (ref24_spans_L1 a0 K0 m (Go.IntKind.wrap .i64 (x6 + 1)) o12)) else
    (K0 x6 x7))
def ref24_spans_L2 (a0 : T_api_Form)  (K0 : Int → (List T_progenyref24_span) → Option (List T_progenyref24_span)) : Nat → Int → (List T_progenyref24_span) → Option (List T_progenyref24_span)
 | 0, _, _ => none
 | m + 1, x20, x21 =>
  (bif (decide (x20 < (a0.fFields.length : Int))) then (((idx a0.fFields x20).bind fun v22 => ((idx a0.fFields x20).bind fun v23 => ((idx a0.fFields x20).bind fun v24 => (app x21 ([({ frow := v22.fRow, fcolumn := v23.fColumn, fbytes := v24.fBytes } : T_progenyref24_span)] : List T_progenyref24_span))))).bind fun o26 =>
        (ref24_spans_L2 a0 K0 m (Go.IntKind.wrap .i64 (x20 + 1)) o26)) else
    (K0 x20 x21))
def ref24_spans : Nat → (T_api_Form) → Option (List T_progenyref24_span)
 | 0, _ => none
 | k + 1, a0 =>
  (ref24_spans_L1 a0 (fun y13 y14 =>
   (ref24_spans_L2 a0 (fun y27 y28 =>
    (some y28)) k 0 y14)) k 0 ([] : List T_progenyref24_span))
def ref24_Valid_L1 (k : Nat) (a0 : T_api_Form)  (K0 : Int → Option Bool) : Nat → Int → Option Bool
 | 0, _ => none
 | m + 1, x5 =>
  (bif (decide (x5 < (a0.fMarks.length : Int))) then (((idx a0.fMarks x5).bind fun v6 => ((ref24_IsText k v6.fText).bind fun v7 => (some ((!v7))))).bind fun o8 =>
        (bif o8 then (some false) else
        (ref24_Valid_L1 k a0 K0 m (Go.IntKind.wrap .i64 (x5 + 1))))) else
    (K0 x5))
def ref24_Valid_L2 (k : Nat) (a0 : T_api_Form)  (K0 : Int → Option Bool) : Nat → Int → Option Bool
 | 0, _ => none
 | m + 1, x14 =>
  (bif (decide (x14 < (a0.fFields.length : Int))) then (((cut a0.fFields 0 x14).bind fun v15 => ((idx a0.fFields x14).bind fun v16 => ((ref24_isField k v15 v16).bind fun v17 => (some ((!v17)))))).bind fun o18 =>
        (bif o18 then (some false) else
        (ref24_Valid_L2 k a0 K0 m (Go.IntKind.wrap .i64 (x14 + 1))))) else
    (K0 x14))
def ref24_Valid_L4 (o21 : (List T_progenyref24_span)) (x50 : Int)  (K0 : Int → Option Bool) : Nat → Int → Option Bool
 | 0, _ => none
 | m + 1, x68 =>
  (bif (decide (x68 < x50)) then (((idx o21 x68).bind fun v69 => ((idx o21 x50).bind fun v70 => (bif (v69.frow == v70.frow) then ((idx o21 x68).bind fun v71 => ((idx o21 x50).bind fun v72 => ((idx o21 x50).bind fun v73 => (bif (decide (v71.fcolumn < (Go.IntKind.wrap .i64 (v72.fcolumn + v73.fbytes)))) then ((idx o21 x50).bind fun v74 => ((idx o21 x68).bind fun v75 => ((idx o21 x68).bind fun v76 => (some ((decide (v74.fcolumn < (Go.IntKind.wrap .i64 (v75.fcolumn + v76.fbytes))))))))) else (some (false)))))) else (some (false))))).bind fun o77 =>
        (bif o77 then (some false) else
        (ref24_Valid_L4 o21 x50 K0 m (Go.IntKind.wrap .i64 (x68 + 1))))) else
    (K0 x68))
def ref24_Valid_L3 (k : Nat) (a0 : T_api_Form) (o21 : (List T_progenyref24_span))  (K0 : Int → Option Bool) : Nat → Int → Option Bool
 | 0, _ => none
 | m + 1, x50 =>
  (bif (decide (x50 < (o21.length : Int))) then (((idx o21 x50).bind fun v51 => (bif (decide (v51.frow < 0)) then (some (true)) else ((idx o21 x50).bind fun v52 => (bif (decide (v52.frow ≥ a0.fRows)) then (some (true)) else ((idx o21 x50).bind fun v53 => (bif (decide (v53.fcolumn < 0)) then (some (true)) else ((idx o21 x50).bind fun v54 => (bif (decide (v54.fcolumn ≥ a0.fColumns)) then (some (true)) else ((idx o21 x50).bind fun v55 => (bif (decide (v55.fbytes < 1)) then (some (true)) else ((idx o21 x50).bind fun v56 => ((idx o21 x50).bind fun v57 => (some ((decide (v56.fbytes > (Go.IntKind.wrap .i64 (a0.fColumns - v57.fcolumn)))))))))))))))))).bind fun o58 =>
        (bif o58 then (some false) else
        (ref24_Valid_L4 o21 x50 (fun y78 =>
         (ref24_Valid_L3 k a0 o21 K0 m (Go.IntKind.wrap .i64 (x50 + 1)))) k 0))) else
    (K0 x50))
def ref24_Valid : Nat → (T_api_Form) → Option Bool
 | 0, _ => none
 | k + 1, a0 =>
  ((bif (decide (a0.fRows < 1)) then (some (true)) else (bif (decide (a0.fRows > 12)) then (some (true)) else (bif (decide (a0.fColumns < 10)) then (some (true)) else (bif (decide (a0.fColumns > 40)) then (some (true)) else (bif (decide ((a0.fMarks.length : Int) > 8)) then (some (true)) else (some ((decide ((a0.fFields.length : Int) > 10))))))))).bind fun o1 =>
   (bif o1 then (some false) else
   (ref24_Valid_L1 k a0 (fun y9 =>
    (ref24_Valid_L2 k a0 (fun y19 =>
     ((ref24_spans k a0).bind fun o21 =>
      (ref24_Valid_L3 k a0 o21 (fun y79 =>
      (some true)) k 0))) k 0)) k 0)))
def ref24_Dec : Nat → (Int) → Option Str
 | 0, _ => none
 | k + 1, a0 =>
  (bif (decide (a0 < 10)) then (some (Go.AE.strB ([(Go.IntKind.wrap .u8 (Go.IntKind.wrap .i64 (48 + a0)))] : List Int))) else
   (((quoI .i64 a0 10).bind fun v1 => ((ref24_Dec k v1).bind fun v2 => ((remE a0 10).bind fun v3 => ((ref24_Dec k v3).bind fun v4 => (cat v2 v4))))).bind fun o6 =>
    (some o6)))
def ref24_place : Nat → (Int) → Option Str
 | 0, _ => none
 | k + 1, a0 =>
  (bif (decide (a0 < 0)) then (some ([45] : Str)) else
   ((ref24_Dec k a0).bind fun o2 =>
    (some o2)))
def ref24_Format_L1 (k : Nat) (a0 : T_api_Form)  (K0 : Str → Int → Option (Str × Int)) : Nat → Str → Int → Option (Str × Int)
 | 0, _, _ => none
 | m + 1, x22, x23 =>
  (bif (decide (x23 < (a0.fMarks.length : Int))) then ((idx a0.fMarks x23).bind fun o25 =>
        (((ref24_Dec k o25.fRow).bind fun v26 => ((cat ([77, 65, 82, 75, 32] : Str) v26).bind fun v27 => ((cat v27 ([32] : Str)).bind fun v28 => ((ref24_Dec k o25.fColumn).bind fun v29 => ((cat v28 v29).bind fun v30 => ((cat v30 ([32] : Str)).bind fun v31 => ((cat v31 o25.fText).bind fun v32 => ((cat v32 ([10] : Str)).bind fun v33 => (cat x22 v33))))))))).bind fun o35 =>
        (ref24_Format_L1 k a0 K0 m o35 (Go.IntKind.wrap .i64 (x23 + 1))))) else
    (K0 x22 x23))
def ref24_Format_L2 (k : Nat) (a0 : T_api_Form)  (K0 : Str → Int → Option (Str × Int)) : Nat → Str → Int → Option (Str × Int)
 | 0, _, _ => none
 | m + 1, x62, x63 =>
  (bif (decide (x63 < (a0.fFields.length : Int))) then ((idx a0.fFields x63).bind fun o65 =>
        (((cat ([70, 73, 69, 76, 68, 32] : Str) o65.fName).bind fun v66 => ((cat v66 ([32] : Str)).bind fun v67 => ((ref24_Dec k o65.fRow).bind fun v68 => ((cat v67 v68).bind fun v69 => ((cat v69 ([32] : Str)).bind fun v70 => ((ref24_Dec k o65.fColumn).bind fun v71 => ((cat v70 v71).bind fun v72 => ((cat v72 ([32] : Str)).bind fun v73 => ((ref24_Dec k o65.fBytes).bind fun v74 => ((cat v73 v74).bind fun v75 => ((cat v75 ([32] : Str)).bind fun v76 => ((ref24_place k o65.fIn).bind fun v77 => ((cat v76 v77).bind fun v78 => ((cat v78 ([32] : Str)).bind fun v79 => ((ref24_place k o65.fOut).bind fun v80 => ((cat v79 v80).bind fun v81 => ((cat v81 ([32] : Str)).bind fun v82 => ((ref24_Dec k (Go.IntKind.wrap .i64 o65.fFill)).bind fun v83 => ((cat v82 v83).bind fun v84 => ((cat v84 ([10] : Str)).bind fun v85 => (cat x62 v85))))))))))))))))))))).bind fun o87 =>
        (ref24_Format_L2 k a0 K0 m o87 (Go.IntKind.wrap .i64 (x63 + 1))))) else
    (K0 x62 x63))
def ref24_Format : Nat → (T_api_Form) → Option (Str × Int)
 | 0, _ => none
 | k + 1, a0 =>
  (((ref24_Valid k a0).bind fun v1 => (some ((!v1)))).bind fun o2 =>
   (bif o2 then (some (([] : Str), 220)) else
   (((ref24_Dec k a0.fRows).bind fun v3 => ((cat ([70, 79, 82, 77, 32] : Str) v3).bind fun v4 => ((cat v4 ([32] : Str)).bind fun v5 => ((ref24_Dec k a0.fColumns).bind fun v6 => ((cat v5 v6).bind fun v7 => (cat v7 ([10] : Str))))))).bind fun o9 =>
    (ref24_Format_L1 k a0 (fun y36 y37 =>
    (ref24_Format_L2 k a0 (fun y88 y89 =>
     (some (y88, 0))) k y36 0)) k o9 0))))
def strings_Split : Nat → Str → Str → Option (List Str)
 | 0, _, _ => none
 | _ + 1, s, t => splS s t
def strings_Cut : Nat → Str → Str → Option (Str × Str × Bool)
 | 0, _, _ => none
 | _ + 1, s, t => cutS s t
def screen_number : Nat → Str → Option (Int × Bool)
 | 0, _ => none
 | _ + 1, s => numV true s
def screen_numbers_L1 (k : Nat) (a0 : (List Str))  (K0 : (List Int) → Bool → Int → Option ((List Int) × Bool)) : Nat → (List Int) → Bool → Int → Option ((List Int) × Bool)
 | 0, _, _, _ => none
 | m + 1, x7, x8, x9 =>
  (bif (decide (x9 < (a0.length : Int))) then ((idx a0 x9).bind fun o11 =>
        (((screen_number k o11).bind fun v12 => (some (v12.1, v12.2))).bind fun o13 =>
        ((app x7 ([o13.1] : List Int)).bind fun o15 =>
        ((bif x8 then (some (o13.2)) else (some (false))).bind fun o16 =>
        (screen_numbers_L1 k a0 K0 m o15 o16 (Go.IntKind.wrap .i64 (x9 + 1))))))) else
    (K0 x7 x8 x9))
def screen_numbers : Nat → ((List Str)) → Option ((List Int) × Bool)
 | 0, _ => none
 | k + 1, a0 =>
  (screen_numbers_L1 k a0 (fun y17 y18 y19 =>
   (some (y17, y18))) k ([] : List Int) true 0)
def strings_SplitN : Nat → Str → Str → Int → Option (List Str)
 | 0, _, _, _ => none
 | _ + 1, s, t, n => splN s t n
def screen_add : Nat → (T_api_Form) → (Str) → Option (Bool × T_api_Form)
 | 0, _, _ => none
 | k + 1, a0, a1 =>
  (((strings_Cut k a1 ([32] : Str)).bind fun v1 => (some (v1.1, v1.2.1))).bind fun o2 =>
   (bif (o2.1 == ([70, 79, 82, 77] : Str)) then (((strings_Split k o2.2 ([32] : Str)).bind fun v3 => ((screen_numbers k v3).bind fun v4 => (some (v4.1, v4.2)))).bind fun o5 =>
    ((bif (!o5.2) then (some (true)) else (some (((o5.1.length : Int) != 2)))).bind fun o6 =>
    (bif o6 then (some (false, ({ fRows := a0.fRows, fColumns := a0.fColumns, fMarks := a0.fMarks, fFields := a0.fFields } : T_api_Form))) else
    (((idx o5.1 0).bind fun v7 => ((idx o5.1 1).bind fun v8 => (some (v7, v8)))).bind fun o9 =>
     (some (true, ({ fRows := o9.1, fColumns := o9.2, fMarks := a0.fMarks, fFields := a0.fFields } : T_api_Form))))))) else
   (bif (o2.1 == ([77, 65, 82, 75] : Str)) then ((strings_SplitN k o2.2 ([32] : Str) 3).bind fun o11 =>
     (bif (decide ((o11.length : Int) < 3)) then (some (false, ({ fRows := a0.fRows, fColumns := a0.fColumns, fMarks := a0.fMarks, fFields := a0.fFields } : T_api_Form))) else
     (((cut o11 0 2).bind fun v12 => ((screen_numbers k v12).bind fun v13 => (some (v13.1, v13.2)))).bind fun o14 =>
      (((idx o14.1 0).bind fun v15 => ((idx o14.1 1).bind fun v16 => ((idx o11 2).bind fun v17 => (app a0.fMarks ([({ fRow := v15, fColumn := v16, fText := v17 } : T_api_Mark)] : List T_api_Mark))))).bind fun o19 =>
      (some (o14.2, ({ fRows := a0.fRows, fColumns := a0.fColumns, fMarks := o19, fFields := a0.fFields } : T_api_Form))))))) else
    (bif (o2.1 == ([70, 73, 69, 76, 68] : Str)) then (((strings_Cut k o2.2 ([32] : Str)).bind fun v20 => (some (v20.1, v20.2.1))).bind fun o21 =>
      (((strings_Split k o21.2 ([32] : Str)).bind fun v22 => ((screen_numbers k v22).bind fun v23 => (some (v23.1, v23.2)))).bind fun o24 =>
      ((bif (!o24.2) then (some (true)) else (bif ((o24.1.length : Int) != 6) then (some (true)) else ((idx o24.1 5).bind fun v25 => (bif (decide (v25 < 0)) then (some (true)) else ((idx o24.1 5).bind fun v26 => (some ((decide (v26 > 255))))))))).bind fun o27 =>
      (bif o27 then (some (false, ({ fRows := a0.fRows, fColumns := a0.fColumns, fMarks := a0.fMarks, fFields := a0.fFields } : T_api_Form))) else
      (((idx o24.1 0).bind fun v28 => ((idx o24.1 1).bind fun v29 => ((idx o24.1 2).bind fun v30 => ((idx o24.1 3).bind fun v31 => ((idx o24.1 4).bind fun v32 => ((idx o24.1 5).bind fun v33 => (app a0.fFields ([({ fName := o21.1, fRow := v28, fColumn := v29, fBytes := v30, fIn := v31, fOut := v32, fFill := (Go.IntKind.wrap .u8 v33) } : T_api_Slot)] : List T_api_Slot)))))))).bind fun o35 =>
       (some (true, ({ fRows := a0.fRows, fColumns := a0.fColumns, fMarks := a0.fMarks, fFields := o35 } : T_api_Form)))))))) else
     (some (false, ({ fRows := a0.fRows, fColumns := a0.fColumns, fMarks := a0.fMarks, fFields := a0.fFields } : T_api_Form)))))))
def screen_Parse_L1 (k : Nat) (o2 : (List Str) × Int × Int)  (K0 : Int → Int → Int → (List T_api_Mark) → (List T_api_Slot) → Option (T_api_Form × Int)) : Nat → Int → Int → Int → (List T_api_Mark) → (List T_api_Slot) → Option (T_api_Form × Int)
 | 0, _, _, _, _, _ => none
 | m + 1, x7, x8, x9, x10, x11 =>
  (bif (decide (x7 < o2.2.1)) then ((idx o2.1 x7).bind fun o13 =>
        ((bif (!(o13 == ([] : Str))) then ((screen_add k ({ fRows := x8, fColumns := x9, fMarks := x10, fFields := x11 } : T_api_Form) o13).bind fun v14 => (some ((!v14.1), v14.2.fRows, v14.2.fColumns, v14.2.fMarks, v14.2.fFields))) else (some (false, x8, x9, x10, x11))).bind fun o15 =>
        (bif o15.1 then (some (({ fRows := 0, fColumns := 0, fMarks := ([] : List T_api_Mark), fFields := ([] : List T_api_Slot) } : T_api_Form), 3)) else
        (screen_Parse_L1 k o2 K0 m (Go.IntKind.wrap .i64 (x7 + 1)) o15.2.1 o15.2.2.1 o15.2.2.2.1 o15.2.2.2.2)))) else
    (K0 x7 x8 x9 x10 x11))
def screen_Parse : Nat → (Str) → Option (T_api_Form × Int)
 | 0, _ => none
 | k + 1, a0 =>
  (((strings_Split k a0 ([10] : Str)).bind fun v1 => (some (v1, (v1.length : Int), 0))).bind fun o2 =>
   (screen_Parse_L1 k o2 (fun y16 y17 y18 y19 y20 =>
   (((screen_Format k ({ fRows := y17, fColumns := y18, fMarks := y19, fFields := y20 } : T_api_Form)).bind fun v21 => (some (v21.1, v21.2))).bind fun o22 =>
    ((bif (o22.2 != 0) then (some (true)) else (some ((!(o22.1 == a0))))).bind fun o23 =>
    (bif o23 then (some (({ fRows := 0, fColumns := 0, fMarks := ([] : List T_api_Mark), fFields := ([] : List T_api_Slot) } : T_api_Form), 3)) else
    (some (({ fRows := y17, fColumns := y18, fMarks := y19, fFields := y20 } : T_api_Form), 0)))))) k o2.2.2 0 0 ([] : List T_api_Mark) ([] : List T_api_Slot)))
def ref24_Split_L1 (a0 : Str) (a1 : Int) (a2 : Int)  (K0 : Int → (List Str) → Option (List Str)) : Nat → Int → (List Str) → Option (List Str)
 | 0, _, _ => none
 | m + 1, x12, x13 =>
  (bif (decide (x12 < (a0.length : Int))) then (((idxS a0 x12).bind fun v14 => (bif (v14 == a1) then (some ((decide ((x13.length : Int) < a2)))) else (some (false)))).bind fun o15 =>
        (bif o15 then ((app x13 ([([] : Str)] : List Str)).bind fun o17 =>
         (ref24_Split_L1 a0 a1 a2 K0 m (Go.IntKind.wrap .i64 (x12 + 1)) o17)) else
        (((inB x13.length (Go.IntKind.wrap .i64 ((x13.length : Int) - 1))).bind fun v18 => ((x13[0 + (Go.IntKind.wrap .i64 ((x13.length : Int) - 1)).toNat]?).bind fun v19 => ((cut a0 x12 (Go.IntKind.wrap .i64 (x12 + 1))).bind fun v20 => ((cat v19 v20).bind fun v21 => ((inB x13.length (Go.IntKind.wrap .i64 ((x13.length : Int) - 1))).bind fun v22 => ((x13[0 + (Go.IntKind.wrap .i64 ((x13.length : Int) - 1)).toNat]?).bind fun v23 => (some ((x13.set (0 + (Go.IntKind.wrap .i64 ((x13.length : Int) - 1)).toNat) v21))))))))).bind fun o24 =>
         (ref24_Split_L1 a0 a1 a2 K0 m (Go.IntKind.wrap .i64 (x12 + 1)) o24)))) else
    (K0 x12 x13))
def ref24_Split : Nat → (Str) → (Int) → (Int) → Option (List Str)
 | 0, _, _, _ => none
 | k + 1, a0, a1, a2 =>
  (ref24_Split_L1 a0 a1 a2 (fun y25 y26 =>
   (some y26)) k 0 ([([] : Str)] : List Str))
def ref01_FromDigits_L1 (a0 : Str)  (K0 : Int → Int → Option (Int × Int)) : Nat → Int → Int → Option (Int × Int)
 | 0, _, _ => none
 | m + 1, x7, x8 =>
  (bif (decide (x8 < (a0.length : Int))) then (((idxS a0 x8).bind fun v9 => (bif (decide (v9 < 48)) then (some (true)) else ((idxS a0 x8).bind fun v10 => (some ((decide (v10 > 57))))))).bind fun o11 =>
        (bif o11 then (some (0, 3)) else
        (((idxS a0 x8).bind fun v12 => (some ((Go.IntKind.wrap .i64 ((Go.IntKind.wrap .i64 (10 * x7)) + (Go.IntKind.wrap .i64 (Go.IntKind.wrap .u8 (v12 - 48)))))))).bind fun o13 =>
         (ref01_FromDigits_L1 a0 K0 m o13 (Go.IntKind.wrap .i64 (x8 + 1)))))) else
    (K0 x7 x8))
def ref01_FromDigits : Nat → (Str) → Option (Int × Int)
 | 0, _ => none
 | k + 1, a0 =>
  ((bif (decide ((a0.length : Int) < 1)) then (some (true)) else (some ((decide ((a0.length : Int) > 9))))).bind fun o1 =>
   (bif o1 then (some (0, 3)) else
   (ref01_FromDigits_L1 a0 (fun y14 y15 =>
    (some (y14, 0))) k 0 0)))
def ref24_number : Nat → (Str) → Option (Int × Bool)
 | 0, _ => none
 | k + 1, a0 =>
  (((ref01_FromDigits k a0).bind fun v1 => (some (v1.1, v1.2))).bind fun o2 =>
   ((bif (o2.2 == 0) then ((ref24_Dec k o2.1).bind fun v3 => (some (o2.1, (v3 == a0)))) else (some (o2.1, false))).bind fun o4 =>
   (some (o4.1, o4.2))))
def ref24_numbers_L1 (k : Nat) (a0 : (List Str)) (a1 : Int)  (K0 : (List Int) → Int → Option ((List Int) × Bool)) : Nat → (List Int) → Int → Option ((List Int) × Bool)
 | 0, _, _ => none
 | m + 1, x10, x11 =>
  (bif (decide (x11 < (a0.length : Int))) then ((bif (decide (x11 ≥ a1)) then ((idx a0 x11).bind fun v12 => (some ((v12 == ([45] : Str))))) else (some (false))).bind fun o13 =>
        (bif o13 then ((app x10 ([(-1)] : List Int)).bind fun o15 =>
         (ref24_numbers_L1 k a0 a1 K0 m o15 (Go.IntKind.wrap .i64 (x11 + 1)))) else
        (((idx a0 x11).bind fun v16 => ((ref24_number k v16).bind fun v17 => (some (v17.1, v17.2)))).bind fun o18 =>
         (bif (!o18.2) then (some (([] : List Int), false)) else
         ((app x10 ([o18.1] : List Int)).bind fun o20 =>
          (ref24_numbers_L1 k a0 a1 K0 m o20 (Go.IntKind.wrap .i64 (x11 + 1)))))))) else
    (K0 x10 x11))
def ref24_numbers : Nat → ((List Str)) → (Int) → Option ((List Int) × Bool)
 | 0, _, _ => none
 | k + 1, a0, a1 =>
  (ref24_numbers_L1 k a0 a1 (fun y21 y22 =>
   (some (y21, true))) k ([] : List Int) 0)
def ref24_line : Nat → (T_api_Form) → (Str) → Option (Bool × T_api_Form)
 | 0, _, _ => none
 | k + 1, a0, a1 =>
  ((ref24_Split k a1 32 1000).bind fun o2 =>
   ((idx o2 0).bind fun o4 =>
   (bif (o4 == ([77, 65, 82, 75] : Str)) then ((ref24_Split k a1 32 4).bind fun o6 =>
    ((bif (decide ((o6.length : Int) < 4)) then (some (true)) else (some ((decide ((a0.fFields.length : Int) > 0))))).bind fun o7 =>
    (bif o7 then (some (false, ({ fRows := a0.fRows, fColumns := a0.fColumns, fMarks := a0.fMarks, fFields := a0.fFields } : T_api_Form))) else
    (((cut o6 1 3).bind fun v8 => ((ref24_numbers k v8 9).bind fun v9 => (some (v9.1, v9.2)))).bind fun o10 =>
     (bif o10.2 then (((idx o10.1 0).bind fun v11 => ((idx o10.1 1).bind fun v12 => ((idx o6 3).bind fun v13 => (app a0.fMarks ([({ fRow := v11, fColumn := v12, fText := v13 } : T_api_Mark)] : List T_api_Mark))))).bind fun o15 =>
      (some (true, ({ fRows := a0.fRows, fColumns := a0.fColumns, fMarks := o15, fFields := a0.fFields } : T_api_Form)))) else
     (some (false, ({ fRows := a0.fRows, fColumns := a0.fColumns, fMarks := a0.fMarks, fFields := a0.fFields } : T_api_Form)))))))) else
   (bif (o4 == ([70, 73, 69, 76, 68] : Str)) then (bif ((o2.length : Int) != 8) then (some (false, ({ fRows := a0.fRows, fColumns := a0.fColumns, fMarks := a0.fMarks, fFields := a0.fFields } : T_api_Form))) else
     (((cut o2 2 7).bind fun v16 => ((ref24_numbers k v16 3).bind fun v17 => (some (v17.1, v17.2)))).bind fun o18 =>
      (((idx o2 7).bind fun v19 => ((ref24_number k v19).bind fun v20 => (some (v20.1, v20.2)))).bind fun o21 =>
      ((bif o18.2 then (bif o21.2 then (some (true, true, (decide (o21.1 < 256)))) else (some (true, false, false))) else (some (false, o21.2, false))).bind fun o22 =>
      (bif o22.2.2 then (((idx o2 1).bind fun v23 => ((idx o18.1 0).bind fun v24 => ((idx o18.1 1).bind fun v25 => ((idx o18.1 2).bind fun v26 => ((idx o18.1 3).bind fun v27 => ((idx o18.1 4).bind fun v28 => (app a0.fFields ([({ fName := v23, fRow := v24, fColumn := v25, fBytes := v26, fIn := v27, fOut := v28, fFill := (Go.IntKind.wrap .u8 o21.1) } : T_api_Slot)] : List T_api_Slot)))))))).bind fun o30 =>
       ((bif o22.1 then (bif o22.2.1 then (some ((decide (o21.1 < 256)))) else (some (false))) else (some (false))).bind fun o31 =>
       (some (o31, ({ fRows := a0.fRows, fColumns := a0.fColumns, fMarks := a0.fMarks, fFields := o30 } : T_api_Form))))) else
      ((bif o22.1 then (bif o22.2.1 then (some ((decide (o21.1 < 256)))) else (some (false))) else (some (false))).bind fun o32 =>
       (some (o32, ({ fRows := a0.fRows, fColumns := a0.fColumns, fMarks := a0.fMarks, fFields := a0.fFields } : T_api_Form))))))))) else
    (some (false, ({ fRows := a0.fRows, fColumns := a0.fColumns, fMarks := a0.fMarks, fFields := a0.fFields } : T_api_Form)))))))
def ref24_Parse_L1 (k : Nat) (o2 : (List Str))  (K0 : Int → Int → Int → (List T_api_Mark) → (List T_api_Slot) → Option (T_api_Form × Int)) : Nat → Int → Int → Int → (List T_api_Mark) → (List T_api_Slot) → Option (T_api_Form × Int)
 | 0, _, _, _, _, _ => none
 | m + 1, x19, x20, x21, x22, x23 =>
  (bif (decide (x19 < (Go.IntKind.wrap .i64 ((o2.length : Int) - 1)))) then (((idx o2 x19).bind fun v24 => ((ref24_line k ({ fRows := x20, fColumns := x21, fMarks := x22, fFields := x23 } : T_api_Form) v24).bind fun v25 => (some ((!v25.1), v25.2.fRows, v25.2.fColumns, v25.2.fMarks, v25.2.fFields)))).bind fun o26 =>
        (bif o26.1 then (some (({ fRows := 0, fColumns := 0, fMarks := ([] : List T_api_Mark), fFields := ([] : List T_api_Slot) } : T_api_Form), 3)) else
        (ref24_Parse_L1 k o2 K0 m (Go.IntKind.wrap .i64 (x19 + 1)) o26.2.1 o26.2.2.1 o26.2.2.2.1 o26.2.2.2.2))) else
    (K0 x19 x20 x21 x22 x23))
def ref24_Parse : Nat → (Str) → Option (T_api_Form × Int)
 | 0, _ => none
 | k + 1, a0 =>
  ((ref24_Split k a0 10 100).bind fun o2 =>
   ((bif (decide ((o2.length : Int) < 2)) then (some (true)) else ((idx o2 (Go.IntKind.wrap .i64 ((o2.length : Int) - 1))).bind fun v3 => (some ((!(v3 == ([] : Str))))))).bind fun o4 =>
   (bif o4 then (some (({ fRows := 0, fColumns := 0, fMarks := ([] : List T_api_Mark), fFields := ([] : List T_api_Slot) } : T_api_Form), 3)) else
   (((idx o2 0).bind fun v5 => (ref24_Split k v5 32 1000)).bind fun o7 =>
    (((cut o7 1 (o7.length : Int)).bind fun v8 => ((ref24_numbers k v8 9).bind fun v9 => (some (v9.1, v9.2)))).bind fun o10 =>
    ((bif (!o10.2) then (some (true)) else (bif ((o10.1.length : Int) != 2) then (some (true)) else ((idx o7 0).bind fun v11 => (some ((!(v11 == ([70, 79, 82, 77] : Str)))))))).bind fun o12 =>
    (bif o12 then (some (({ fRows := 0, fColumns := 0, fMarks := ([] : List T_api_Mark), fFields := ([] : List T_api_Slot) } : T_api_Form), 3)) else
    (((idx o10.1 0).bind fun v13 => ((idx o10.1 1).bind fun v14 => (some (v13, v14)))).bind fun o15 =>
     (ref24_Parse_L1 k o2 (fun y27 y28 y29 y30 y31 =>
     (((ref24_Valid k ({ fRows := y28, fColumns := y29, fMarks := y30, fFields := y31 } : T_api_Form)).bind fun v32 => (some ((!v32)))).bind fun o33 =>
      (bif o33 then (some (({ fRows := 0, fColumns := 0, fMarks := ([] : List T_api_Mark), fFields := ([] : List T_api_Slot) } : T_api_Form), 3)) else
      (some (({ fRows := y28, fColumns := y29, fMarks := y30, fFields := y31 } : T_api_Form), 0))))) k 1 o15.1 o15.2 ([] : List T_api_Mark) ([] : List T_api_Slot))))))))))
def ref24_Same_L1 (a0 : T_api_Form) (a1 : T_api_Form)  (K0 : Int → Option Bool) : Nat → Int → Option Bool
 | 0, _ => none
 | m + 1, x5 =>
  (bif (decide (x5 < (a0.fMarks.length : Int))) then (((idx a0.fMarks x5).bind fun v6 => ((idx a1.fMarks x5).bind fun v7 => (some ((!(v6.fRow == v7.fRow && (v6.fColumn == v7.fColumn && (v6.fText == v7.fText && true)))))))).bind fun o8 =>
        (bif o8 then (some false) else
        (ref24_Same_L1 a0 a1 K0 m (Go.IntKind.wrap .i64 (x5 + 1))))) else
    (K0 x5))
def ref24_Same_L2 (a0 : T_api_Form) (a1 : T_api_Form)  (K0 : Int → Option Bool) : Nat → Int → Option Bool
 | 0, _ => none
 | m + 1, x13 =>
  (bif (decide (x13 < (a0.fFields.length : Int))) then (((idx a0.fFields x13).bind fun v14 => ((idx a1.fFields x13).bind fun v15 => (some ((!(v14.fName == v15.fName && (v14.fRow == v15.fRow && (v14.fColumn == v15.fColumn && (v14.fBytes == v15.fBytes && (v14.fIn == v15.fIn && (v14.fOut == v15.fOut && (v14.fFill == v15.fFill && true)))))))))))).bind fun o16 =>
        (bif o16 then (some false) else
        (ref24_Same_L2 a0 a1 K0 m (Go.IntKind.wrap .i64 (x13 + 1))))) else
    (K0 x13))
def ref24_Same : Nat → (T_api_Form) → (T_api_Form) → Option Bool
 | 0, _, _ => none
 | k + 1, a0, a1 =>
  ((bif (a0.fRows != a1.fRows) then (some (true)) else (bif (a0.fColumns != a1.fColumns) then (some (true)) else (bif ((a0.fMarks.length : Int) != (a1.fMarks.length : Int)) then (some (true)) else (some (((a0.fFields.length : Int) != (a1.fFields.length : Int))))))).bind fun o1 =>
   (bif o1 then (some false) else
   (ref24_Same_L1 a0 a1 (fun y9 =>
    (ref24_Same_L2 a0 a1 (fun y17 =>
     (some true)) k 0)) k 0)))
def law24_ScreenTexts : Nat → (T_api_Form) → (Str) → Option Bool
 | 0, _, _ => none
 | k + 1, a0, a1 =>
  (((law24_Large k a0).bind fun v1 => (bif v1 then (some (true)) else (some ((decide ((a1.length : Int) > 1000)))))).bind fun o2 =>
   (bif o2 then ((law24_Awake k).bind fun o4 =>
    (some o4)) else
   (((screen_Format k a0).bind fun v5 => (some (v5.1, v5.2))).bind fun o6 =>
    (((ref24_Format k a0).bind fun v7 => (some (v7.1, v7.2))).bind fun o8 =>
    (((screen_Parse k a1).bind fun v9 => (some (v9.2, v9.1))).bind fun o10 =>
    (((ref24_Parse k a1).bind fun v11 => (some (v11.2, v11.1))).bind fun o12 =>
    ((bif (!(o6.1 == o8.1)) then (some (true)) else (bif (o6.2 != o8.2) then (some (true)) else ((ref24_Same k o10.2 o12.2).bind fun v13 => (bif (!v13) then (some (true)) else (some ((o10.1 != o12.1))))))).bind fun o14 =>
    (bif o14 then (some false) else
    (bif (o6.2 == 0) then (((screen_Parse k o6.1).bind fun v15 => (some (v15.2, v15.1))).bind fun o16 =>
      ((bif (o16.1 != 0) then (some (true)) else ((ref24_Same k o16.2 a0).bind fun v17 => (some ((!v17))))).bind fun o18 =>
      (bif o18 then (some false) else
      (bif (o10.1 == 0) then (((screen_Format k o10.2).bind fun v19 => (some (v19.1, v19.2))).bind fun o20 =>
        ((bif (o20.2 != 0) then (some (true)) else (some ((!(o20.1 == a1))))).bind fun o21 =>
        (bif o21 then (some false) else
        ((law24_Awake k).bind fun o23 =>
         (some o23))))) else
       ((law24_Awake k).bind fun o25 =>
        (some o25)))))) else
     (bif (o10.1 == 0) then (((screen_Format k o10.2).bind fun v19 => (some (v19.1, v19.2))).bind fun o26 =>
       ((bif (o26.2 != 0) then (some (true)) else (some ((!(o26.1 == a1))))).bind fun o27 =>
       (bif o27 then (some false) else
       ((law24_Awake k).bind fun o28 =>
        (some o28))))) else
      ((law24_Awake k).bind fun o29 =>
       (some o29))))))))))))
end Go.Sh
namespace Go.Sh
open Go.AE
set_option linter.unusedVariables false
theorem maxLen_eq : maxLen = 9223372036854775807 := rfl
theorem wrap_in {x : Int} (h : -9223372036854775808 ≤ x) (h' : x ≤ 9223372036854775807) : Go.IntKind.wrap .i64 x = x := IntWalk.i64_in x ⟨h, h'⟩
theorem wrap_next {i n : Nat} (h : i < n) (hn : n ≤ maxLen) : Go.IntKind.wrap .i64 ((i : Int) + 1) = ((i + 1 : Nat) : Int) := by
 rw [wrap_in] <;> (try rw [maxLen_eq] at hn) <;> omega
theorem idx_at {α : Type} {l : List α} {i : Nat} (h : i < l.length) : idx l (i : Int) = some l[i] := by
 unfold idx
 rw [if_pos (by omega), Int.toNat_natCast, List.getElem?_eq_getElem h]
theorem idx_of {α : Type} {l : List α} {x : Int} (h0 : 0 ≤ x) (h : x < (l.length : Int)) : idx l x = some (l[x.toNat]'(by omega)) := by
 unfold idx
 rw [if_pos h0, List.getElem?_eq_getElem (by omega)]
theorem idxS_at {l : List UInt8} {i : Nat} (h : i < l.length) : idxS l (i : Int) = some (l[i].toNat : Int) := by
 unfold idxS
 rw [if_pos (by omega), Int.toNat_natCast, List.getElem?_eq_getElem h]
 rfl
theorem cut_take {α : Type} {l : List α} {i : Nat} (h : i ≤ l.length) : cut l 0 (i : Int) = some (l.take i) := by
 unfold cut
 rw [if_pos ⟨by omega, by omega, by omega⟩]
 simp
theorem app_ok {α : Type} {l m : List α} (h : l.length + m.length ≤ maxList) : app l m = some (l ++ m) := by
 unfold app; rw [if_pos h]
def scan {β : Type} (g : Nat → Bool) (r : Nat → β) (z : β) : Nat → Nat → β
 | 0, _ => z
 | d + 1, i => bif g i then r i else scan g r z d (i + 1)
theorem loop_scan {S β : Type} {n : Nat} {L : Nat → Int → S → β} {σ : Nat → S} {g : Nat → Bool} {r : Nat → β} {z : β}
  (hs : ∀ m i, i < n → (∀ j, j < i → g j = false) → L (m + 1) (i : Int) (σ i) = bif g i then r i else L m ((i + 1 : Nat) : Int) (σ (i + 1)))
  (he : ∀ m, (∀ j, j < n → g j = false) → L (m + 1) (n : Int) (σ n) = z) : ∀ d i m, i + d = n → (∀ j, j < i → g j = false) → d < m → L m (i : Int) (σ i) = scan g r z d i
 | 0, i, m, hd, hb, hm => by
  obtain ⟨m, rfl⟩ : ∃ q, m = q + 1 := ⟨m - 1, by omega⟩
  have : i = n := by omega
  subst this
  exact he m hb
 | d + 1, i, m, hd, hb, hm => by
  obtain ⟨m, rfl⟩ : ∃ q, m = q + 1 := ⟨m - 1, by omega⟩
  rw [hs m i (by omega) hb, scan]
  cases hg : g i with
  | true => rfl
  | false =>
   simp only [cond_false]
   refine loop_scan hs he d (i + 1) m (by omega) (fun j hj => ?_) (by omega)
   by_cases e : j = i
   ·subst e; exact hg
   ·exact hb j (by omega)
theorem loop0 {β : Type} {n : Nat} {L : Nat → Int → β} {g : Nat → Bool} {r : Nat → β} {z : β}
  (hs : ∀ m i, i < n → (∀ j, j < i → g j = false) → L (m + 1) (i : Int) = bif g i then r i else L m ((i + 1 : Nat) : Int))
  (he : ∀ m, (∀ j, j < n → g j = false) → L (m + 1) (n : Int) = z) {m : Nat} (hm : n < m) : L m 0 = scan g r z n 0 :=
 loop_scan (S := Unit) (L := fun m x _ => L m x) (σ := fun _ => ()) hs he n 0 m (by omega) (fun j hj => by omega) hm
theorem loopS {S β : Type} {n : Nat} {L : Nat → Int → S → β} {σ : Nat → S} {g : Nat → Bool} {r : Nat → β} {z : β}
  (hs : ∀ m i, i < n → (∀ j, j < i → g j = false) → L (m + 1) (i : Int) (σ i) = bif g i then r i else L m ((i + 1 : Nat) : Int) (σ (i + 1)))
  (he : ∀ m, (∀ j, j < n → g j = false) → L (m + 1) (n : Int) (σ n) = z) {m : Nat} (hm : n < m) {s0 : S} (h0 : σ 0 = s0) : L m 0 s0 = scan g r z n 0 := by
 subst h0
 exact loop_scan hs he n 0 m (by omega) (fun j hj => by omega) hm
theorem scan_congr {β : Type} {g g' : Nat → Bool} {r r' : Nat → β} {z z' : β} : ∀ d i, (∀ j, i ≤ j → j < i + d → (∀ q, i ≤ q → q < j → g q = false) → g j = g' j ∧ (g j = true → r j = r' j)) → ((∀ q, i ≤ q → q < i + d → g q = false) → z = z') → scan g r z d i = scan g' r' z' d i
 | 0, i, h, hz => hz (fun q h1 h2 => by omega)
 | d + 1, i, h, hz => by
  obtain ⟨h1, h2⟩ := h i (Nat.le_refl i) (by omega) (fun q a b => by omega)
  simp only [scan]
  rw [← h1]
  cases hg : g i with
  | true => simp only [cond_true]; exact h2 hg
  | false =>
   simp only [cond_false]
   refine scan_congr d (i + 1) (fun j a b hq => h j (by omega) (by omega) (fun q c e => ?_)) (fun hq => hz (fun q a b => ?_))
   ·by_cases e2 : q = i
    ·subst e2; exact hg
    ·exact hq q (by omega) e
   ·by_cases e2 : q = i
    ·subst e2; exact hg
    ·exact hq q (by omega) (by omega)
def anyB (g : Nat → Bool) (n : Nat) : Bool := scan g (fun _ => true) false n 0
theorem scan_map {β γ : Type} (f : β → γ) {g : Nat → Bool} {r : Nat → β} {z : β} : ∀ d i, f (scan g r z d i) = scan g (fun i => f (r i)) (f z) d i
 | 0, _ => rfl
 | d + 1, i => by
  simp only [scan]
  cases g i with
  | true => rfl
  | false => exact scan_map f d (i + 1)
theorem scan_const {β : Type} {g : Nat → Bool} {r z : β} (n : Nat) : scan g (fun _ => r) z n 0 = bif anyB g n then r else z := by
 unfold anyB
 have : ∀ d i, scan g (fun _ => r) z d i = bif scan g (fun _ => true) false d i then r else z := by
  intro d
  induction d with
  | zero => intro i; rfl
  | succ d ih =>
   intro i
   simp only [scan]
   cases g i with
   | true => rfl
   | false => exact ih (i + 1)
 exact this n 0
theorem scan_false {β : Type} {g : Nat → Bool} {r : Nat → β} {z : β} : ∀ d i, (∀ q, i ≤ q → q < i + d → g q = false) → scan g r z d i = z
 | 0, _, _ => rfl
 | d + 1, i, h => by
  simp only [scan, h i (Nat.le_refl i) (by omega), cond_false]
  exact scan_false d (i + 1) (fun q a b => h q (by omega) (by omega))
/-- Either the first place where it holds, or nowhere. -/
theorem scan_cases {β : Type} (g : Nat → Bool) (r : Nat → β) (z : β) : ∀ d i, ((∀ q, i ≤ q → q < i + d → g q = false) ∧ scan g r z d i = z) ∨ ∃ j, i ≤ j ∧ j < i + d ∧ g j = true ∧ (∀ q, i ≤ q → q < j → g q = false) ∧ scan g r z d i = r j
 | 0, i => .inl ⟨fun q a b => by omega, rfl⟩
 | d + 1, i => by
  simp only [scan]
  cases hg : g i with
  | true => exact .inr ⟨i, Nat.le_refl i, by omega, hg, fun q a b => by omega, rfl⟩
  | false =>
   simp only [cond_false]
   rcases scan_cases g r z d (i + 1) with ⟨h1, h2⟩ | ⟨j, h1, h2, h3, h4, h5⟩
   ·exact .inl ⟨fun q a b => by
     by_cases e : q = i
     ·subst e; exact hg
     ·exact h1 q (by omega) (by omega), h2⟩
   ·exact .inr ⟨j, by omega, by omega, h3, fun q a b => by
     by_cases e : q = i
     ·subst e; exact hg
     ·exact h4 q (by omega) b, h5⟩
theorem anyB_iff {g : Nat → Bool} {n : Nat} : anyB g n = true ↔ ∃ i, i < n ∧ g i = true := by
 unfold anyB
 rcases scan_cases g (fun _ => true) false n 0 with ⟨h1, h2⟩ | ⟨j, h1, h2, h3, h4, h5⟩
 ·rw [h2]
  exact ⟨fun h => absurd h (by simp), fun ⟨i, hi, hg⟩ => absurd hg (by rw [h1 i (by omega) (by omega)]; simp)⟩
 ·rw [h5]
  exact ⟨fun _ => ⟨j, by omega, h3⟩, fun _ => rfl⟩
theorem anyB_false {g : Nat → Bool} {n : Nat} : anyB g n = false ↔ ∀ i, i < n → g i = false := by
 constructor
 ·intro h i hi
  cases hg : g i with
  | false => rfl
  | true => rw [anyB_iff.2 ⟨i, hi, hg⟩] at h; cases h
 ·intro h
  cases ha : anyB g n with
  | false => rfl
  | true =>
   obtain ⟨i, hi, hg⟩ := anyB_iff.1 ha
   rw [h i hi] at hg; cases hg
theorem anyB_congr {g g' : Nat → Bool} {n : Nat} (h : ∀ i, i < n → (∀ j, j < i → g j = false) → g i = g' i) : anyB g n = anyB g' n :=
 scan_congr n 0 (fun j _ hj hq => ⟨h j (by omega) (fun q hq' => hq q (by omega) hq'), fun _ => rfl⟩) (fun _ => rfl)
/-- Places of a list. -/
def at' {α : Type} (l : List α) (p : α → Bool) (i : Nat) : Bool := match l[i]? with | some x => p x | none => false
theorem at'_eq {α : Type} {l : List α} {p : α → Bool} {i : Nat} (h : i < l.length) : at' l p i = p l[i] := by
 unfold at'
 rw [List.getElem?_eq_getElem h]
theorem anyB_any {α : Type} {l : List α} {p : α → Bool} : anyB (at' l p) l.length = l.any p := by
 cases h : l.any p with
 | true =>
  obtain ⟨x, hx, hp⟩ := List.any_eq_true.1 h
  obtain ⟨i, hi, rfl⟩ := List.getElem_of_mem hx
  exact anyB_iff.2 ⟨i, hi, by rw [at'_eq hi]; exact hp⟩
 | false =>
  rw [List.any_eq_false] at h
  refine anyB_false.2 (fun i hi => ?_)
  rw [at'_eq hi]
  have := h _ (List.getElem_mem hi)
  simpa using this
/-- The first place where it holds, or -1. -/
def pos {α : Type} (l : List α) (p : α → Bool) : Int := scan (at' l p) (fun i => (i : Int)) (-1) l.length 0
theorem pos_cases {α : Type} (l : List α) (p : α → Bool) : ((∀ i (h : i < l.length), p l[i] = false) ∧ pos l p = -1) ∨ ∃ j, ∃ h : j < l.length, p l[j] = true ∧ (∀ i (h : i < l.length), i < j → p l[i] = false) ∧ pos l p = (j : Int) := by
 unfold pos
 rcases scan_cases (at' l p) (fun i => (i : Int)) (-1) l.length 0 with ⟨h1, h2⟩ | ⟨j, h1, h2, h3, h4, h5⟩
 ·exact .inl ⟨fun i hi => by rw [← at'_eq (p := p) hi]; exact h1 i (by omega) (by omega), h2⟩
 ·refine .inr ⟨j, by omega, ?_, fun i hi hij => ?_, h5⟩
  ·rw [← at'_eq (p := p) (show j < l.length by omega)]; exact h3
  ·rw [← at'_eq (p := p) hi]; exact h4 i (by omega) hij
theorem pos_any {α : Type} (l : List α) (p : α → Bool) : decide (pos l p ≥ 0) = l.any p := by
 rcases pos_cases l p with ⟨h1, h2⟩ | ⟨j, h1, h2, h3, h4⟩
 ·rw [h2]
  have : l.any p = false := by
   rw [List.any_eq_false]
   intro x hx
   obtain ⟨i, hi, rfl⟩ := List.getElem_of_mem hx
   rw [h1 i hi]; simp
  rw [this]; rfl
 ·rw [h4]
  have : l.any p = true := List.any_eq_true.2 ⟨l[j], List.getElem_mem h1, h2⟩
  rw [this]
  simp
end Go.Sh

namespace Go.Sh
open Go.AE
set_option linter.unusedVariables false
set_option linter.unusedSimpArgs false
theorem succ_of {k c : Nat} (h : c + 1 ≤ k) : ∃ q, k = q + 1 ∧ c ≤ q := ⟨k - 1, by omega, by omega⟩
theorem lt_dec {i n : Nat} (h : i < n) : decide ((i : Int) < (n : Int)) = true := by simp; exact h
theorem lt_self (n : Nat) : decide ((n : Int) < (n : Int)) = false := by simp
theorem anyLoop {γ : Type} {n : Nat} {L : Nat → Int → Option γ} {body : Int → Option Bool} {K : Int → Option γ} {r z : Option γ} {g : Nat → Bool}
  (hL : ∀ m x, L (m + 1) x = bif decide (x < (n : Int)) then ((body x).bind fun o => bif o then r else L m (Go.IntKind.wrap .i64 (x + 1))) else K x)
  (hb : ∀ i, i < n → (∀ j, j < i → g j = false) → body (i : Int) = some (g i)) (hK : (∀ i, i < n → g i = false) → K (n : Int) = z) (hn : n ≤ maxLen) {m : Nat} (hm : n < m) : L m 0 = bif anyB g n then r else z := by
 refine Eq.trans (loop0 (L := L) (n := n) (g := g) (r := fun _ => r) (z := z) ?_ ?_ hm) (scan_const n)
 ·intro m i hi hj
  rw [hL, lt_dec hi, cond_true, hb i hi hj, wrap_next hi hn]
  rfl
 ·intro m hj
  rw [hL, lt_self, cond_false]
  exact hK hj
theorem foldLoop {α S γ : Type} {l : List α} {L : Nat → Int → S → Option γ} {stp : S → α → S} {K : S → Option γ} (Inv : Nat → S → Prop)
  (hL : ∀ m i (hi : i < l.length) s, Inv i s → L (m + 1) (i : Int) s = L m ((i + 1 : Nat) : Int) (stp s l[i]) ∧ Inv (i + 1) (stp s l[i]))
  (hK : ∀ m s, Inv l.length s → L (m + 1) (l.length : Int) s = K s) {m : Nat} (hm : l.length < m) {s0 : S} (h0 : Inv 0 s0) : L m 0 s0 = K (l.foldl stp s0) ∧ Inv l.length (l.foldl stp s0) := by
 have key : ∀ d i m s, i + d = l.length → d < m → Inv i s → L m (i : Int) s = K ((l.drop i).foldl stp s) ∧ Inv l.length ((l.drop i).foldl stp s) := by
  intro d
  induction d with
  | zero =>
   intro i m s hd hm hi
   obtain ⟨m, rfl⟩ : ∃ q, m = q + 1 := ⟨m - 1, by omega⟩
   have : i = l.length := by omega
   subst this
   rw [List.drop_length]
   exact ⟨hK m s hi, hi⟩
  | succ d ih =>
   intro i m s hd hm hi
   obtain ⟨m, rfl⟩ : ∃ q, m = q + 1 := ⟨m - 1, by omega⟩
   have hil : i < l.length := by omega
   obtain ⟨h1, h2⟩ := hL m i hil s hi
   rw [h1, List.drop_eq_getElem_cons hil]
   exact ih (i + 1) m _ (by omega) (by omega) h2
 simpa using key l.length 0 m s0 (by omega) (by omega) h0
theorem indexFunc_gen {α : Type} {l : List α} {p : α → Bool} {f : α → Option Bool} (hp : ∀ x ∈ l, f x = some (p x)) {L : Nat → Int → Option Int} {K0 : Int → Option Int}
  (hL : ∀ m x, L (m + 1) x = (bif decide (x < (l.length : Int)) then (((idx l x).bind f).bind fun o => (bif o then (some x) else L m (Go.IntKind.wrap .i64 (x + 1)))) else K0 x))
  (hK : K0 (l.length : Int) = some (-1)) (hn : l.length ≤ maxLen) {m : Nat} (hm : l.length < m) : L m 0 = some (pos l p) := by
 refine Eq.trans (loop0 (L := L) (n := l.length) (g := at' l p) (r := fun i => some (i : Int)) (z := some (-1)) ?_ ?_ hm) ?_
 rotate_left 2
 ·unfold pos
  rw [scan_map some]
 ·intro m i hi _
  rw [hL, at'_eq hi]
  simp only [show decide ((i : Int) < (l.length : Int)) = true by simp; exact hi, cond_true, idx_at hi, Option.bind_some, hp _ (List.getElem_mem hi), wrap_next hi hn]
 ·intro m _
  rw [hL]
  simp only [show decide ((l.length : Int) < (l.length : Int)) = false by simp, cond_false, hK]
theorem anyB_take {α : Type} {l : List α} {p : α → Bool} {i : Nat} (h : i ≤ l.length) : anyB (at' l p) i = (l.take i).any p := by
 rw [← anyB_any]
 rw [List.length_take, Nat.min_eq_left h]
 refine anyB_congr (fun j hj _ => ?_)
 rw [at'_eq (by omega), at'_eq (by rw [List.length_take]; omega)]
 congr 1
 simp
def byteOk (c : UInt8) : Bool := decide ((c.toNat : Int) ≥ 32) && decide ((c.toNat : Int) ≤ 126)
def textOk (s : List UInt8) : Bool := s.all byteOk
def badL (s : List UInt8) (i : Nat) : Bool := at' s (fun c => (!(decide ((c.toNat : Int) ≥ 65) && decide ((c.toNat : Int) ≤ 90))) && (((i : Int) == 0) || (decide ((c.toNat : Int) < 48) || decide ((c.toNat : Int) > 57)))) i
def nameOk (s : List UInt8) : Bool := !anyB (badL s) s.length && (decide ((s.length : Int) ≥ 1) && decide ((s.length : Int) ≤ 8))
theorem any_all {α : Type} (l : List α) (p : α → Bool) : (!l.any fun x => !p x) = l.all p := by
 induction l with
 | nil => rfl
 | cons x l ih => simp only [List.any_cons, List.all_cons, Bool.not_or, Bool.not_not, ih]
/-- A text is laid into a row. -/
def layR (r : List UInt8) (c : Nat) (s : List UInt8) : List UInt8 := r.take c ++ s ++ r.drop (c + s.length)
def laidL (p : List (List UInt8)) (row c : Nat) (s : List UInt8) : List (List UInt8) := match p[row]? with
 | some r => p.set row (layR r c s)
 | none => p
theorem length_layR {r s : List UInt8} {c : Nat} (h : c + s.length ≤ r.length) : (layR r c s).length = r.length := by
 unfold layR; simp; omega
/-- The byte at a place. -/
def cellL (p : List (List UInt8)) (i k : Nat) : Option UInt8 := (p[i]?).bind (·[k]?)
/-- So many rows, of so many bytes each. -/
def Sized (R C : Nat) (p : List (List UInt8)) : Prop := p.length = R ∧ ∀ r ∈ p, r.length = C
theorem Sized.get {R C : Nat} {p : List (List UInt8)} (h : Sized R C p) {i : Nat} (hi : i < R) : ∃ r, p[i]? = some r ∧ r.length = C := by
 have : i < p.length := by rw [h.1]; exact hi
 exact ⟨p[i], List.getElem?_eq_getElem this, h.2 _ (List.getElem_mem this)⟩
theorem Sized.laid {R C : Nat} {p : List (List UInt8)} (h : Sized R C p) {row c : Nat} {s : List UInt8} (hc : c + s.length ≤ C) : Sized R C (laidL p row c s) := by
 unfold laidL
 cases hr : p[row]? with
 | none => exact h
 | some r =>
  have hrl : r.length = C := h.2 r (List.mem_of_getElem? hr)
  refine ⟨by simp [h.1], fun x hx => ?_⟩
  rcases List.mem_or_eq_of_mem_set hx with hx | rfl
  ·exact h.2 x hx
  ·rw [length_layR (by omega)]; exact hrl
theorem Sized.ext {R C : Nat} {p q : List (List UInt8)} (hp : Sized R C p) (hq : Sized R C q) (h : ∀ i k, i < R → k < C → cellL p i k = cellL q i k) : p = q := by
 refine List.ext_getElem? (fun i => ?_)
 by_cases hi : i < R
 ·obtain ⟨r, h1, h2⟩ := hp.get hi
  obtain ⟨t, h3, h4⟩ := hq.get hi
  rw [h1, h3]
  congr 1
  refine List.ext_getElem? (fun k => ?_)
  by_cases hk : k < C
  ·have := h i k hi hk
   unfold cellL at this
   rw [h1, h3] at this
   exact this
  ·rw [List.getElem?_eq_none (by omega), List.getElem?_eq_none (by omega)]
 ·rw [List.getElem?_eq_none (by rw [hp.1]; omega), List.getElem?_eq_none (by rw [hq.1]; omega)]
theorem cat_ok {a b : List UInt8} (h : a.length + b.length ≤ maxList) : cat a b = some (a ++ b) := by
 unfold cat; rw [if_pos h]
theorem cut_in {α : Type} {l : List α} {a b : Nat} (h1 : a ≤ b) (h2 : b ≤ l.length) : cut l (a : Int) (b : Int) = some ((l.take b).drop a) := by
 unfold cut
 rw [if_pos ⟨by omega, by omega, by omega⟩]
 simp
/-- What both programs do when a text is laid. -/
theorem lay_body {p : List (List UInt8)} {row c R C : Nat} {s : List UInt8} (h : Sized R C p) (hr : row < R) (hc : c + s.length ≤ C) (hC : C ≤ 1000000) :
  ((inB p.length (row : Int)).bind fun v3 => ((p[0 + (row : Int).toNat]?).bind fun v4 => ((cut v4 0 (c : Int)).bind fun v5 => ((cat v5 s).bind fun v6 => ((inB p.length (row : Int)).bind fun v7 => ((p[0 + (row : Int).toNat]?).bind fun v8 => ((cut v8 (Go.IntKind.wrap .i64 ((c : Int) + (s.length : Int))) (v8.length : Int)).bind fun v9 => ((cat v6 v9).bind fun v10 => ((inB p.length (row : Int)).bind fun v11 => ((p[0 + (row : Int).toNat]?).bind fun v12 => (some ((p.set (0 + (row : Int).toNat) v10))))))))))))) = some (laidL p row c s) := by
 obtain ⟨r, hr1, hr2⟩ := h.get hr
 have hB : inB p.length (row : Int) = some () := by unfold inB; rw [if_pos ⟨by omega, by rw [h.1]; omega⟩]
 have hw : Go.IntKind.wrap .i64 ((c : Int) + (s.length : Int)) = ((c + s.length : Nat) : Int) := by rw [wrap_in] <;> omega
 have h1 : cut r 0 (c : Int) = some (r.take c) := cut_take (by omega)
 have h2 : cut r ((c + s.length : Nat) : Int) (r.length : Int) = some (r.drop (c + s.length)) := by rw [cut_in (by omega) (Nat.le_refl _)]; simp
 have h3 : cat (r.take c) s = some (r.take c ++ s) := cat_ok (by simp; unfold maxList; omega)
 have h4 : cat (r.take c ++ s) (r.drop (c + s.length)) = some (layR r c s) := by rw [cat_ok (by simp; unfold maxList; omega)]; rfl
 simp only [hB, Option.bind_some, Int.toNat_natCast, Nat.zero_add, hr1, h1, h3, hw, h2, h4]
 unfold laidL
 rw [hr1]
end Go.Sh

namespace Go.Sh
open Go.AE
set_option linter.unusedVariables false
set_option linter.unusedSimpArgs false
theorem maxLen_lt : maxLen = 9223372036854775807 := rfl
theorem screen_isByte_ok {k : Nat} (hk : 1 ≤ k) (n : Int) : screen_isByte k n = some (decide (n ≥ 32) && decide (n ≤ 126)) := by
 obtain ⟨k, rfl, _⟩ := succ_of (c := 0) hk
 simp only [screen_isByte]
 cases decide (n ≥ 32) <;> rfl
theorem screen_isText_ok {k : Nat} {s : Str} (hk : maxLen + 4 ≤ k) (hs : wfS s) : screen_isText k s = some (textOk s) := by
 obtain ⟨k, rfl, hq⟩ := succ_of hk
 unfold wfS at hs
 refine Eq.trans (anyLoop (n := s.length) (L := fun m x => screen_isText_L1 k s (fun _ => some true) m x) (body := fun x => ((idxS s x).bind fun v5 => ((screen_isByte k v5).bind fun v6 => (some (!v6))))) (K := fun _ => some true) (r := some false) (z := some true) (g := at' s (fun c => !byteOk c))
  (fun m x => rfl) (fun i hi _ => ?_) (fun _ => rfl) hs (m := k) (by omega)) ?_
 ·rw [at'_eq hi]
  simp only [idxS_at hi, Option.bind_some, screen_isByte_ok (show 1 ≤ k by omega), byteOk]
 ·unfold textOk
  rw [anyB_any, ← any_all]
  cases s.any fun c => !byteOk c <;> rfl
theorem ref24_IsText_ok {k : Nat} {s : Str} (hk : maxLen + 4 ≤ k) (hs : wfS s) : ref24_IsText k s = some (textOk s) := by
 obtain ⟨k, rfl, hq⟩ := succ_of hk
 unfold wfS at hs
 refine Eq.trans (anyLoop (n := s.length) (L := fun m x => ref24_IsText_L1 s (fun _ => some true) m x) (body := fun x => ((idxS s x).bind fun v5 => (bif (decide (v5 < 32)) then (some (true)) else ((idxS s x).bind fun v6 => (some ((decide (v6 > 126)))))))) (K := fun _ => some true) (r := some false) (z := some true) (g := at' s (fun c => !byteOk c))
  (fun m x => rfl) (fun i hi _ => ?_) (fun _ => rfl) hs (m := k) (by omega)) ?_
 ·rw [at'_eq hi]
  simp only [idxS_at hi, Option.bind_some, byteOk]
  by_cases h1 : (s[i].toNat : Int) < 32
  ·rw [show decide ((s[i].toNat : Int) < 32) = true by simp; omega, show decide ((s[i].toNat : Int) ≥ 32) = false by simp; omega]
   rfl
  ·rw [show decide ((s[i].toNat : Int) < 32) = false by simp; omega, show decide ((s[i].toNat : Int) ≥ 32) = true by simp; omega, cond_false]
   by_cases h2 : (s[i].toNat : Int) ≤ 126
   ·rw [show decide ((s[i].toNat : Int) > 126) = false by simp; omega, show decide ((s[i].toNat : Int) ≤ 126) = true by simp; omega]
    rfl
   ·rw [show decide ((s[i].toNat : Int) > 126) = true by simp; omega, show decide ((s[i].toNat : Int) ≤ 126) = false by simp; omega]
    rfl
 ·unfold textOk
  rw [anyB_any, ← any_all]
  cases s.any fun c => !byteOk c <;> rfl
theorem screen_isName_ok {k : Nat} {s : Str} (hk : maxLen + 2 ≤ k) (hs : wfS s) : screen_isName k s = some (nameOk s) := by
 obtain ⟨k, rfl, hq⟩ := succ_of hk
 unfold screen_isName
 unfold wfS at hs
 refine Eq.trans (loop0 (L := fun m x => screen_isName_L1 s _ m x) (n := s.length) (g := badL s) (r := fun _ => some false) (z := some (decide ((s.length : Int) ≥ 1) && decide ((s.length : Int) ≤ 8))) ?_ ?_ (by omega)) ?_
 rotate_left 2
 ·rw [scan_const]
  unfold nameOk
  cases anyB (badL s) s.length <;> rfl
 ·intro m i hi _
  simp only [screen_isName_L1, badL, at'_eq hi, idxS_at hi, wrap_next hi hs, Option.bind_some, show decide ((i : Int) < (s.length : Int)) = true by simp; exact hi, cond_true]
  cases decide ((s[i].toNat : Int) ≥ 65) <;> cases decide ((s[i].toNat : Int) ≤ 90) <;> cases ((i : Int) == 0) <;> cases decide ((s[i].toNat : Int) < 48) <;> cases decide ((s[i].toNat : Int) > 57) <;> rfl
 ·intro m _
  simp only [screen_isName_L1, show decide ((s.length : Int) < (s.length : Int)) = false by simp, cond_false]
  cases decide ((s.length : Int) ≥ 1) <;> cases decide ((s.length : Int) ≤ 8) <;> rfl
theorem ref11_IsName_L1_eq (a : Str) (K : Int → Option Bool) : ∀ m x, ref11_IsName_L1 a K m x = screen_isName_L1 a K m x := by
 intro m
 induction m with
 | zero => intro x; rfl
 | succ m ih => intro x; simp only [ref11_IsName_L1, screen_isName_L1, ih]
theorem ref11_IsName_ok {k : Nat} {s : Str} (hk : maxLen + 2 ≤ k) (hs : wfS s) : ref11_IsName k s = some (nameOk s) := by
 rw [← screen_isName_ok hk hs]
 cases k with
 | zero => rfl
 | succ k => simp only [ref11_IsName, screen_isName, ref11_IsName_L1_eq]
theorem indexFunc_Slot {k : Nat} {l : List T_api_Slot} {p : T_api_Slot → Bool} {f : Nat → T_api_Slot → Option Bool} (hk : l.length + 2 ≤ k) (hn : l.length ≤ maxLen) (hp : ∀ k', k' + 1 = k → ∀ x ∈ l, f k' x = some (p x)) : slices_IndexFunc_Slot k l f = some (pos l p) := by
 obtain ⟨k, rfl, hq⟩ := succ_of hk
 exact indexFunc_gen (hp k rfl) (L := fun m x => slices_IndexFunc_Slot_L1 k l f _ m x) (fun m x => rfl) rfl hn (by omega)
theorem containsFunc_Slot {k : Nat} {l : List T_api_Slot} {p : T_api_Slot → Bool} {f : Nat → T_api_Slot → Option Bool} (hk : l.length + 3 ≤ k) (hn : l.length ≤ maxLen) (hp : ∀ k', k' + 2 = k → ∀ x ∈ l, f k' x = some (p x)) : slices_ContainsFunc_Slot k l f = some (l.any p) := by
 obtain ⟨k, rfl, hq⟩ := succ_of hk
 simp only [slices_ContainsFunc_Slot, indexFunc_Slot hq hn (fun k' e => hp k' (by omega)), Option.bind_some, pos_any]
theorem indexFunc_part {k : Nat} {l : List T_screen_part} {p : T_screen_part → Bool} {f : Nat → T_screen_part → Option Bool} (hk : l.length + 2 ≤ k) (hn : l.length ≤ maxLen) (hp : ∀ k', k' + 1 = k → ∀ x ∈ l, f k' x = some (p x)) : slices_IndexFunc_part_v10s72 k l f = some (pos l p) := by
 obtain ⟨k, rfl, hq⟩ := succ_of hk
 exact indexFunc_gen (hp k rfl) (L := fun m x => slices_IndexFunc_part_v10s72_L1 k l f _ m x) (fun m x => rfl) rfl hn (by omega)
theorem containsFunc_part {k : Nat} {l : List T_screen_part} {p : T_screen_part → Bool} {f : Nat → T_screen_part → Option Bool} (hk : l.length + 3 ≤ k) (hn : l.length ≤ maxLen) (hp : ∀ k', k' + 2 = k → ∀ x ∈ l, f k' x = some (p x)) : slices_ContainsFunc_part_v10s72 k l f = some (l.any p) := by
 obtain ⟨k, rfl, hq⟩ := succ_of hk
 simp only [slices_ContainsFunc_part_v10s72, indexFunc_part hq hn (fun k' e => hp k' (by omega)), Option.bind_some, pos_any]
def clashB (x t : T_api_Slot) : Bool := (t.fName == x.fName) || ((decide (x.fIn ≥ 0) && (t.fIn == x.fIn)) || (decide (x.fOut ≥ 0) && (t.fOut == x.fOut)))
def placeB (n : Int) : Bool := decide (n ≥ -1) && decide (n < 4)
def slotB (x : T_api_Slot) : Bool := nameOk x.fName && (placeB x.fIn && (placeB x.fOut && (decide (x.fFill ≥ 32) && decide (x.fFill ≤ 126))))
def badSlot (l : List T_api_Slot) (i : Nat) : Bool := at' l (fun x => (!slotB x) || (l.take i).any (clashB x)) i
theorem screen_isPlace_ok {k : Nat} (hk : 1 ≤ k) (n : Int) : screen_isPlace k n = some (placeB n) := by
 obtain ⟨k, rfl, _⟩ := succ_of (c := 0) hk
 simp only [screen_isPlace, placeB]
 cases decide (n ≥ -1) <;> rfl
theorem clash_ok {k : Nat} (hk : 1 ≤ k) (x t : T_api_Slot) : screen_areSlots_1 k t x = some (clashB x t) := by
 obtain ⟨k, rfl, _⟩ := succ_of (c := 0) hk
 simp only [screen_areSlots_1, clashB]
 cases t.fName == x.fName <;> cases decide (x.fIn ≥ 0) <;> cases t.fIn == x.fIn <;> cases decide (x.fOut ≥ 0) <;> rfl
theorem screen_areSlots_ok {k : Nat} {l : List T_api_Slot} (hk : maxLen + 8 ≤ k) (hw : wfL wf_T_api_Slot l) : screen_areSlots k l = some (!anyB (badSlot l) l.length && decide ((l.length : Int) ≤ 10)) := by
 obtain ⟨k, rfl, hq⟩ := succ_of hk
 obtain ⟨hl, hw⟩ := hw
 unfold screen_areSlots
 refine Eq.trans (loop0 (L := fun m x => screen_areSlots_L1 k l _ m x) (n := l.length) (g := badSlot l) (r := fun _ => some false) (z := some (decide ((l.length : Int) ≤ 10))) ?_ ?_ (by omega)) ?_
 rotate_left 2
 ·rw [scan_const]
  cases anyB (badSlot l) l.length <;> rfl
 ·intro m i hi _
  have h1 := hw _ (List.getElem_mem hi)
  have hc : slices_ContainsFunc_Slot k (l.take i) (fun j x0 => screen_areSlots_1 j x0 l[i]) = some ((l.take i).any (clashB l[i])) :=
   containsFunc_Slot (by rw [List.length_take]; omega) (by rw [List.length_take]; omega) (fun k' e x hx => clash_ok (by omega) _ _)
  simp only [screen_areSlots_L1, lt_dec hi, cond_true, idx_at hi, Option.bind_some, screen_isName_ok (show maxLen + 2 ≤ k by omega) h1.1, screen_isPlace_ok (show 1 ≤ k by omega), screen_isByte_ok (show 1 ≤ k by omega), cut_take (show i ≤ l.length by omega), hc, wrap_next hi hl, badSlot, at'_eq hi, slotB]
  cases nameOk l[i].fName <;> cases placeB l[i].fIn <;> cases placeB l[i].fOut <;> cases (decide (l[i].fFill ≥ 32) && decide (l[i].fFill ≤ 126)) <;> rfl
 ·intro m _
  simp only [screen_areSlots_L1, lt_self, cond_false]
theorem ref24_isField_ok {k : Nat} {l : List T_api_Slot} {x : T_api_Slot} (hk : maxLen + 4 ≤ k) (hl : l.length ≤ maxLen) (hx : wf_T_api_Slot x) : ref24_isField k l x = some (slotB x && !l.any (clashB x)) := by
 obtain ⟨k, rfl, hq⟩ := succ_of hk
 have hL : ref24_isField_L1 l x (fun _ => some true) k 0 = bif anyB (at' l (clashB x)) l.length then some false else some true := by
  refine anyLoop (n := l.length) (L := fun m y => ref24_isField_L1 l x (fun _ => some true) m y) (body := fun y => ((idx l y).bind fun v9 => (bif (v9.fName == x.fName) then (some (true)) else (bif (decide (x.fIn ≥ 0)) then ((idx l y).bind fun v10 => (bif (v10.fIn == x.fIn) then (some (true)) else (bif (decide (x.fOut ≥ 0)) then ((idx l y).bind fun v11 => (some ((v11.fOut == x.fOut)))) else (some (false))))) else (bif (decide (x.fOut ≥ 0)) then ((idx l y).bind fun v12 => (some ((v12.fOut == x.fOut)))) else (some (false))))))) (K := fun _ => some true)
   (fun m y => rfl) (fun i hi _ => ?_) (fun _ => rfl) hl (m := k) (by omega)
  rw [at'_eq hi]
  simp only [idx_at hi, Option.bind_some, clashB]
  cases l[i].fName == x.fName <;> cases decide (x.fIn ≥ 0) <;> cases l[i].fIn == x.fIn <;> cases decide (x.fOut ≥ 0) <;> rfl
 simp only [ref24_isField, ref11_IsName_ok (show maxLen + 2 ≤ k by omega) hx.1, Option.bind_some, hL, anyB_any, slotB, placeB]
 have e1 : decide (x.fIn < -1) = !decide (x.fIn ≥ -1) := by by_cases h : x.fIn < -1 <;> simp [h] <;> omega
 have e2 : decide (x.fIn > 3) = !decide (x.fIn < 4) := by by_cases h : x.fIn > 3 <;> simp [h] <;> omega
 have e3 : decide (x.fOut < -1) = !decide (x.fOut ≥ -1) := by by_cases h : x.fOut < -1 <;> simp [h] <;> omega
 have e4 : decide (x.fOut > 3) = !decide (x.fOut < 4) := by by_cases h : x.fOut > 3 <;> simp [h] <;> omega
 have e5 : decide (x.fFill < 32) = !decide (x.fFill ≥ 32) := by by_cases h : x.fFill < 32 <;> simp [h] <;> omega
 have e6 : decide (x.fFill > 126) = !decide (x.fFill ≤ 126) := by by_cases h : x.fFill > 126 <;> simp [h] <;> omega
 rw [e1, e2, e3, e4, e5, e6]
 cases nameOk x.fName <;> cases decide (x.fIn ≥ -1) <;> cases decide (x.fIn < 4) <;> cases decide (x.fOut ≥ -1) <;> cases decide (x.fOut < 4) <;> cases decide (x.fFill ≥ 32) <;> cases decide (x.fFill ≤ 126) <;> cases l.any (clashB x) <;> rfl
end Go.Sh

namespace Go.Sh
open Go.AE
set_option linter.unusedVariables false
set_option linter.unusedSimpArgs false
def partM (m : T_api_Mark) : T_screen_part := ⟨m.fRow, m.fColumn, (m.fText.length : Int)⟩
def partF (s : T_api_Slot) : T_screen_part := ⟨s.fRow, s.fColumn, s.fBytes⟩
def partsF (f : T_api_Form) : List T_screen_part := f.fMarks.map partM ++ f.fFields.map partF
def liesB (f : T_api_Form) (p : T_screen_part) : Bool := decide (p.frow ≥ 0) && (decide (p.frow < f.fRows) && (decide (p.fcolumn ≥ 0) && (decide (p.fcolumn < f.fColumns) && (decide (p.fn ≥ 1) && decide (p.fn ≤ Go.IntKind.wrap .i64 (f.fColumns - p.fcolumn))))))
def meetsB (x y : T_screen_part) : Bool := (x.frow == y.frow) && (decide (x.fcolumn < Go.IntKind.wrap .i64 (y.fcolumn + y.fn)) && decide (y.fcolumn < Go.IntKind.wrap .i64 (x.fcolumn + x.fn)))
def badPart (l : List T_screen_part) (i : Nat) : Bool := at' l (fun x => (l.take i).any (meetsB x)) i
def hdrBad (f : T_api_Form) : Bool := decide (f.fRows < 1) || (decide (f.fRows > 12) || (decide (f.fColumns < 10) || (decide (f.fColumns > 40) || decide ((f.fMarks.length : Int) > 8))))
def badM (f : T_api_Form) (m : T_api_Mark) : Bool := decide ((m.fText.length : Int) > 40) || ((!textOk m.fText) || !liesB f (partM m))
def okF (f : T_api_Form) : Bool := !hdrBad f && (!anyB (badSlot f.fFields) f.fFields.length && (decide ((f.fFields.length : Int) ≤ 10) && (!f.fMarks.any (badM f) && (!f.fFields.any (fun s => !liesB f (partF s)) && !anyB (badPart (partsF f)) (partsF f).length))))
theorem screen_lies_ok {k : Nat} (hk : 1 ≤ k) (f : T_api_Form) (r c n : Int) : screen_lies k f r c n = some (liesB f ⟨r, c, n⟩) := by
 obtain ⟨k, rfl, _⟩ := succ_of (c := 0) hk
 simp only [screen_lies, liesB]
 cases decide (r ≥ 0) <;> cases decide (r < f.fRows) <;> cases decide (c ≥ 0) <;> cases decide (c < f.fColumns) <;> cases decide (n ≥ 1) <;> rfl
theorem screen_meets_ok {k : Nat} (hk : 1 ≤ k) (x y : T_screen_part) : screen_part_meets k x y = some (meetsB x y) := by
 obtain ⟨k, rfl, _⟩ := succ_of (c := 0) hk
 simp only [screen_part_meets, meetsB]
 cases x.frow == y.frow <;> cases decide (x.fcolumn < Go.IntKind.wrap .i64 (y.fcolumn + y.fn)) <;> rfl
theorem wf_mark {m : T_api_Mark} (h : wf_T_api_Mark m) : wfS m.fText := h.2.2.1
theorem maxList_eq : maxList = 4294967296 := rfl
theorem take_map_succ {α β : Type} (g : α → β) {l : List α} {i : Nat} (h : i < l.length) : (l.take (i + 1)).map g = (l.take i).map g ++ [g l[i]] := by
 have e : l.take (i + 1) = l.take i ++ [l[i]] := by rw [List.take_add_one, List.getElem?_eq_getElem h]; rfl
 rw [e, List.map_append]
 rfl
theorem screen_Valid_ok {k : Nat} {f : T_api_Form} (hk : maxLen + 20 ≤ k) (hw : wf_T_api_Form f) : screen_Valid k f = some (okF f) := by
 obtain ⟨k, rfl, hq⟩ := succ_of hk
 obtain ⟨w1, w2, w3, w4, _⟩ := hw
 have hsl := screen_areSlots_ok (show maxLen + 8 ≤ k by omega) w4
 have hmm := maxLen_lt
 simp only [screen_Valid, hsl, Option.bind_some]
 -- the head
 by_cases hh : hdrBad f = true
 ·have e : okF f = false := by unfold okF; rw [hh]; rfl
  rw [e]
  unfold hdrBad at hh
  revert hh
  cases decide (f.fRows < 1) <;> cases decide (f.fRows > 12) <;> cases decide (f.fColumns < 10) <;> cases decide (f.fColumns > 40) <;> cases decide ((f.fMarks.length : Int) > 8) <;> intro hh <;> first | rfl | cases hh
 ·have hh2 := hh
  unfold hdrBad at hh
  simp only [Bool.or_eq_true, decide_eq_true_eq, not_or] at hh
  obtain ⟨g1, g2, g3, g4, g5⟩ := hh
  rw [show decide (f.fRows < 1) = false by simp; omega, show decide (f.fRows > 12) = false by simp; omega, show decide (f.fColumns < 10) = false by simp; omega, show decide (f.fColumns > 40) = false by simp; omega, show decide ((f.fMarks.length : Int) > 8) = false by simp; omega]
  simp only [cond_false, Option.bind_some]
  have hm8 : f.fMarks.length ≤ 8 := by omega
  have hhb : hdrBad f = false := by simpa using hh2
  unfold okF
  rw [hhb]
  cases hA : anyB (badSlot f.fFields) f.fFields.length with
  | true => rfl
  | false =>
   cases hB : decide ((f.fFields.length : Int) ≤ 10) with
   | false => rfl
   | true =>
    have hf10 : f.fFields.length ≤ 10 := by simp at hB; omega
    simp only [Bool.not_false, Bool.and_self, Bool.not_true, cond_false, Bool.true_and]
    -- the marks
    refine Eq.trans (loopS (L := fun m x s => screen_Valid_L1 k f _ m s x) (n := f.fMarks.length) (σ := fun i => (f.fMarks.take i).map partM) (g := at' f.fMarks (badM f)) (r := fun _ => some false) (z := some (!f.fFields.any (fun s => !liesB f (partF s)) && !anyB (badPart (partsF f)) (partsF f).length)) ?_ ?_ (by omega) rfl) ?_
    rotate_left 2
    ·rw [scan_const, anyB_any]
     cases f.fMarks.any (badM f) <;> rfl
    ·intro m i hi _
     have h1 := w3.2 _ (List.getElem_mem hi)
     have hap : app ((f.fMarks.take i).map partM) [({ frow := f.fMarks[i].fRow, fcolumn := f.fMarks[i].fColumn, fn := (f.fMarks[i].fText.length : Int) } : T_screen_part)] = some ((f.fMarks.take (i + 1)).map partM) := by
      rw [app_ok (by simp; rw [maxList_eq]; omega), take_map_succ partM hi]
      rfl
     simp only [screen_Valid_L1, lt_dec hi, cond_true, idx_at hi, Option.bind_some, screen_isText_ok (show maxLen + 4 ≤ k by omega) (wf_mark h1), screen_lies_ok (show 1 ≤ k by omega), hap, wrap_next hi (by omega), at'_eq hi, badM, partM]
     cases decide ((f.fMarks[i].fText.length : Int) > 40) <;> cases textOk f.fMarks[i].fText <;> rfl
    ·intro m _
     simp only [screen_Valid_L1, lt_self, cond_false, List.take_length]
     -- the fields
     refine Eq.trans (loopS (L := fun m x s => screen_Valid_L2 k f _ m s x) (n := f.fFields.length) (σ := fun i => f.fMarks.map partM ++ (f.fFields.take i).map partF) (g := at' f.fFields (fun s => !liesB f (partF s))) (r := fun _ => some false) (z := some (!anyB (badPart (partsF f)) (partsF f).length)) ?_ ?_ (by omega) (by simp)) ?_
     rotate_left 2
     ·rw [scan_const, anyB_any]
      cases f.fFields.any (fun s => !liesB f (partF s)) <;> rfl
     ·intro m i hi _
      have hap : app (f.fMarks.map partM ++ (f.fFields.take i).map partF) [({ frow := f.fFields[i].fRow, fcolumn := f.fFields[i].fColumn, fn := f.fFields[i].fBytes } : T_screen_part)] = some (f.fMarks.map partM ++ (f.fFields.take (i + 1)).map partF) := by
       rw [app_ok (by simp; rw [maxList_eq]; omega), take_map_succ partF hi, List.append_assoc]
       rfl
      simp only [screen_Valid_L2, lt_dec hi, cond_true, idx_at hi, Option.bind_some, screen_lies_ok (show 1 ≤ k by omega), hap, wrap_next hi (show f.fFields.length ≤ maxLen by omega), at'_eq hi, partF]
     ·intro m _
      simp only [screen_Valid_L2, lt_self, cond_false, List.take_length]
      have hpl : (partsF f).length ≤ 18 := by unfold partsF; simp; omega
      change screen_Valid_L3 k (partsF f) _ k 0 = _
      refine Eq.trans (loop0 (L := fun m x => screen_Valid_L3 k (partsF f) _ m x) (n := (partsF f).length) (g := badPart (partsF f)) (r := fun _ => some false) (z := some true) ?_ ?_ (by omega)) ?_
      rotate_left 2
      ·rw [scan_const]
       cases anyB (badPart (partsF f)) (partsF f).length <;> rfl
      ·intro m i hi _
       have hc : slices_ContainsFunc_part_v10s72 k ((partsF f).take i) (fun j x0 => screen_part_meets j (partsF f)[i] x0) = some (((partsF f).take i).any (meetsB (partsF f)[i])) :=
        containsFunc_part (by rw [List.length_take]; omega) (by rw [List.length_take]; omega) (fun k' e x hx => screen_meets_ok (by omega) _ _)
       simp only [screen_Valid_L3, lt_dec hi, cond_true, idx_at hi, Option.bind_some, cut_take (show i ≤ (partsF f).length by omega), hc, wrap_next hi (show (partsF f).length ≤ maxLen by omega), badPart, at'_eq hi]
      ·intro m _
       simp only [screen_Valid_L3, lt_self, cond_false]
def spanOf (p : T_screen_part) : T_progenyref24_span := ⟨p.frow, p.fcolumn, p.fn⟩
theorem ref24_spans_ok {k : Nat} {f : T_api_Form} (hk : maxLen + 4 ≤ k) (h1 : f.fMarks.length ≤ 8) (h2 : f.fFields.length ≤ 10) : ref24_spans k f = some ((partsF f).map spanOf) := by
 obtain ⟨k, rfl, hq⟩ := succ_of hk
 have hmm := maxLen_lt
 simp only [ref24_spans]
 refine Eq.trans (loopS (L := fun m x s => ref24_spans_L1 f _ m x s) (n := f.fMarks.length) (σ := fun i => (f.fMarks.take i).map (fun m => spanOf (partM m))) (g := fun _ => false) (r := fun _ => none) (z := some ((partsF f).map spanOf)) ?_ ?_ (by omega) rfl) (scan_false _ _ (fun _ _ _ => rfl))
 ·intro m i hi _
  have hap : app ((f.fMarks.take i).map (fun m => spanOf (partM m))) [({ frow := f.fMarks[i].fRow, fcolumn := f.fMarks[i].fColumn, fbytes := (f.fMarks[i].fText.length : Int) } : T_progenyref24_span)] = some ((f.fMarks.take (i + 1)).map (fun m => spanOf (partM m))) := by
   rw [app_ok (by simp; rw [maxList_eq]; omega), take_map_succ _ hi]
   rfl
  simp only [ref24_spans_L1, lt_dec hi, cond_true, idx_at hi, Option.bind_some, hap, wrap_next hi (show f.fMarks.length ≤ maxLen by omega), cond_false]
 ·intro m _
  simp only [ref24_spans_L1, lt_self, cond_false, List.take_length]
  refine Eq.trans (loopS (L := fun m x s => ref24_spans_L2 f _ m x s) (n := f.fFields.length) (σ := fun i => f.fMarks.map (fun m => spanOf (partM m)) ++ (f.fFields.take i).map (fun m => spanOf (partF m))) (g := fun _ => false) (r := fun _ => none) (z := some ((partsF f).map spanOf)) ?_ ?_ (by omega) (by simp)) (scan_false _ _ (fun _ _ _ => rfl))
  ·intro m i hi _
   have hap : app (f.fMarks.map (fun m => spanOf (partM m)) ++ (f.fFields.take i).map (fun m => spanOf (partF m))) [({ frow := f.fFields[i].fRow, fcolumn := f.fFields[i].fColumn, fbytes := f.fFields[i].fBytes } : T_progenyref24_span)] = some (f.fMarks.map (fun m => spanOf (partM m)) ++ (f.fFields.take (i + 1)).map (fun m => spanOf (partF m))) := by
    rw [app_ok (by simp; rw [maxList_eq]; omega), take_map_succ _ hi, List.append_assoc]
    rfl
   simp only [ref24_spans_L2, lt_dec hi, cond_true, idx_at hi, Option.bind_some, hap, wrap_next hi (show f.fFields.length ≤ maxLen by omega), cond_false]
  ·intro m _
   simp only [ref24_spans_L2, lt_self, cond_false, List.take_length]
   unfold partsF
   rw [List.map_append, List.map_map, List.map_map]
   rfl
def meetsR (x y : T_screen_part) : Bool := (y.frow == x.frow) && (decide (y.fcolumn < Go.IntKind.wrap .i64 (x.fcolumn + x.fn)) && decide (x.fcolumn < Go.IntKind.wrap .i64 (y.fcolumn + y.fn)))
theorem meets_same (x y : T_screen_part) : meetsR x y = meetsB x y := by
 unfold meetsR meetsB
 rw [Bool.eq_iff_iff]
 simp only [Bool.and_eq_true, beq_iff_eq]
 exact ⟨fun ⟨h1, h2, h3⟩ => ⟨h1.symm, h3, h2⟩, fun ⟨h1, h2, h3⟩ => ⟨h1.symm, h3, h2⟩⟩
def okR (f : T_api_Form) : Bool := !hdrBad f && (decide ((f.fFields.length : Int) ≤ 10) && (!f.fMarks.any (fun m => !textOk m.fText) && (!anyB (badSlot f.fFields) f.fFields.length && !anyB (fun i => at' (partsF f) (fun x => !liesB f x) i || badPart (partsF f) i) (partsF f).length)))
theorem lies_ref (f : T_api_Form) (p : T_screen_part) : (bif decide (p.frow < 0) then some true else (bif decide (p.frow ≥ f.fRows) then some true else (bif decide (p.fcolumn < 0) then some true else (bif decide (p.fcolumn ≥ f.fColumns) then some true else (bif decide (p.fn < 1) then some true else some (decide (p.fn > Go.IntKind.wrap .i64 (f.fColumns - p.fcolumn)))))))) = some (!liesB f p) := by
 unfold liesB
 have e1 : decide (p.frow < 0) = !decide (p.frow ≥ 0) := by by_cases h : p.frow < 0 <;> simp [h] <;> omega
 have e2 : decide (p.frow ≥ f.fRows) = !decide (p.frow < f.fRows) := by by_cases h : p.frow ≥ f.fRows <;> simp [h] <;> omega
 have e3 : decide (p.fcolumn < 0) = !decide (p.fcolumn ≥ 0) := by by_cases h : p.fcolumn < 0 <;> simp [h] <;> omega
 have e4 : decide (p.fcolumn ≥ f.fColumns) = !decide (p.fcolumn < f.fColumns) := by by_cases h : p.fcolumn ≥ f.fColumns <;> simp [h] <;> omega
 have e5 : decide (p.fn < 1) = !decide (p.fn ≥ 1) := by by_cases h : p.fn < 1 <;> simp [h] <;> omega
 have e6 : decide (p.fn > Go.IntKind.wrap .i64 (f.fColumns - p.fcolumn)) = !decide (p.fn ≤ Go.IntKind.wrap .i64 (f.fColumns - p.fcolumn)) := by by_cases h : p.fn > Go.IntKind.wrap .i64 (f.fColumns - p.fcolumn) <;> simp [h] <;> omega
 rw [e1, e2, e3, e4, e5, e6]
 cases decide (p.frow ≥ 0) <;> cases decide (p.frow < f.fRows) <;> cases decide (p.fcolumn ≥ 0) <;> cases decide (p.fcolumn < f.fColumns) <;> cases decide (p.fn ≥ 1) <;> rfl
theorem lies_refS (f : T_api_Form) (p : T_screen_part) : (bif decide ((spanOf p).frow < 0) then some true else (bif decide ((spanOf p).frow ≥ f.fRows) then some true else (bif decide ((spanOf p).fcolumn < 0) then some true else (bif decide ((spanOf p).fcolumn ≥ f.fColumns) then some true else (bif decide ((spanOf p).fbytes < 1) then some true else some (decide ((spanOf p).fbytes > Go.IntKind.wrap .i64 (f.fColumns - (spanOf p).fcolumn)))))))) = some (!liesB f p) := lies_ref f p
theorem ref24_Valid_okR {k : Nat} {f : T_api_Form} (hk : maxLen + 20 ≤ k) (hw : wf_T_api_Form f) : ref24_Valid k f = some (okR f) := by
 obtain ⟨k, rfl, hq⟩ := succ_of hk
 obtain ⟨w1, w2, w3, w4, _⟩ := hw
 have hmm := maxLen_lt
 simp only [ref24_Valid]
 by_cases hh : hdrBad f = true
 ·have e : okR f = false := by unfold okR; rw [hh]; rfl
  rw [e]
  unfold hdrBad at hh
  revert hh
  cases decide (f.fRows < 1) <;> cases decide (f.fRows > 12) <;> cases decide (f.fColumns < 10) <;> cases decide (f.fColumns > 40) <;> cases decide ((f.fMarks.length : Int) > 8) <;> intro hh <;> first | rfl | cases hh
 ·have hh2 := hh
  unfold hdrBad at hh
  simp only [Bool.or_eq_true, decide_eq_true_eq, not_or] at hh
  obtain ⟨g1, g2, g3, g4, g5⟩ := hh
  rw [show decide (f.fRows < 1) = false by simp; omega, show decide (f.fRows > 12) = false by simp; omega, show decide (f.fColumns < 10) = false by simp; omega, show decide (f.fColumns > 40) = false by simp; omega, show decide ((f.fMarks.length : Int) > 8) = false by simp; omega]
  simp only [cond_false, Option.bind_some]
  have hm8 : f.fMarks.length ≤ 8 := by omega
  have hhb : hdrBad f = false := by simpa using hh2
  unfold okR
  rw [hhb]
  by_cases hB : (f.fFields.length : Int) ≤ 10
  ·have hf10 : f.fFields.length ≤ 10 := by omega
   rw [show decide ((f.fFields.length : Int) > 10) = false by simp; omega, show decide ((f.fFields.length : Int) ≤ 10) = true by simp; omega]
   simp only [cond_false, Bool.not_false, Bool.true_and]
   have hpl : (partsF f).length ≤ 18 := by unfold partsF; simp; omega
   refine Eq.trans (anyLoop (n := f.fMarks.length) (L := fun m x => ref24_Valid_L1 k f _ m x) (body := fun x => ((idx f.fMarks x).bind fun v6 => ((ref24_IsText k v6.fText).bind fun v7 => (some ((!v7)))))) (r := some false) (z := some (!anyB (badSlot f.fFields) f.fFields.length && !anyB (fun i => at' (partsF f) (fun x => !liesB f x) i || badPart (partsF f) i) (partsF f).length)) (g := at' f.fMarks (fun m => !textOk m.fText))
    (fun m x => rfl) (fun i hi _ => ?_) (fun _ => ?_) (by omega) (m := k) (by omega)) ?_
   ·rw [at'_eq hi]
    simp only [idx_at hi, Option.bind_some, ref24_IsText_ok (show maxLen + 4 ≤ k by omega) (wf_mark (w3.2 _ (List.getElem_mem hi)))]
   ·refine Eq.trans (anyLoop (n := f.fFields.length) (L := fun m x => ref24_Valid_L2 k f _ m x) (body := fun x => ((cut f.fFields 0 x).bind fun v15 => ((idx f.fFields x).bind fun v16 => ((ref24_isField k v15 v16).bind fun v17 => (some ((!v17))))))) (r := some false) (z := some (!anyB (fun i => at' (partsF f) (fun x => !liesB f x) i || badPart (partsF f) i) (partsF f).length)) (g := badSlot f.fFields)
     (fun m x => rfl) (fun i hi _ => ?_) (fun _ => ?_) (by omega) (m := k) (by omega)) ?_
    ·unfold badSlot
     rw [at'_eq hi]
     simp only [cut_take (show i ≤ f.fFields.length by omega), idx_at hi, Option.bind_some, ref24_isField_ok (show maxLen + 4 ≤ k by omega) (show (f.fFields.take i).length ≤ maxLen by rw [List.length_take]; omega) (w4.2 _ (List.getElem_mem hi))]
     cases slotB f.fFields[i] <;> cases (f.fFields.take i).any (clashB f.fFields[i]) <;> rfl
    ·rw [ref24_spans_ok (show maxLen + 4 ≤ k by omega) hm8 hf10]
     simp only [Option.bind_some]
     refine Eq.trans (loop0 (L := fun m x => ref24_Valid_L3 k f ((partsF f).map spanOf) _ m x) (n := (partsF f).length) (g := fun i => at' (partsF f) (fun x => !liesB f x) i || badPart (partsF f) i) (r := fun _ => some false) (z := some true) ?_ ?_ (by omega)) ?_
     rotate_left 2
     ·rw [scan_const]
      cases anyB (fun i => at' (partsF f) (fun x => !liesB f x) i || badPart (partsF f) i) (partsF f).length <;> rfl
     ·intro m i hi _
      have hix : ∀ j (hj : j < (partsF f).length), idx ((partsF f).map spanOf) (j : Int) = some (spanOf (partsF f)[j]) := by
       intro j hj
       rw [idx_at (by simpa using hj)]
       simp
      have h4 : ∀ K : Int → Option Bool, ref24_Valid_L4 ((partsF f).map spanOf) (i : Int) K k 0 = bif ((partsF f).take i).any (meetsB (partsF f)[i]) then some false else K (i : Int) := by
       intro K
       rw [← anyB_take (show i ≤ (partsF f).length by omega)]
       refine anyLoop (n := i) (L := fun m x => ref24_Valid_L4 ((partsF f).map spanOf) (i : Int) K m x) (body := fun x68 => ((idx ((partsF f).map spanOf) x68).bind fun v69 => ((idx ((partsF f).map spanOf) (i : Int)).bind fun v70 => (bif (v69.frow == v70.frow) then ((idx ((partsF f).map spanOf) x68).bind fun v71 => ((idx ((partsF f).map spanOf) (i : Int)).bind fun v72 => ((idx ((partsF f).map spanOf) (i : Int)).bind fun v73 => (bif (decide (v71.fcolumn < (Go.IntKind.wrap .i64 (v72.fcolumn + v73.fbytes)))) then ((idx ((partsF f).map spanOf) (i : Int)).bind fun v74 => ((idx ((partsF f).map spanOf) x68).bind fun v75 => ((idx ((partsF f).map spanOf) x68).bind fun v76 => (some ((decide (v74.fcolumn < (Go.IntKind.wrap .i64 (v75.fcolumn + v76.fbytes))))))))) else (some (false)))))) else (some (false)))))) (K := K)
        (fun m x => rfl) (fun j hj _ => ?_) (fun _ => rfl) (by omega) (m := k) (by omega)
       rw [at'_eq (show j < (partsF f).length by omega), ← meets_same]
       simp only [hix j (by omega), hix i hi, Option.bind_some, meetsR, spanOf]
       cases (partsF f)[j].frow == (partsF f)[i].frow <;> cases decide ((partsF f)[j].fcolumn < Go.IntKind.wrap .i64 ((partsF f)[i].fcolumn + (partsF f)[i].fn)) <;> rfl
      have hlr := lies_refS f (partsF f)[i]
      simp only [ref24_Valid_L3, List.length_map, lt_dec hi, cond_true, hix i hi, Option.bind_some, h4, wrap_next hi (show (partsF f).length ≤ maxLen by omega), badPart, at'_eq hi]
      rw [hlr]
      cases liesB f (partsF f)[i] <;> rfl
     ·intro m _
      simp only [ref24_Valid_L3, List.length_map, lt_self, cond_false]
    ·cases anyB (badSlot f.fFields) f.fFields.length <;> rfl
   ·rw [anyB_any]
    cases f.fMarks.any (fun m => !textOk m.fText) <;> rfl
  ·rw [show decide ((f.fFields.length : Int) > 10) = true by simp; omega, show decide ((f.fFields.length : Int) ≤ 10) = false by simp; omega]
   rfl
theorem anyB_or {g h : Nat → Bool} {n : Nat} : anyB (fun i => g i || h i) n = (anyB g n || anyB h n) := by
 rw [Bool.eq_iff_iff, anyB_iff, Bool.or_eq_true, anyB_iff, anyB_iff]
 constructor
 ·rintro ⟨i, hi, h⟩
  rcases Bool.or_eq_true _ _ ▸ h with h | h
  ·exact .inl ⟨i, hi, h⟩
  ·exact .inr ⟨i, hi, h⟩
 ·rintro (⟨i, hi, h⟩ | ⟨i, hi, h⟩)
  ·exact ⟨i, hi, by rw [h]; rfl⟩
  ·exact ⟨i, hi, by simp [h]⟩
theorem okR_ok (f : T_api_Form) : okR f = okF f := by
 unfold okR okF
 cases hh : hdrBad f with
 | true => rfl
 | false =>
  have hcol : f.fColumns ≤ 40 := by
   unfold hdrBad at hh
   simp only [Bool.or_eq_false_iff, decide_eq_false_iff_not] at hh
   omega
  have hcol10 : f.fColumns ≥ 10 := by
   unfold hdrBad at hh
   simp only [Bool.or_eq_false_iff, decide_eq_false_iff_not] at hh
   omega
  rw [anyB_or, anyB_any]
  have hp : (partsF f).any (fun x => !liesB f x) = (f.fMarks.any (fun m => !liesB f (partM m)) || f.fFields.any (fun s => !liesB f (partF s))) := by
   unfold partsF
   rw [List.any_append, List.any_map, List.any_map]
   rfl
  have hm : f.fMarks.any (badM f) = (f.fMarks.any (fun m => !textOk m.fText) || f.fMarks.any (fun m => !liesB f (partM m))) := by
   rw [Bool.eq_iff_iff]
   simp only [Bool.or_eq_true, List.any_eq_true, badM, decide_eq_true_eq, Bool.not_eq_true']
   constructor
   ·rintro ⟨m, hm, h | h | h⟩
    ·refine .inr ⟨m, hm, ?_⟩
     cases hl : liesB f (partM m) with
     | false => rfl
     | true =>
      exfalso
      unfold liesB partM at hl
      simp only [Bool.and_eq_true, decide_eq_true_eq] at hl
      obtain ⟨_, _, a3, a4, _, a6⟩ := hl
      rw [wrap_in (by omega) (by omega)] at a6
      omega
    ·exact .inl ⟨m, hm, h⟩
    ·exact .inr ⟨m, hm, h⟩
   ·rintro (⟨m, hm, h⟩ | ⟨m, hm, h⟩)
    ·exact ⟨m, hm, .inr (.inl h)⟩
    ·exact ⟨m, hm, .inr (.inr h)⟩
  rw [hp, hm]
  cases decide ((f.fFields.length : Int) ≤ 10) <;> cases anyB (badSlot f.fFields) f.fFields.length <;> cases f.fMarks.any (fun m => !textOk m.fText) <;> cases f.fMarks.any (fun m => !liesB f (partM m)) <;> cases f.fFields.any (fun s => !liesB f (partF s)) <;> cases anyB (badPart (partsF f)) (partsF f).length <;> rfl
theorem ref24_Valid_ok {k : Nat} {f : T_api_Form} (hk : maxLen + 20 ≤ k) (hw : wf_T_api_Form f) : ref24_Valid k f = some (okF f) := by
 rw [ref24_Valid_okR hk hw, okR_ok]
end Go.Sh

namespace Go.Sh
open Go.AE
set_option linter.unusedVariables false
set_option linter.unusedSimpArgs false
def Meets (x y : T_screen_part) : Prop := x.frow = y.frow ∧ x.fcolumn < y.fcolumn + y.fn ∧ y.fcolumn < x.fcolumn + x.fn
def InF (f : T_api_Form) (p : T_screen_part) : Prop := 0 ≤ p.frow ∧ p.frow < f.fRows ∧ 0 ≤ p.fcolumn ∧ 1 ≤ p.fn ∧ p.fcolumn + p.fn ≤ f.fColumns
structure OkForm (f : T_api_Form) : Prop where
 r1 : 1 ≤ f.fRows
 r2 : f.fRows ≤ 12
 c1 : 10 ≤ f.fColumns
 c2 : f.fColumns ≤ 40
 m8 : f.fMarks.length ≤ 8
 f10 : f.fFields.length ≤ 10
 mark : ∀ m ∈ f.fMarks, textOk m.fText = true ∧ InF f (partM m)
 fd : ∀ s ∈ f.fFields, slotB s = true ∧ InF f (partF s)
 sl : f.fFields.Pairwise (fun x y => clashB y x = false)
 pt : (partsF f).Pairwise (fun x y => ¬ Meets y x)
theorem liesB_in {f : T_api_Form} {p : T_screen_part} (h1 : 10 ≤ f.fColumns) (h2 : f.fColumns ≤ 40) (h : liesB f p = true) : InF f p := by
 unfold liesB at h
 simp only [Bool.and_eq_true, decide_eq_true_eq] at h
 obtain ⟨a1, a2, a3, a4, a5, a6⟩ := h
 rw [wrap_in (by omega) (by omega)] at a6
 exact ⟨a1, a2, a3, a5, by omega⟩
theorem meets_in {f : T_api_Form} {x y : T_screen_part} (h2 : f.fColumns ≤ 40) (hx : InF f x) (hy : InF f y) : meetsB x y = true ↔ Meets x y := by
 obtain ⟨a1, a2, a3, a5, a6⟩ := hx
 obtain ⟨b1, b2, b3, b5, b6⟩ := hy
 unfold meetsB Meets
 rw [wrap_in (by omega) (by omega), wrap_in (by omega) (by omega)]
 simp only [Bool.and_eq_true, decide_eq_true_eq, beq_iff_eq]
theorem pairs_of {α : Type} {l : List α} {r : α → α → Bool} (h : anyB (at' l fun x => false) l.length = false → True) (hb : ∀ j (hj : j < l.length), (l.take j).any (r l[j]) = false) : l.Pairwise (fun x y => r y x = false) := by
 rw [List.pairwise_iff_getElem]
 intro i j hi hj hij
 have h1 := hb j hj
 rw [List.any_eq_false] at h1
 have h2 := h1 l[i] (by
  rw [List.mem_take_iff_getElem]
  exact ⟨i, by omega, rfl⟩)
 simpa using h2
theorem okF_form {f : T_api_Form} (h : okF f = true) : OkForm f := by
 unfold okF at h
 simp only [Bool.and_eq_true, Bool.not_eq_true', decide_eq_true_eq] at h
 obtain ⟨h1, h2, h3, h4, h5, h6⟩ := h
 unfold hdrBad at h1
 simp only [Bool.or_eq_false_iff, decide_eq_false_iff_not] at h1
 obtain ⟨g1, g2, g3, g4, g5⟩ := h1
 have hc1 : 10 ≤ f.fColumns := by omega
 have hc2 : f.fColumns ≤ 40 := by omega
 have hm : ∀ m ∈ f.fMarks, textOk m.fText = true ∧ InF f (partM m) := by
  intro m hm
  rw [List.any_eq_false] at h4
  have := h4 m hm
  unfold badM at this
  simp only [Bool.or_eq_true, decide_eq_true_eq, Bool.not_eq_true', not_or, Bool.not_eq_false] at this
  exact ⟨this.2.1, liesB_in hc1 hc2 this.2.2⟩
 have hs : ∀ j (hj : j < f.fFields.length), slotB f.fFields[j] = true ∧ (f.fFields.take j).any (clashB f.fFields[j]) = false := by
  intro j hj
  have := anyB_false.1 h2 j hj
  unfold badSlot at this
  rw [at'_eq hj] at this
  simp only [Bool.or_eq_false_iff, Bool.not_eq_false'] at this
  exact this
 have hf : ∀ s ∈ f.fFields, slotB s = true ∧ InF f (partF s) := by
  intro s hss
  rw [List.any_eq_false] at h5
  have := h5 s hss
  simp only [Bool.not_eq_true', Bool.not_eq_false] at this
  obtain ⟨j, hj, rfl⟩ := List.getElem_of_mem hss
  exact ⟨(hs j hj).1, liesB_in hc1 hc2 this⟩
 have hin : ∀ p ∈ partsF f, InF f p := by
  intro p hp
  unfold partsF at hp
  rw [List.mem_append, List.mem_map, List.mem_map] at hp
  rcases hp with ⟨m, hm', rfl⟩ | ⟨s, hs', rfl⟩
  ·exact (hm m hm').2
  ·exact (hf s hs').2
 refine ⟨by omega, by omega, hc1, hc2, by omega, by omega, hm, hf, pairs_of (fun _ => trivial) (fun j hj => (hs j hj).2), ?_⟩
 rw [List.pairwise_iff_getElem]
 intro i j hi hj hij hM
 have := anyB_false.1 h6 j hj
 unfold badPart at this
 rw [at'_eq hj, List.any_eq_false] at this
 refine this (partsF f)[i] ?_ ((meets_in hc2 (hin _ (List.getElem_mem hj)) (hin _ (List.getElem_mem hi))).2 hM)
 rw [List.mem_take_iff_getElem]
 exact ⟨i, by omega, rfl⟩
def fillL (s : Str) (n : Nat) (c : UInt8) : Str := s.take n ++ List.replicate (n - s.length) c
def fillC (s : T_api_Slot) : UInt8 := UInt8.ofNat s.fFill.toNat
theorem length_fillL (s : Str) (n : Nat) (c : UInt8) : (fillL s n c).length = n := by
 unfold fillL; simp; try omega
theorem strB_one (n : Int) : strB [n] = [UInt8.ofNat n.toNat] := rfl
theorem flatten_one (n : Nat) (c : UInt8) : (List.replicate n [c]).flatten = List.replicate n c := by
 induction n with
 | zero => rfl
 | succ n ih => rw [List.replicate_succ, List.flatten_cons, ih, List.replicate_succ]; rfl
theorem repS_one {n : Nat} (h : n ≤ 1000000) (c : UInt8) : repS [c] (n : Int) = some (List.replicate n c) := by
 unfold repS
 rw [if_pos ⟨by omega, by omega, by simp⟩]
 simp [flatten_one]
theorem screen_filled_ok {k n : Nat} (hk : 2 ≤ k) {s : T_api_Slot} {t : Str} (hn : s.fBytes = (n : Int)) (h : n ≤ 40) : screen_filled k s t = some (fillL t n (fillC s)) := by
 obtain ⟨k, rfl, hq⟩ := succ_of (c := 1) hk
 obtain ⟨k, rfl, _⟩ := succ_of (c := 0) hq
 simp only [screen_filled, hn]
 by_cases hc : n ≤ t.length
 ·rw [show decide ((t.length : Int) ≥ (n : Int)) = true by simp; omega, cond_true, cut_take hc]
  unfold fillL
  rw [show n - t.length = 0 by omega]
  simp
 ·rw [show decide ((t.length : Int) ≥ (n : Int)) = false by simp; omega, cond_false, strings_Repeat, strB_one, wrap_in (by omega) (by omega), show (n : Int) - (t.length : Int) = ((n - t.length : Nat) : Int) by omega, repS_one (by omega)]
  simp only [Option.bind_some]
  rw [cat_ok (by simp; unfold maxList; omega)]
  unfold fillL
  rw [List.take_of_length_le (by omega)]
  rfl
theorem clone_string_ok {k : Nat} (hk : 2 ≤ k) {p : List Str} (h0 : p ≠ []) (hp : p.length ≤ maxList) : slices_Clone_string k p = some p := by
 obtain ⟨k, rfl, hq⟩ := succ_of (c := 1) hk
 cases p with
 | nil => exact absurd rfl h0
 | cons y l =>
  simp only [slices_Clone_string, slices_Clone_string_c]
  rw [app_ok (by simpa using hp)]
  rfl
theorem screen_laid_ok {k R C row c : Nat} (hk : 3 ≤ k) {p : List Str} {s : Str} {a b : Int} (ha : a = (row : Int)) (hb : b = (c : Int)) (h : Sized R C p) (hR : R ≤ 12) (hr : row < R) (hc : c + s.length ≤ C) (hC : C ≤ 1000000) : screen_laid k p a b s = some (laidL p row c s) := by
 obtain ⟨k, rfl, hq⟩ := succ_of (c := 2) hk
 subst ha; subst hb
 simp only [screen_laid]
 rw [clone_string_ok (by omega) (by intro e; rw [e] at h; have := h.1; simp at this; omega) (by rw [h.1]; unfold maxList; omega), Option.bind_some]
 have := lay_body h hr hc hC
 rw [this]
 rfl
def mx (a b : Int) : Int := if b > a then b else a
def lensF (f : T_api_Form) : Int × Int := f.fFields.foldl (fun s x => (mx s.1 (Go.IntKind.wrap .i64 (x.fIn + 1)), mx s.2 (Go.IntKind.wrap .i64 (x.fOut + 1)))) (0, 0)
theorem screen_lengths_ok {k : Nat} (hk : maxLen + 2 ≤ k) {f : T_api_Form} (hf : f.fFields.length ≤ maxLen) : screen_lengths k f = some (lensF f) := by
 obtain ⟨k, rfl, hq⟩ := succ_of hk
 simp only [screen_lengths]
 refine (foldLoop (l := f.fFields) (L := fun m i (s : Int × Int) => screen_lengths_L1 f (fun y8 y9 y10 => some (y8, y9)) m s.1 s.2 i) (stp := fun s x => (mx s.1 (Go.IntKind.wrap .i64 (x.fIn + 1)), mx s.2 (Go.IntKind.wrap .i64 (x.fOut + 1)))) (K := fun s => some s) (fun _ _ => True) ?_ ?_ (m := k) (by omega) (s0 := (0, 0)) trivial).1
 ·intro m i hi s _
  refine ⟨?_, trivial⟩
  simp only [screen_lengths_L1, lt_dec hi, cond_true, idx_at hi, Option.bind_some, wrap_next hi hf]
  rfl
 ·intro m s _
  simp only [screen_lengths_L1, lt_self, cond_false]
theorem placeB_in {n : Int} (h : placeB n = true) : -1 ≤ n ∧ n < 4 := by
 unfold placeB at h
 simp only [Bool.and_eq_true, decide_eq_true_eq] at h
 exact h
theorem slotB_in {s : T_api_Slot} (h : slotB s = true) : nameOk s.fName = true ∧ (-1 ≤ s.fIn ∧ s.fIn < 4) ∧ (-1 ≤ s.fOut ∧ s.fOut < 4) ∧ (32 ≤ s.fFill ∧ s.fFill ≤ 126) := by
 unfold slotB at h
 simp only [Bool.and_eq_true, decide_eq_true_eq] at h
 exact ⟨h.1, placeB_in h.2.1, placeB_in h.2.2.1, h.2.2.2.1, h.2.2.2.2⟩
theorem lens_fold : ∀ (l : List T_api_Slot) (a : Int × Int), (∀ s ∈ l, slotB s = true) → 0 ≤ a.1 → a.1 ≤ 4 → 0 ≤ a.2 → a.2 ≤ 4 →
  let r := l.foldl (fun s x => (mx s.1 (Go.IntKind.wrap .i64 (x.fIn + 1)), mx s.2 (Go.IntKind.wrap .i64 (x.fOut + 1)))) a
  a.1 ≤ r.1 ∧ a.2 ≤ r.2 ∧ r.1 ≤ 4 ∧ r.2 ≤ 4 ∧ ∀ s ∈ l, s.fIn + 1 ≤ r.1 ∧ s.fOut + 1 ≤ r.2
 | [], a, _, h1, h2, h3, h4 => ⟨Int.le_refl _, Int.le_refl _, h2, h4, fun s hs => by cases hs⟩
 | x :: l, a, h, h1, h2, h3, h4 => by
  obtain ⟨_, ⟨i1, i2⟩, ⟨o1, o2⟩, _⟩ := slotB_in (h x (List.mem_cons_self ..))
  have e1 : Go.IntKind.wrap .i64 (x.fIn + 1) = x.fIn + 1 := wrap_in (by omega) (by omega)
  have e2 : Go.IntKind.wrap .i64 (x.fOut + 1) = x.fOut + 1 := wrap_in (by omega) (by omega)
  simp only [List.foldl_cons, e1, e2]
  have m1 : a.1 ≤ mx a.1 (x.fIn + 1) ∧ x.fIn + 1 ≤ mx a.1 (x.fIn + 1) ∧ mx a.1 (x.fIn + 1) ≤ 4 := by unfold mx; split <;> omega
  have m2 : a.2 ≤ mx a.2 (x.fOut + 1) ∧ x.fOut + 1 ≤ mx a.2 (x.fOut + 1) ∧ mx a.2 (x.fOut + 1) ≤ 4 := by unfold mx; split <;> omega
  obtain ⟨r1, r2, r3, r4, r5⟩ := lens_fold l (mx a.1 (x.fIn + 1), mx a.2 (x.fOut + 1)) (fun s hs => h s (List.mem_cons_of_mem _ hs)) (by omega) m1.2.2 (by omega) m2.2.2
  refine ⟨by omega, by omega, r3, r4, fun s hs => ?_⟩
  rcases List.mem_cons.1 hs with rfl | hs
  ·constructor <;> omega
  ·exact r5 s hs
theorem OkForm.lens {f : T_api_Form} (h : OkForm f) : 0 ≤ (lensF f).1 ∧ (lensF f).1 ≤ 4 ∧ 0 ≤ (lensF f).2 ∧ (lensF f).2 ≤ 4 ∧ ∀ s ∈ f.fFields, s.fIn < (lensF f).1 ∧ s.fOut < (lensF f).2 := by
 obtain ⟨r1, r2, r3, r4, r5⟩ := lens_fold f.fFields (0, 0) (fun s hs => (h.fd s hs).1) (by simp) (by simp) (by simp) (by simp)
 exact ⟨r1, r3, r2, r4, fun s hs => by have := r5 s hs; unfold lensF; omega⟩
def layP (p : List Str) (x : T_screen_part) (s : Str) : List Str := laidL p x.frow.toNat x.fcolumn.toNat s
def textOf (s : T_api_Slot) (l : List Str) : Str := if 0 ≤ s.fOut then l.getD s.fOut.toNat [] else []
def fldT (s : T_api_Slot) (l : List Str) : Str := fillL (textOf s l) s.fBytes.toNat (fillC s)
def baseL (f : T_api_Form) : List Str := List.replicate f.fRows.toNat (List.replicate f.fColumns.toNat 32)
def markedL (f : T_api_Form) : List Str := f.fMarks.foldl (fun p m => layP p (partM m) m.fText) (baseL f)
def showL (f : T_api_Form) (l : List Str) : List Str := f.fFields.foldl (fun p s => layP p (partF s) (fldT s l)) (markedL f)
def SizedF (f : T_api_Form) (p : List Str) : Prop := Sized f.fRows.toNat f.fColumns.toNat p
theorem sized_base (f : T_api_Form) : SizedF f (baseL f) := by
 refine ⟨by unfold baseL; simp, fun r hr => ?_⟩
 unfold baseL at hr
 rw [List.eq_of_mem_replicate hr]
 simp
theorem SizedF.lay {f : T_api_Form} {p : List Str} (h : SizedF f p) {x : T_screen_part} {s : Str} (hx : InF f x) (hs : (s.length : Int) = x.fn) : SizedF f (layP p x s) := by
 obtain ⟨a1, a2, a3, a5, a6⟩ := hx
 exact Sized.laid h (by omega)
theorem fold_sized {α : Type} {f : T_api_Form} (g : α → T_screen_part) (t : α → Str) : ∀ (l : List α) (p : List Str), SizedF f p → (∀ a ∈ l, InF f (g a) ∧ ((t a).length : Int) = (g a).fn) → SizedF f (l.foldl (fun p a => layP p (g a) (t a)) p)
 | [], p, h, _ => h
 | a :: l, p, h, ha => by
  rw [List.foldl_cons]
  exact fold_sized g t l _ (h.lay (ha a (List.mem_cons_self ..)).1 (ha a (List.mem_cons_self ..)).2) (fun b hb => ha b (List.mem_cons_of_mem _ hb))
theorem length_fldT {f : T_api_Form} (h : OkForm f) {s : T_api_Slot} (hs : s ∈ f.fFields) (l : List Str) : ((fldT s l).length : Int) = (partF s).fn := by
 obtain ⟨_, a1, a2, a3, a5, a6⟩ := h.fd s hs
 unfold fldT
 rw [length_fillL]
 simp only [partF] at *
 omega
theorem sized_marked {f : T_api_Form} (h : OkForm f) : SizedF f (markedL f) :=
 fold_sized partM (fun m => m.fText) f.fMarks _ (sized_base f) (fun m hm => ⟨(h.mark m hm).2, rfl⟩)
theorem lays_ok {f : T_api_Form} (h : OkForm f) {p : List Str} (hp : SizedF f p) {x : T_screen_part} {s : Str} (hx : InF f x) (hs : (s.length : Int) = x.fn) {k : Nat} (hk : 3 ≤ k) : screen_laid k p x.frow x.fcolumn s = some (layP p x s) := by
 obtain ⟨a1, a2, a3, a5, a6⟩ := hx
 have := h.r2
 have := h.c2
 exact screen_laid_ok hk (by omega) (by omega) hp (by omega) (by omega) (by omega) (by omega)
theorem fields_len {f : T_api_Form} (h : OkForm f) : f.fFields.length ≤ maxLen ∧ f.fMarks.length ≤ maxLen := by
 have := h.f10; have := h.m8; have := maxLen_lt; omega
/-- A message as long as the form wants it. -/
theorem idx_text {f : T_api_Form} (h : OkForm f) {l : List Str} (hl : (l.length : Int) = (lensF f).2) {s : T_api_Slot} (hs : s ∈ f.fFields) (h0 : 0 ≤ s.fOut) : idx l s.fOut = some (textOf s l) := by
 obtain ⟨_, _, _, _, hh⟩ := h.lens
 have := (hh s hs).2
 rw [idx_of h0 (by omega)]
 unfold textOf
 rw [if_pos h0, List.getD_eq_getElem?_getD, List.getElem?_eq_getElem (by omega)]
 rfl
theorem screen_show_ok {k : Nat} (hk : maxLen + 4 ≤ k) {f : T_api_Form} (h : OkForm f) {l : List Str} (hl : (l.length : Int) = (lensF f).2) : screen_show k f l = some (showL f l) := by
 obtain ⟨k, rfl, hq⟩ := succ_of hk
 obtain ⟨hf, hm⟩ := fields_len h
 have hmm := maxLen_lt
 have := h.r1; have := h.r2; have := h.c1; have := h.c2
 simp only [screen_show]
 have e1 : strings_Repeat k ([32] : Str) f.fColumns = some (List.replicate f.fColumns.toNat 32) := by
  obtain ⟨k, rfl, _⟩ := succ_of (c := 0) (show 0 + 1 ≤ k by omega)
  rw [strings_Repeat]
  have := repS_one (n := f.fColumns.toNat) (by omega) 32
  rw [show ((f.fColumns.toNat : Nat) : Int) = f.fColumns by omega] at this
  exact this
 have e2 : slices_Repeat_string k ([List.replicate f.fColumns.toNat 32] : List Str) f.fRows = some (baseL f) := by
  obtain ⟨k, rfl, _⟩ := succ_of (c := 0) (show 0 + 1 ≤ k by omega)
  rw [slices_Repeat_string]
  unfold repL
  simp only
  rw [if_pos ⟨by omega, by omega⟩]
  rfl
 simp only [e1, e2, Option.bind_some]
 refine Eq.trans (foldLoop (l := f.fMarks) (L := fun m i (s : List Str) => screen_show_L1 k f _ m s i) (stp := fun p m => layP p (partM m) m.fText) (K := fun s => screen_show_L2 k f l (fun y38 y39 => some y38) k s 0) (fun _ p => SizedF f p) ?_ ?_ (m := k) (by omega) (s0 := baseL f) (sized_base f)).1 ?_
 ·intro m i hi s hs
  have hmi := h.mark _ (List.getElem_mem hi)
  have hlay := lays_ok h hs hmi.2 rfl (show 3 ≤ k by omega)
  refine ⟨?_, hs.lay hmi.2 rfl⟩
  simp only [screen_show_L1, lt_dec hi, cond_true, idx_at hi, Option.bind_some, wrap_next hi hm]
  simp only [partM] at hlay
  rw [hlay]
  rfl
 ·intro m s hs
  simp only [screen_show_L1, lt_self, cond_false]
 ·refine (foldLoop (l := f.fFields) (L := fun m i (s : List Str) => screen_show_L2 k f l _ m s i) (stp := fun p s => layP p (partF s) (fldT s l)) (K := fun s => some s) (fun _ p => SizedF f p) ?_ ?_ (m := k) (by omega) (s0 := markedL f) (sized_marked h)).1
  ·intro m i hi s hs
   have hmem := List.getElem_mem hi
   have hfi := h.fd _ hmem
   have hln := length_fldT h hmem l
   have hlay := lays_ok h hs hfi.2 hln (show 3 ≤ k by omega)
   refine ⟨?_, hs.lay hfi.2 hln⟩
   obtain ⟨_, a1, a2, a3, a5, a6⟩ := hfi
   simp only [partF] at a1 a2 a3 a5 a6 hlay
   simp only [screen_show_L2, lt_dec hi, cond_true, idx_at hi, Option.bind_some, wrap_next hi hf]
   have hfl : ∀ t, screen_filled k f.fFields[i] t = some (fillL t f.fFields[i].fBytes.toNat (fillC f.fFields[i])) := fun t => screen_filled_ok (by omega) (by omega) (by omega)
   by_cases h0 : 0 ≤ f.fFields[i].fOut
   ·rw [show decide (f.fFields[i].fOut ≥ 0) = true by simp; omega, cond_true, idx_text h hl hmem h0]
    simp only [Option.bind_some, hfl]
    unfold fldT at hlay ⊢
    rw [hlay]
    rfl
   ·rw [show decide (f.fFields[i].fOut ≥ 0) = false by simp; omega, cond_false]
    simp only [Option.bind_some, hfl]
    unfold fldT textOf at hlay ⊢
    rw [if_neg h0] at hlay ⊢
    rw [hlay]
    rfl
  ·intro m s hs
   simp only [screen_show_L2, lt_self, cond_false]
end Go.Sh

namespace Go.Sh
open Go.AE
set_option linter.unusedVariables false
set_option linter.unusedSimpArgs false
theorem indexFunc_stringv {k : Nat} {l : List Str} {p : Str → Bool} {f : Nat → Str → Option Bool} (hk : l.length + 2 ≤ k) (hn : l.length ≤ maxLen) (hp : ∀ k', k' + 1 = k → ∀ x ∈ l, f k' x = some (p x)) : slices_IndexFunc_string_v10 k l f = some (pos l p) := by
 obtain ⟨k, rfl, hq⟩ := succ_of hk
 exact indexFunc_gen (hp k rfl) (L := fun m x => slices_IndexFunc_string_v10_L1 k l f _ m x) (fun m x => rfl) rfl hn (by omega)
theorem containsFunc_stringv {k : Nat} {l : List Str} {p : Str → Bool} {f : Nat → Str → Option Bool} (hk : l.length + 3 ≤ k) (hn : l.length ≤ maxLen) (hp : ∀ k', k' + 2 = k → ∀ x ∈ l, f k' x = some (p x)) : slices_ContainsFunc_string_v10 k l f = some (l.any p) := by
 obtain ⟨k, rfl, hq⟩ := succ_of hk
 simp only [slices_ContainsFunc_string_v10, indexFunc_stringv hq hn (fun k' e => hp k' (by omega)), Option.bind_some, pos_any]
theorem indexFunc_string {k : Nat} {l : List Str} {p : Str → Bool} {f : Nat → Str → Option Bool} (hk : l.length + 2 ≤ k) (hn : l.length ≤ maxLen) (hp : ∀ k', k' + 1 = k → ∀ x ∈ l, f k' x = some (p x)) : slices_IndexFunc_string k l f = some (pos l p) := by
 obtain ⟨k, rfl, hq⟩ := succ_of hk
 exact indexFunc_gen (hp k rfl) (L := fun m x => slices_IndexFunc_string_L1 k l f _ m x) (fun m x => rfl) rfl hn (by omega)
theorem containsFunc_string {k : Nat} {l : List Str} {p : Str → Bool} {f : Nat → Str → Option Bool} (hk : l.length + 3 ≤ k) (hn : l.length ≤ maxLen) (hp : ∀ k', k' + 2 = k → ∀ x ∈ l, f k' x = some (p x)) : slices_ContainsFunc_string k l f = some (l.any p) := by
 obtain ⟨k, rfl, hq⟩ := succ_of hk
 simp only [slices_ContainsFunc_string, indexFunc_string hq hn (fun k' e => hp k' (by omega)), Option.bind_some, pos_any]
theorem wf_fields {f : T_api_Form} (h : wf_T_api_Form f) : f.fFields.length ≤ maxLen := h.2.2.2.1.1
def badT (s : Str) : Bool := decide ((s.length : Int) > 200) || !textOk s
def msgOk (f : T_api_Form) (l : List Str) : Bool := ((l.length : Int) == (lensF f).2) && !l.any badT
theorem shows1_ok {k : Nat} (hk : maxLen + 5 ≤ k) {s : Str} (hs : wfS s) : screen_shows_1 k s = some (badT s) := by
 obtain ⟨k, rfl, hq⟩ := succ_of hk
 simp only [screen_shows_1, screen_isText_ok (show maxLen + 4 ≤ k by omega) hs, Option.bind_some, badT]
 cases decide ((s.length : Int) > 200) <;> rfl
theorem screen_shows_ok {k : Nat} (hk : maxLen + 24 ≤ k) {f : T_api_Form} (hw : wf_T_api_Form f) {l : List Str} (hl : wfL wfS l) : screen_shows k f l = some (bif okF f then (bif msgOk f l then 0 else 2) else 220) := by
 obtain ⟨k, rfl, hq⟩ := succ_of hk
 have hl1 := hl.1
 have hc : slices_ContainsFunc_string_v10 k l (fun j x0 => screen_shows_1 j x0) = some (l.any badT) := containsFunc_stringv (by omega) hl1 (fun k' e x hx => shows1_ok (by omega) (hl.2 x hx))
 simp only [screen_shows, screen_Valid_ok (show maxLen + 20 ≤ k by omega) hw, screen_lengths_ok (show maxLen + 2 ≤ k by omega) (wf_fields hw), hc, Option.bind_some, msgOk]
 have e : ((l.length : Int) != (lensF f).2) = !((l.length : Int) == (lensF f).2) := rfl
 rw [e]
 cases okF f <;> cases ((l.length : Int) == (lensF f).2) <;> cases l.any badT <;> rfl
def ShowS (f : T_api_Form) (l : List Str) : List Str × Int := bif okF f then (bif msgOk f l then (showL f l, 0) else ([], 2)) else ([], 220)
theorem msg_len {f : T_api_Form} {l : List Str} (h : msgOk f l = true) : (l.length : Int) = (lensF f).2 := by
 unfold msgOk at h
 simp only [Bool.and_eq_true, beq_iff_eq] at h
 exact h.1
theorem screen_Show_ok {k : Nat} (hk : maxLen + 26 ≤ k) {f : T_api_Form} (hw : wf_T_api_Form f) {l : List Str} (hl : wfL wfS l) : screen_Show k f l = some (ShowS f l) := by
 obtain ⟨k, rfl, hq⟩ := succ_of hk
 simp only [screen_Show, screen_shows_ok (show maxLen + 24 ≤ k by omega) hw hl, Option.bind_some, ShowS]
 cases ho : okF f with
 | false => rfl
 | true =>
  cases hm : msgOk f l with
  | false => rfl
  | true =>
   simp only [cond_true, screen_show_ok (show maxLen + 4 ≤ k by omega) (okF_form ho) (msg_len hm)]
   rfl
def badR (f : T_api_Form) (s : Str) : Bool := ((s.length : Int) != f.fColumns) || !textOk s
def sizedB (f : T_api_Form) (p : List Str) : Bool := ((p.length : Int) == f.fRows) && !p.any (badR f)
theorem fits1_ok {k : Nat} (hk : maxLen + 5 ≤ k) {s : Str} (hs : wfS s) (f : T_api_Form) : screen_fits_1 k s f = some (badR f s) := by
 obtain ⟨k, rfl, hq⟩ := succ_of hk
 simp only [screen_fits_1, screen_isText_ok (show maxLen + 4 ≤ k by omega) hs, Option.bind_some, badR]
 cases ((s.length : Int) != f.fColumns) <;> rfl
theorem screen_fits_ok {k : Nat} (hk : maxLen + 10 ≤ k) {f : T_api_Form} {p : List Str} (hp : wfL wfS p) : screen_fits k f p = some (sizedB f p) := by
 obtain ⟨k, rfl, hq⟩ := succ_of hk
 have hp1 := hp.1
 have hc : slices_ContainsFunc_string k p (fun j x0 => screen_fits_1 j x0 f) = some (p.any (badR f)) := containsFunc_string (by omega) hp1 (fun k' e x hx => fits1_ok (by omega) (hp.2 x hx) f)
 simp only [screen_fits, hc, Option.bind_some, sizedB]
 cases ((p.length : Int) == f.fRows) <;> rfl
theorem screen_pictured_ok {k : Nat} (hk : maxLen + 24 ≤ k) {f : T_api_Form} (hw : wf_T_api_Form f) {p : List Str} (hp : wfL wfS p) : screen_pictured k f p = some (bif okF f then (bif sizedB f p then 0 else 2) else 220) := by
 obtain ⟨k, rfl, hq⟩ := succ_of hk
 simp only [screen_pictured, screen_Valid_ok (show maxLen + 20 ≤ k by omega) hw, screen_fits_ok (show maxLen + 10 ≤ k by omega) hp, Option.bind_some]
 cases okF f <;> cases sizedB f p <;> rfl
theorem sizedB_sized {f : T_api_Form} {p : List Str} (h : sizedB f p = true) : SizedF f p ∧ ∀ r ∈ p, textOk r = true := by
 unfold sizedB at h
 simp only [Bool.and_eq_true, beq_iff_eq, Bool.not_eq_true', List.any_eq_false] at h
 have h2 : ∀ r ∈ p, (r.length : Int) = f.fColumns ∧ textOk r = true := by
  intro r hr
  have := h.2 r hr
  unfold badR at this
  simp only [Bool.or_eq_true, bne_iff_ne, ne_eq, Bool.not_eq_true', not_or, Decidable.not_not, Bool.not_eq_false] at this
  exact this
 exact ⟨⟨by omega, fun r hr => by have := (h2 r hr).1; omega⟩, fun r hr => (h2 r hr).2⟩
def stripR (s : Str) (c : Int) : Str := (s.reverse.dropWhile (fun b => (b.toNat : Int) == c)).reverse
theorem screen_Take_L2_ok {o : T_api_Slot} {K : Str → Option (List Str × Int)} : ∀ (n : Nat) (s : Str) (m : Nat), s.length = n → n ≤ 1000 → n < m → screen_Take_L2 o K m s = K (stripR s o.fFill)
 | 0, s, m, hn, _, hm => by
  obtain ⟨m, rfl⟩ : ∃ q, m = q + 1 := ⟨m - 1, by omega⟩
  obtain rfl := List.eq_nil_of_length_eq_zero hn
  rfl
 | n + 1, s, m, hn, hb, hm => by
  obtain ⟨m, rfl⟩ : ∃ q, m = q + 1 := ⟨m - 1, by omega⟩
  rcases List.eq_nil_or_concat s with rfl | ⟨t, b, rfl⟩
  ·simp at hn
  ·rw [List.concat_eq_append] at hn ⊢
   have hl : (t ++ [b]).length = t.length + 1 := by simp
   have ht : t.length = n := by omega
   have e1 : Go.IntKind.wrap .i64 (((t ++ [b]).length : Int) - 1) = (t.length : Int) := by rw [wrap_in] <;> omega
   have e2 : idxS (t ++ [b]) (t.length : Int) = some (b.toNat : Int) := by rw [idxS_at (by omega)]; simp
   have e3 : cut (t ++ [b]) 0 (t.length : Int) = some t := by rw [cut_take (by omega)]; simp
   simp only [screen_Take_L2, show decide (((t ++ [b]).length : Int) > 0) = true by simp, cond_true, e1, e2, e3, Option.bind_some]
   unfold stripR
   rw [List.reverse_append]
   show _ = K (List.dropWhile _ (b :: t.reverse)).reverse
   rw [List.dropWhile_cons]
   cases hc : ((b.toNat : Int) == o.fFill) with
   | true =>
    simp only [cond_true, if_true]
    exact screen_Take_L2_ok n t m ht (by omega) (by omega)
   | false => simp
def cutF (p : List Str) (s : T_api_Slot) : Str := (((p.getD s.fRow.toNat []).take (s.fColumn.toNat + s.fBytes.toNat)).drop s.fColumn.toNat)
def takeStep (p : List Str) (out : List Str) (s : T_api_Slot) : List Str := if s.fIn < 0 then out else out.set s.fIn.toNat (stripR (cutF p s) s.fFill)
def takeL (f : T_api_Form) (p : List Str) : List Str := f.fFields.foldl (takeStep p) (List.replicate (lensF f).1.toNat [])
theorem cutF_ok {f : T_api_Form} (h : OkForm f) {p : List Str} (hp : SizedF f p) {s : T_api_Slot} (hs : s ∈ f.fFields) : ((idx p s.fRow).bind fun v29 => (cut v29 s.fColumn (Go.IntKind.wrap .i64 (s.fColumn + s.fBytes)))) = some (cutF p s) ∧ ((cutF p s).length : Int) = s.fBytes := by
 obtain ⟨_, a1, a2, a3, a5, a6⟩ := h.fd s hs
 simp only [partF] at a1 a2 a3 a5 a6
 have := h.c2
 obtain ⟨r, hr1, hr2⟩ := Sized.get hp (i := s.fRow.toNat) (by omega)
 have hri : s.fRow.toNat < p.length := by rw [hp.1]; omega
 have e : idx p s.fRow = some r := by unfold idx; rw [if_pos a1, hr1]
 have eg : p.getD s.fRow.toNat [] = r := by rw [List.getD_eq_getElem?_getD, hr1]; rfl
 rw [e, Option.bind_some, wrap_in (by omega) (by omega)]
 unfold cutF
 rw [eg]
 constructor
 ·have e1 : s.fColumn = ((s.fColumn.toNat : Nat) : Int) := by omega
  have e2 : s.fColumn + s.fBytes = ((s.fColumn.toNat + s.fBytes.toNat : Nat) : Int) := by omega
  rw [e2]
  conv => lhs; rw [e1]
  exact cut_in (by omega) (by omega)
 ·simp; omega
theorem screen_Take_loop {k : Nat} (hk : 1002 ≤ k) {f : T_api_Form} (h : OkForm f) {p : List Str} (hp : SizedF f p) : screen_Take_L1 k f p (fun y45 y46 => some (y46, 0)) k 0 (List.replicate (lensF f).1.toNat []) = some (takeL f p, 0) := by
 obtain ⟨hf, hm⟩ := fields_len h
 have hf10 := h.f10
 obtain ⟨l1, l2, _, _, l5⟩ := h.lens
 refine (foldLoop (l := f.fFields) (L := fun m i (s : List Str) => screen_Take_L1 k f p (fun y45 y46 => some (y46, 0)) m i s) (stp := takeStep p) (K := fun s => some (s, 0)) (fun _ s => s.length = (lensF f).1.toNat) ?_ ?_ (m := k) (by omega) (s0 := List.replicate (lensF f).1.toNat []) (by simp)).1
 ·intro m i hi s hs
  have hmem := List.getElem_mem hi
  obtain ⟨c1, c2⟩ := cutF_ok h hp hmem
  obtain ⟨_, a1, a2, a3, a5, a6⟩ := h.fd _ hmem
  simp only [partF] at a1 a2 a3 a5 a6
  have := h.c2
  have := (l5 _ hmem).1
  simp only [screen_Take_L1, lt_dec hi, cond_true, idx_at hi, Option.bind_some, wrap_next hi hf]
  unfold takeStep
  by_cases h0 : f.fFields[i].fIn < 0
  ·rw [show decide (f.fFields[i].fIn < 0) = true by simp; omega, cond_true, if_pos h0]
   exact ⟨rfl, hs⟩
  ·rw [show decide (f.fFields[i].fIn < 0) = false by simp; omega, cond_false, if_neg h0, c1, Option.bind_some, screen_Take_L2_ok (cutF p f.fFields[i]).length _ _ rfl (by omega) (by omega)]
   have hB : inB s.length f.fFields[i].fIn = some () := by unfold inB; rw [if_pos ⟨by omega, by omega⟩]
   have hg : s[0 + f.fFields[i].fIn.toNat]? = some (s[f.fFields[i].fIn.toNat]'(by omega)) := by rw [Nat.zero_add, List.getElem?_eq_getElem]
   rw [Nat.zero_add] at hg
   simp only [hB, Option.bind_some, Nat.zero_add, hg]
   exact ⟨trivial, by simp [hs]⟩
 ·intro m s hs
  simp only [screen_Take_L1, lt_self, cond_false]
def TakeS (f : T_api_Form) (p : List Str) : List Str × Int := bif okF f then (bif sizedB f p then (takeL f p, 0) else ([], 2)) else ([], 220)
theorem mkN_ok {α : Type} (z : α) {n : Int} (h0 : 0 ≤ n) (h : n ≤ 1000000) : mkN z n = some (List.replicate n.toNat z) := by
 unfold mkN
 rw [if_pos ⟨h0, by unfold maxList; omega⟩]
theorem screen_Take_ok {k : Nat} (hk : maxLen + 26 ≤ k) {f : T_api_Form} (hw : wf_T_api_Form f) {p : List Str} (hp : wfL wfS p) : screen_Take k f p = some (TakeS f p) := by
 obtain ⟨k, rfl, hq⟩ := succ_of hk
 have hmm := maxLen_lt
 simp only [screen_Take, screen_pictured_ok (show maxLen + 24 ≤ k by omega) hw hp, Option.bind_some, TakeS]
 cases ho : okF f with
 | false => rfl
 | true =>
  cases hs : sizedB f p with
  | false => rfl
  | true =>
   have h := okF_form ho
   obtain ⟨l1, l2, _, _, _⟩ := h.lens
   simp only [cond_true, screen_lengths_ok (show maxLen + 2 ≤ k by omega) (wf_fields hw), Option.bind_some, mkN_ok ([] : Str) l1 (by omega), screen_Take_loop (show 1002 ≤ k by omega) h (sizedB_sized hs).1]
   rfl
theorem eqB {α : Type} [DecidableEq α] {a b : List α} (hl : a.length = b.length) : anyB (fun i => !(decide (a[i]? = b[i]?))) a.length = !decide (a = b) := by
 by_cases h : a = b
 ·subst h
  rw [anyB_false.2 (fun i _ => by simp)]
  simp
 ·have : ∃ i, i < a.length ∧ a[i]? ≠ b[i]? := by
   refine Classical.byContradiction fun hn => h ?_
   refine List.ext_getElem? fun i => ?_
   refine Classical.byContradiction fun hc => ?_
   by_cases hi : i < a.length
   ·exact hn ⟨i, hi, hc⟩
   ·exact hc (by rw [List.getElem?_eq_none (by omega), List.getElem?_eq_none (by omega)])
  obtain ⟨i, hi, hne⟩ := this
  rw [anyB_iff.2 ⟨i, hi, by simp [hne]⟩]
  simp [h]
theorem sameTexts_ok {k : Nat} {a b : List Str} (hk : maxLen + 2 ≤ k) (ha : a.length ≤ maxLen) : ref01_SameTexts k a b = some (decide (a = b)) := by
 obtain ⟨k, rfl, hq⟩ := succ_of hk
 simp only [ref01_SameTexts]
 by_cases hl : a.length = b.length
 ·rw [show ((a.length : Int) != (b.length : Int)) = false by simp; omega, cond_false]
  refine Eq.trans (anyLoop (n := a.length) (L := fun m x => ref01_SameTexts_L1 a b (fun y8 => some true) m x) (body := fun x4 => ((idx a x4).bind fun v5 => ((idx b x4).bind fun v6 => (some ((!(v5 == v6))))))) (K := fun _ => some true) (r := some false) (z := some true) (g := fun i => !(decide (a[i]? = b[i]?)))
   (fun m x => rfl) (fun i hi _ => ?_) (fun _ => rfl) ha (m := k) (by omega)) ?_
  ·rw [idx_at hi, Option.bind_some, idx_at (show i < b.length by omega), Option.bind_some, List.getElem?_eq_getElem hi, List.getElem?_eq_getElem (show i < b.length by omega)]
   congr 2
   by_cases e : a[i] = b[i] <;> simp [e]
  ·rw [eqB hl]
   cases decide (a = b) <;> rfl
 ·rw [show ((a.length : Int) != (b.length : Int)) = true by simp; omega, cond_true]
  have : a ≠ b := fun e => hl (by rw [e])
  simp [this]
def awF : T_api_Form := { fRows := 2, fColumns := 20, fMarks := ([({ fRow := 0, fColumn := 0, fText := ([78, 65, 77, 69, 58] : Str) } : T_api_Mark)] : List T_api_Mark), fFields := ([({ fName := ([65] : Str), fRow := 0, fColumn := 6, fBytes := 5, fIn := 0, fOut := 0, fFill := 95 } : T_api_Slot)] : List T_api_Slot) }
theorem wfS_small {s : Str} (h : s.length ≤ 1000) : wfS s := by
 unfold wfS
 rw [maxLen_lt]
 omega
theorem wf_awF : wf_T_api_Form awF := by
 refine ⟨by unfold wfI; decide, by unfold wfI; decide, ⟨by simp [awF, maxLen_lt], fun m hm => ?_⟩, ⟨by simp [awF, maxLen_lt], fun s hs => ?_⟩, trivial⟩
 ·simp only [awF, List.mem_cons, List.not_mem_nil, or_false] at hm
  subst hm
  exact ⟨by unfold wfI; decide, by unfold wfI; decide, wfS_small (by simp), trivial⟩
 ·simp only [awF, List.mem_cons, List.not_mem_nil, or_false] at hs
  subst hs
  exact ⟨wfS_small (by simp), by unfold wfI; decide, by unfold wfI; decide, by unfold wfI; decide, by unfold wfI; decide, by unfold wfI; decide, by unfold wfI; decide, trivial⟩
theorem awake_ok {k : Nat} (hk : maxLen + 30 ≤ k) : law24_Awake k = some true := by
 obtain ⟨k, rfl, hq⟩ := succ_of hk
 have h1 : screen_Show k awF [[65, 66]] = some ([[78, 65, 77, 69, 58, 32, 65, 66, 95, 95, 95, 32, 32, 32, 32, 32, 32, 32, 32, 32], List.replicate 20 32], 0) := by
  rw [screen_Show_ok (by omega) wf_awF ⟨by simp [maxLen_lt], fun s hs => by simp at hs; subst hs; exact wfS_small (by simp)⟩]
  decide +kernel
 have h2 : screen_Take k awF [[78, 65, 77, 69, 58, 32, 65, 66, 95, 95, 95, 32, 32, 32, 32, 32, 32, 32, 32, 32], List.replicate 20 32] = some ([[65, 66]], 0) := by
  rw [screen_Take_ok (by omega) wf_awF ⟨by simp [maxLen_lt], fun s hs => by simp at hs; rcases hs with rfl | rfl <;> exact wfS_small (by simp)⟩]
  decide +kernel
 have h3 : ref01_SameTexts k [[65, 66]] [[65, 66]] = some true := by
  rw [sameTexts_ok (by omega) (by simp [maxLen_lt])]
  rfl
 unfold awF at h1 h2
 simp only [law24_Awake, h1, Option.bind_some, h2, h3]
 rfl
theorem large_ok {k : Nat} (hk : maxLen + 3 ≤ k) {f : T_api_Form} (hw : wf_T_api_Form f) : ∃ b, law24_Large k f = some b := by
 obtain ⟨k, rfl, hq⟩ := succ_of hk
 simp only [law24_Large]
 have h2 : ∃ b, law24_Large_L2 f (fun y13 => some false) k 0 = some b := by
  refine ⟨bif anyB (at' f.fFields (fun s => decide ((s.fName.length : Int) > 100))) f.fFields.length then true else false, ?_⟩
  refine Eq.trans (anyLoop (n := f.fFields.length) (L := fun m x => law24_Large_L2 f (fun y13 => some false) m x) (body := fun x10 => ((idx f.fFields x10).bind fun v11 => (some ((decide ((v11.fName.length : Int) > 100)))))) (K := fun _ => some false) (r := some true) (z := some false) (g := at' f.fFields (fun s => decide ((s.fName.length : Int) > 100)))
   (fun m x => rfl) (fun i hi _ => by rw [at'_eq hi, idx_at hi]; rfl) (fun _ => rfl) hw.2.2.2.1.1 (m := k) (by have := hw.2.2.2.1.1; omega)) ?_
  cases anyB (at' f.fFields (fun s => decide ((s.fName.length : Int) > 100))) f.fFields.length <;> rfl
 obtain ⟨b2, h2⟩ := h2
 have h1 : ∃ b, law24_Large_L1 f (fun y7 => law24_Large_L2 f (fun y13 => some false) k 0) k 0 = some b := by
  refine ⟨bif anyB (at' f.fMarks (fun s => decide ((s.fText.length : Int) > 100))) f.fMarks.length then true else b2, ?_⟩
  refine Eq.trans (anyLoop (n := f.fMarks.length) (L := fun m x => law24_Large_L1 f (fun y7 => law24_Large_L2 f (fun y13 => some false) k 0) m x) (body := fun x10 => ((idx f.fMarks x10).bind fun v11 => (some ((decide ((v11.fText.length : Int) > 100)))))) (K := fun _ => law24_Large_L2 f (fun y13 => some false) k 0) (r := some true) (z := some b2) (g := at' f.fMarks (fun s => decide ((s.fText.length : Int) > 100)))
   (fun m x => rfl) (fun i hi _ => by rw [at'_eq hi, idx_at hi]; rfl) (fun _ => h2) hw.2.2.1.1 (m := k) (by have := hw.2.2.1.1; omega)) ?_
  cases anyB (at' f.fMarks (fun s => decide ((s.fText.length : Int) > 100))) f.fMarks.length <;> rfl
 obtain ⟨b1, h1⟩ := h1
 rw [h1]
 cases decide ((f.fMarks.length : Int) > 20) <;> cases decide ((f.fFields.length : Int) > 20) <;> exact ⟨_, rfl⟩
end Go.Sh

namespace Go.Sh
open Go.AE
set_option linter.unusedVariables false
set_option linter.unusedSimpArgs false
section
variable {α : Type} {f : T_api_Form} (g : α → T_screen_part) (t : α → Str)
end
end Go.Sh

namespace Go.Sh
open Go.AE
set_option linter.unusedVariables false
set_option linter.unusedSimpArgs false
theorem markE (a b : T_api_Mark) : (a.fRow == b.fRow && (a.fColumn == b.fColumn && (a.fText == b.fText && true))) = decide (a = b) := by
 rw [Bool.eq_iff_iff]
 cases a; cases b
 simp
theorem slotE (a b : T_api_Slot) : (a.fName == b.fName && (a.fRow == b.fRow && (a.fColumn == b.fColumn && (a.fBytes == b.fBytes && (a.fIn == b.fIn && (a.fOut == b.fOut && (a.fFill == b.fFill && true))))))) = decide (a = b) := by
 rw [Bool.eq_iff_iff]
 cases a; cases b
 simp
theorem eqLoop {α γ : Type} [DecidableEq α] {a b : List α} (hl : a.length = b.length) (ha : a.length ≤ maxLen) {L : Nat → Int → Option γ} {K : Int → Option γ} {r z : Option γ}
  (hL : ∀ m x, L (m + 1) x = bif decide (x < (a.length : Int)) then (((idx a x).bind fun v => (idx b x).bind fun w => some (!(decide (v = w)))).bind fun o => bif o then r else L m (Go.IntKind.wrap .i64 (x + 1))) else K x)
  (hK : a = b → K (a.length : Int) = z) {m : Nat} (hm : a.length < m) : L m 0 = bif decide (a = b) then z else r := by
 have hz : (if a = b then z else K (a.length : Int)) = K (a.length : Int) := by
  by_cases e : a = b
  ·rw [if_pos e, hK e]
  ·rw [if_neg e]
 refine Eq.trans (anyLoop (n := a.length) (L := L) (body := fun x => ((idx a x).bind fun v => (idx b x).bind fun w => some (!(decide (v = w))))) (K := K) (r := r) (z := K (a.length : Int)) (g := fun i => !(decide (a[i]? = b[i]?))) hL (fun i hi _ => ?_) (fun _ => rfl) ha hm) ?_
 ·rw [idx_at hi, Option.bind_some, idx_at (show i < b.length by omega), Option.bind_some, List.getElem?_eq_getElem hi, List.getElem?_eq_getElem (show i < b.length by omega)]
  simp
 ·rw [eqB hl]
  by_cases e : a = b
  ·simp [e, hK e]
   rw [← e, hK e]
  ·simp [e]
def sameB (f g : T_api_Form) : Bool := (f.fRows == g.fRows) && ((f.fColumns == g.fColumns) && (decide (f.fMarks = g.fMarks) && decide (f.fFields = g.fFields)))
theorem ref24_Same_ok {k : Nat} (hk : maxLen + 4 ≤ k) {f g : T_api_Form} (hf : wf_T_api_Form f) : ref24_Same k f g = some (sameB f g) := by
 obtain ⟨k, rfl, hq⟩ := succ_of hk
 simp only [ref24_Same]
 by_cases hm : f.fMarks.length = g.fMarks.length
 ·by_cases hs : f.fFields.length = g.fFields.length
  ·rw [show ((f.fMarks.length : Int) != (g.fMarks.length : Int)) = false by simp; omega, show ((f.fFields.length : Int) != (g.fFields.length : Int)) = false by simp; omega]
   have h2 : ref24_Same_L2 f g (fun y17 => some true) k 0 = some (decide (f.fFields = g.fFields)) := by
    refine Eq.trans (eqLoop hs (wf_fields hf) (L := fun m x => ref24_Same_L2 f g (fun y8 => some true) m x) (K := fun _ => some true) (r := some false) (z := some true) (fun m x => ?_) (fun _ => rfl) (m := k) (by have := wf_fields hf; omega)) ?_
    ·simp only [ref24_Same_L2, slotE]
    ·cases decide (f.fFields = g.fFields) <;> rfl
   have h1 : ref24_Same_L1 f g (fun y9 => ref24_Same_L2 f g (fun y17 => some true) k 0) k 0 = some (decide (f.fMarks = g.fMarks) && decide (f.fFields = g.fFields)) := by
    refine Eq.trans (eqLoop hm hf.2.2.1.1 (L := fun m x => ref24_Same_L1 f g (fun y9 => ref24_Same_L2 f g (fun y17 => some true) k 0) m x) (K := fun _ => ref24_Same_L2 f g (fun y17 => some true) k 0) (r := some false) (z := some (decide (f.fFields = g.fFields))) (fun m x => ?_) (fun _ => h2) (m := k) (by have := hf.2.2.1.1; omega)) ?_
    ·simp only [ref24_Same_L1, markE]
    ·cases decide (f.fMarks = g.fMarks) <;> rfl
   rw [h1]
   unfold sameB
   simp only [show (f.fRows != g.fRows) = !(f.fRows == g.fRows) from rfl, show (f.fColumns != g.fColumns) = !(f.fColumns == g.fColumns) from rfl]
   cases (f.fRows == g.fRows) <;> cases (f.fColumns == g.fColumns) <;> rfl
  ·rw [show ((f.fFields.length : Int) != (g.fFields.length : Int)) = true by simp; omega]
   have : decide (f.fFields = g.fFields) = false := by simp; exact fun e => hs (by rw [e])
   unfold sameB
   rw [this]
   simp only [show (f.fRows != g.fRows) = !(f.fRows == g.fRows) from rfl, show (f.fColumns != g.fColumns) = !(f.fColumns == g.fColumns) from rfl]
   cases (f.fRows == g.fRows) <;> cases (f.fColumns == g.fColumns) <;> cases ((f.fMarks.length : Int) != (g.fMarks.length : Int)) <;> cases decide (f.fMarks = g.fMarks) <;> rfl
 ·rw [show ((f.fMarks.length : Int) != (g.fMarks.length : Int)) = true by simp; omega]
  have : decide (f.fMarks = g.fMarks) = false := by simp; exact fun e => hm (by rw [e])
  unfold sameB
  rw [this]
  simp only [show (f.fRows != g.fRows) = !(f.fRows == g.fRows) from rfl, show (f.fColumns != g.fColumns) = !(f.fColumns == g.fColumns) from rfl]
  cases (f.fRows == g.fRows) <;> cases (f.fColumns == g.fColumns) <;> rfl
theorem sameB_self (f : T_api_Form) : sameB f f = true := by unfold sameB; simp
end Go.Sh

namespace Go.Sh
open Go.AE
set_option linter.unusedVariables false
set_option linter.unusedSimpArgs false
theorem ix_eq (c : UInt8) (l : Str) : Go.Lib.index (c :: l) [c] = 0 := by
 rw [Go.Lib.index]
 simp [List.isPrefixOf]
theorem ix_ne {b c : UInt8} (h : b ≠ c) (l : Str) : Go.Lib.index (b :: l) [c] = if Go.Lib.index l [c] == -1 then -1 else Go.Lib.index l [c] + 1 := by
 have hp : ([c] : Str).isPrefixOf (b :: l) = false := by simp [List.isPrefixOf, Ne.symm h]
 rw [Go.Lib.index, hp]
 simp
theorem ix_no {c : UInt8} : ∀ {s : Str}, c ∉ s → Go.Lib.index s [c] = -1
 | [], _ => rfl
 | b :: l, h => by
  rw [List.mem_cons, not_or] at h
  rw [ix_ne (Ne.symm h.1), ix_no h.2]
  rfl
theorem ix_at {c : UInt8} : ∀ {a : Str} (b : Str), c ∉ a → Go.Lib.index (a ++ c :: b) [c] = (a.length : Int)
 | [], b, _ => ix_eq c b
 | x :: a, b, h => by
  rw [List.mem_cons, not_or] at h
  rw [List.cons_append, ix_ne (Ne.symm h.1), ix_at b h.2]
  have : ((a.length : Int) == -1) = false := by rw [beq_eq_false_iff_ne]; omega
  rw [this]
  simp
def sk (c : UInt8) (k : Nat) (s : Str) : List Str := Go.Lib.splitK [c] 0 k s
theorem sk_zero (c : UInt8) (s : Str) : sk c 0 s = [s] := rfl
theorem sk_no {c : UInt8} {s : Str} (h : c ∉ s) (k : Nat) : sk c k s = [s] := by
 cases k with
 | zero => rfl
 | succ k =>
  unfold sk Go.Lib.splitK
  rw [ix_no h]
  rfl
theorem drop_at {c : UInt8} (a b : Str) : (a ++ c :: b).drop (a.length + 1) = b := by
 rw [List.drop_append, List.drop_of_length_le (by omega)]
 simp
theorem sk_at {c : UInt8} {a : Str} (b : Str) (h : c ∉ a) (k : Nat) : sk c (k + 1) (a ++ c :: b) = a :: sk c k b := by
 unfold sk
 rw [Go.Lib.splitK, ix_at b h]
 have : ((a.length : Int) == -1) = false := by rw [beq_eq_false_iff_ne]; omega
 rw [this]
 simp only [Bool.false_eq_true, if_false, Int.toNat_natCast, Nat.add_zero, List.length_cons, List.length_nil, Nat.zero_add]
 rw [List.take_left, drop_at]
theorem first_c {c : UInt8} : ∀ {s : Str}, c ∈ s → ∃ a b, s = a ++ c :: b ∧ c ∉ a
 | x :: s, h => by
  by_cases e : x = c
  ·exact ⟨[], s, by rw [e]; rfl, by simp⟩
  ·obtain ⟨a, b, h1, h2⟩ := first_c (List.mem_of_ne_of_mem (Ne.symm e) h)
   exact ⟨x :: a, b, by rw [h1]; rfl, by simp only [List.mem_cons, not_or]; exact ⟨Ne.symm e, h2⟩⟩
/-- Pieces with a byte between them. -/
def jn (c : UInt8) : List Str → Str
 | [] => []
 | [a] => a
 | a :: b :: r => a ++ c :: jn c (b :: r)
theorem jn_cons (c : UInt8) (a : Str) {r : List Str} (h : r ≠ []) : jn c (a :: r) = a ++ c :: jn c r := by
 cases r with
 | nil => exact absurd rfl h
 | cons b r => rfl
theorem sk_ne (c : UInt8) : ∀ (k : Nat) (s : Str), sk c k s ≠ []
 | 0, s => by simp [sk_zero]
 | k + 1, s => by
  by_cases h : c ∈ s
  ·obtain ⟨a, b, rfl, ha⟩ := first_c h
   rw [sk_at b ha]
   simp
  ·rw [sk_no h]
   simp
theorem jn_sk (c : UInt8) : ∀ (k : Nat) (s : Str), jn c (sk c k s) = s
 | 0, s => rfl
 | k + 1, s => by
  by_cases h : c ∈ s
  ·obtain ⟨a, b, rfl, ha⟩ := first_c h
   rw [sk_at b ha, jn_cons c a (sk_ne c k b), jn_sk c k b]
  ·rw [sk_no h]
   rfl
theorem sk_jn_last {c : UInt8} (t : Str) : ∀ (ws : List Str), (∀ w ∈ ws, c ∉ w) → sk c ws.length (jn c (ws ++ [t])) = ws ++ [t]
 | [], _ => rfl
 | a :: r, h => by
  rw [List.cons_append, jn_cons c a (by simp), List.length_cons, sk_at _ (h a (by simp)), sk_jn_last t r (fun w hw => h w (by simp [hw]))]
theorem sk_jn {c : UInt8} : ∀ (ws : List Str) (k : Nat), ws ≠ [] → (∀ w ∈ ws, c ∉ w) → ws.length ≤ k + 1 → sk c k (jn c ws) = ws
 | [], _, h, _, _ => absurd rfl h
 | [a], k, _, h, _ => sk_no (h a (by simp)) k
 | a :: b :: r, k, _, h, hk => by
  obtain ⟨k, rfl⟩ : ∃ q, k = q + 1 := ⟨k - 1, by simp at hk; omega⟩
  rw [jn_cons c a (by simp), sk_at _ (h a (by simp)), sk_jn (b :: r) k (by simp) (fun w hw => h w (by simp [hw])) (by simp at hk ⊢; omega)]
theorem jn_count {c : UInt8} : ∀ (ws : List Str), ws ≠ [] → ws.length ≤ (jn c ws).count c + 1
 | [], h => absurd rfl h
 | [a], _ => by simp
 | a :: b :: r, _ => by
  rw [jn_cons c a (by simp), List.count_append, List.count_cons_self]
  have := jn_count (c := c) (b :: r) (by simp)
  simp only [List.length_cons] at this ⊢
  omega
theorem splS_jn {c : UInt8} {ws : List Str} (h0 : ws ≠ []) (h : ∀ w ∈ ws, c ∉ w) (hl : (jn c ws).length < 4294967281) : splS (jn c ws) [c] = some ws := by
 unfold splS
 rw [if_pos ⟨rfl, hl⟩, Go.Lib.count_one]
 exact congrArg some (sk_jn ws _ h0 h (jn_count ws h0))
theorem splS_some {c : UInt8} {s : Str} (hl : s.length < 4294967281) : splS s [c] = some (sk c (s.count c) s) := by
 unfold splS
 rw [if_pos ⟨rfl, hl⟩, Go.Lib.count_one]
 rfl
theorem splN_some {c : UInt8} {s : Str} {n : Nat} (hl : s.length < 4294967281) (h1 : 1 ≤ n) (h2 : n < 1000) : splN s [c] (n : Int) = some (sk c (min n (s.length + 1) - 1) s) := by
 unfold splN
 rw [if_pos ⟨rfl, hl, by omega, by omega⟩]
 rfl
theorem cutS_at {c : UInt8} {a : Str} (b : Str) (h : c ∉ a) (hl : (a ++ c :: b).length < 4294967281) : cutS (a ++ c :: b) [c] = some (a, b, true) := by
 unfold cutS
 rw [if_pos hl]
 unfold Go.Lib.cut
 rw [ix_at b h, if_pos (by omega)]
 simp only [Int.toNat_natCast, List.length_cons, List.length_nil, Nat.zero_add]
 rw [List.take_left, drop_at]
theorem cutS_some (s sep : Str) (hl : s.length < 4294967281) : ∃ a b t, cutS s sep = some (a, b, t) ∧ a.length ≤ s.length ∧ b.length ≤ s.length := by
 unfold cutS
 rw [if_pos hl]
 unfold Go.Lib.cut
 split
 ·exact ⟨_, _, _, rfl, by rw [List.length_take]; omega, by rw [List.length_drop]; omega⟩
 ·exact ⟨_, _, _, rfl, Nat.le_refl _, by simp⟩
theorem sk_bound (c : UInt8) : ∀ (k : Nat) (s : Str), (sk c k s).length ≤ s.length + 1 ∧ ∀ w ∈ sk c k s, w.length ≤ s.length
 | 0, s => by rw [sk_zero]; exact ⟨by simp, fun w hw => by simp at hw; subst hw; exact Nat.le_refl _⟩
 | k + 1, s => by
  by_cases h : c ∈ s
  ·obtain ⟨a, b, rfl, ha⟩ := first_c h
   rw [sk_at b ha]
   obtain ⟨h1, h2⟩ := sk_bound c k b
   refine ⟨by simp only [List.length_cons, List.length_append]; omega, fun w hw => ?_⟩
   simp only [List.length_append, List.length_cons]
   rcases List.mem_cons.1 hw with rfl | hw
   ·omega
   ·have := h2 w hw
    omega
  ·rw [sk_no h]
   exact ⟨by simp, fun w hw => by simp at hw; subst hw; exact Nat.le_refl _⟩
theorem sk_len (c : UInt8) : ∀ (k : Nat) (s : Str), (sk c k s).length ≤ k + 1
 | 0, s => by simp [sk_zero]
 | k + 1, s => by
  by_cases h : c ∈ s
  ·obtain ⟨a, b, rfl, ha⟩ := first_c h
   rw [sk_at b ha]
   have := sk_len c k b
   simp only [List.length_cons]
   omega
  ·rw [sk_no h]
   simp
/-- The first piece is the same, however many there are. -/
theorem sk_head (c : UInt8) (j k : Nat) (s : Str) : (sk c (j + 1) s).head? = (sk c (k + 1) s).head? := by
 by_cases h : c ∈ s
 ·obtain ⟨a, b, rfl, ha⟩ := first_c h
  rw [sk_at b ha, sk_at b ha]
  rfl
 ·rw [sk_no h, sk_no h]
theorem sk_cons_ne {b c : UInt8} (h : b ≠ c) : ∀ (k : Nat) (r : Str), ∃ x y, sk c k r = x :: y ∧ sk c k (b :: r) = (b :: x) :: y
 | 0, r => ⟨r, [], rfl, rfl⟩
 | k + 1, r => by
  by_cases hc : c ∈ r
  ·obtain ⟨a, d, rfl, ha⟩ := first_c hc
   refine ⟨a, sk c k d, sk_at d ha k, ?_⟩
   exact sk_at (a := b :: a) d (by simp only [List.mem_cons, not_or]; exact ⟨Ne.symm h, ha⟩) k
  ·exact ⟨r, [], sk_no hc _, sk_no (by simp only [List.mem_cons, not_or]; exact ⟨Ne.symm h, hc⟩) _⟩
theorem sk_cons_eq (c : UInt8) (k : Nat) (r : Str) : sk c (k + 1) (c :: r) = [] :: sk c k r := sk_at (a := []) r (by simp) k
theorem dec_small {u : Nat} (h : u < 10) : Go.Lib.decDigits u = [UInt8.ofNat (48 + u)] := by
 unfold Go.Lib.decDigits
 rw [dif_pos h]
theorem dec_large {u : Nat} (h : ¬ u < 10) : Go.Lib.decDigits u = Go.Lib.decDigits (u / 10) ++ [UInt8.ofNat (48 + u % 10)] := by
 rw [Go.Lib.decDigits, dif_neg h]
theorem digit_byte {d : Nat} (h : d < 10) : (UInt8.ofNat (48 + d)).toNat = 48 + d := by
 rw [UInt8.toNat_ofNat']
 omega
theorem dec_bytes (u : Nat) : ∀ b ∈ Go.Lib.decDigits u, 48 ≤ b.toNat ∧ b.toNat ≤ 57 := by
 induction u using Nat.strongRecOn with
 | ind u ih =>
  intro b hb
  by_cases h : u < 10
  ·rw [dec_small h, List.mem_singleton] at hb
   subst hb
   rw [digit_byte h]
   omega
  ·rw [dec_large h, List.mem_append, List.mem_singleton] at hb
   rcases hb with hb | rfl
   ·exact ih (u / 10) (by omega) b hb
   ·rw [digit_byte (Nat.mod_lt u (by omega))]
    have := Nat.mod_lt u (show 10 > 0 by omega)
    omega
theorem dec_ne (u : Nat) : Go.Lib.decDigits u ≠ [] := by
 by_cases h : u < 10
 ·rw [dec_small h]; simp
 ·rw [dec_large h]; simp
theorem dec_no {c : UInt8} (h : c.toNat < 48) (u : Nat) : c ∉ Go.Lib.decDigits u := fun hc => by
 have := (dec_bytes u c hc).1
 omega
theorem dec_len : ∀ (j u : Nat), u < 10 ^ (j + 1) → (Go.Lib.decDigits u).length ≤ j + 1
 | 0, u, hu => by
  rw [dec_small (by simpa using hu)]
  simp
 | j + 1, u, hu => by
  by_cases h : u < 10
  ·rw [dec_small h]
   simp
  ·have hd : u / 10 < 10 ^ (j + 1) := by
    rw [Nat.pow_succ] at hu
    omega
   rw [dec_large h, List.length_append]
   have := dec_len j (u / 10) hd
   simp only [List.length_cons, List.length_nil]
   omega
theorem parse_dec (u : Nat) : ∀ r : Str, u < 1000000000000000000 → Go.Lib.parseUint10 0 (Go.Lib.decDigits u ++ r) = Go.Lib.parseUint10 u r := by
 induction u using Nat.strongRecOn with
 | ind u ih =>
  intro r hu
  by_cases h : u < 10
  ·rw [dec_small h, List.singleton_append, Go.Lib.parseUint10, digit_byte h, if_pos (by omega), if_neg (by omega), if_neg (by omega)]
   congr 1
   omega
  ·rw [dec_large h, List.append_assoc, ih (u / 10) (by omega) _ (by omega), List.singleton_append, Go.Lib.parseUint10, digit_byte (Nat.mod_lt u (by omega)), if_pos (by have := Nat.mod_lt u (show 10 > 0 by omega); omega), if_neg (by omega), if_neg (by omega)]
   congr 1
   omega
theorem atoi_dec {u : Nat} (hu : u < 1000000000000000000) : Go.Lib.atoiAll (Go.Lib.decDigits u) = .ok (u : Int) := by
 have h1 := parse_dec u [] hu
 rw [List.append_nil] at h1
 have h2 := dec_ne u
 have h3 := dec_bytes u
 generalize Go.Lib.decDigits u = l at h1 h2 h3
 cases l with
 | nil => exact absurd rfl h2
 | cons c r =>
  have h4 := h3 c (by simp)
  unfold Go.Lib.atoiAll
  simp only [if_neg (show ¬ (c.toNat = 43 ∨ c.toNat = 45) by omega), Go.Lib.parseMag, List.cons_ne_nil, if_false, h1]
  rw [Go.Lib.parseUint10]
  simp only [show ¬ c.toNat = 45 by omega, not_false_eq_true, true_and, false_and, if_false]
  rw [if_neg (by omega)]
theorem numR_dec {u : Nat} (hu : u < 1000000000000000000) : numR (Go.Lib.decDigits u) = ((u : Int), true) := by
 unfold numR
 rw [atoi_dec hu]
 simp only [Go.Lib.itoa, if_neg (show ¬ (u : Int) < 0 by omega), Int.toNat_natCast, beq_self_eq_true, Bool.and_true]
 congr 1
/-- A number that may be -1. -/
def placeT (n : Int) : Str := if n < 0 then [45] else Go.Lib.decDigits n.toNat
theorem placeT_nonneg {n : Int} (h : 0 ≤ n) : placeT n = Go.Lib.decDigits n.toNat := by
 unfold placeT
 rw [if_neg (by omega)]
theorem placeT_no {c : UInt8} (h : c.toNat < 45) (n : Int) : c ∉ placeT n := by
 unfold placeT
 split
 ·intro hc
  rw [List.mem_singleton] at hc
  subst hc
  exact absurd h (by decide)
 ·exact dec_no (by omega) _
theorem dec_dash (u : Nat) : (Go.Lib.decDigits u == [45]) = false := by
 rw [beq_eq_false_iff_ne]
 intro e
 have := dec_bytes u 45 (by rw [e]; simp)
 exact absurd this.1 (by decide)
theorem placeT_len {n : Int} (h : n < 1000000000) : (placeT n).length ≤ 9 := by
 unfold placeT
 split
 ·simp
 ·exact dec_len 8 n.toNat (by simp; omega)
theorem numV_place {n : Int} (h0 : -1 ≤ n) (h1 : n < 1000000000) : numV true (placeT n) = some (n, true) := by
 unfold numV
 by_cases hn : n < 0
 ·obtain rfl : n = -1 := by omega
  rfl
 ·have hl := placeT_len h1
  rw [placeT_nonneg (by omega)] at hl ⊢
  rw [dec_dash, Bool.and_false, if_neg (by simp), if_pos (by omega), numR_dec (by omega)]
  congr 2
  omega
theorem numV_some {d : Bool} {s : Str} (h : s.length ≤ 281474976710656) : ∃ n b, numV d s = some (n, b) ∧ -9223372036854775808 ≤ n ∧ n ≤ 9223372036854775807 := by
 unfold numV
 split
 ·exact ⟨_, _, rfl, by omega, by omega⟩
 ·unfold numR
  split
  ·rename_i v hv
   have := Go.Lib.atoiAll_bounds hv
   exact ⟨_, _, rfl, by omega, by omega⟩
  ·exact ⟨_, _, rfl, by unfold Go.Lib.atoiSat; split <;> omega, by unfold Go.Lib.atoiSat; split <;> omega⟩
  ·exact ⟨_, _, rfl, by omega, by omega⟩
theorem fdGo_append : ∀ (l r : Str) (n : Int), (fdGo l n).2 = 0 → fdGo (l ++ r) n = fdGo r (fdGo l n).1
 | [], r, n, _ => rfl
 | c :: l, r, n, h => by
  rw [List.cons_append, fdGo, fdGo]
  rw [fdGo] at h
  by_cases hc : c.toNat < 48 ∨ 57 < c.toNat
  ·rw [if_pos hc] at h
   cases h
  ·rw [if_neg hc] at h ⊢
   rw [if_neg hc]
   exact fdGo_append l r _ h
theorem fdGo_digit {d : Nat} (h : d < 10) (n : Int) : fdGo [UInt8.ofNat (48 + d)] n = (10 * n + (d : Int), 0) := by
 have hb := digit_byte h
 rw [fdGo, if_neg (by omega), fdGo, hb]
 congr 1
 omega
theorem fdGo_dec (u : Nat) : fdGo (Go.Lib.decDigits u) 0 = ((u : Int), 0) := by
 induction u using Nat.strongRecOn with
 | ind u ih =>
  by_cases h : u < 10
  ·rw [dec_small h, fdGo_digit h]
   congr 1
   omega
  ·rw [dec_large h]
   have h1 := ih (u / 10) (by omega)
   rw [fdGo_append _ _ _ (by rw [h1]), h1, fdGo_digit (Nat.mod_lt u (by omega))]
   congr 1
   show 10 * ((u / 10 : Nat) : Int) + ((u % 10 : Nat) : Int) = (u : Int)
   omega
theorem fdGo_range : ∀ (l : Str) (n : Int) (j : Nat), 0 ≤ n → n < 10 ^ j → 0 ≤ (fdGo l n).1 ∧ (fdGo l n).1 < 10 ^ (j + l.length)
 | [], n, j, h0, h1 => ⟨h0, by simpa [fdGo] using h1⟩
 | c :: l, n, j, h0, h1 => by
  rw [fdGo]
  split
  ·exact ⟨by simp, by simpa using Int.pow_pos (by decide)⟩
  ·have hp : (10 : Int) ^ (j + 1) = 10 ^ j * 10 := by rw [Int.pow_succ]
   have := fdGo_range l (10 * n + ((c.toNat : Int) - 48)) (j + 1) (by omega) (by rw [hp]; omega)
   rw [List.length_cons, show j + (l.length + 1) = j + 1 + l.length by omega]
   exact this
theorem fdS_range (s : Str) : 0 ≤ (fdS s).1 ∧ (fdS s).1 < 1000000000 := by
 unfold fdS
 split
 ·exact ⟨by simp, by simp⟩
 ·rename_i h
  obtain ⟨h1, h2⟩ := fdGo_range s 0 0 (by omega) (by decide)
  refine ⟨h1, ?_⟩
  have : (10 : Int) ^ (0 + s.length) ≤ 10 ^ 9 := by
   have := Nat.pow_le_pow_right (n := 10) (by omega) (show 0 + s.length ≤ 9 by omega)
   have e1 : ((10 ^ (0 + s.length) : Nat) : Int) = 10 ^ (0 + s.length) := Int.natCast_pow 10 _
   have e2 : ((10 ^ 9 : Nat) : Int) = 10 ^ 9 := Int.natCast_pow 10 9
   rw [← e1, ← e2]
   exact Int.ofNat_le.2 this
  have h8 : (10 : Int) ^ 9 = 1000000000 := by decide
  omega
def numQ (s : Str) : Int × Bool := ((fdS s).1, ((fdS s).2 == 0) && (Go.Lib.decDigits (fdS s).1.toNat == s))
theorem numQ_dec {u : Nat} (h : u < 1000000000) : numQ (Go.Lib.decDigits u) = ((u : Int), true) := by
 have hl : (Go.Lib.decDigits u).length ≤ 9 := dec_len 8 u (by simpa using h)
 have h0 : (Go.Lib.decDigits u).length ≠ 0 := fun e => dec_ne u (List.length_eq_zero_iff.1 e)
 unfold numQ fdS
 rw [if_neg (by omega), fdGo_dec]
 simp
theorem numQ_true {s : Str} (h : (numQ s).2 = true) : s = Go.Lib.decDigits (numQ s).1.toNat ∧ 0 ≤ (numQ s).1 ∧ (numQ s).1 < 1000000000 := by
 unfold numQ at h ⊢
 simp only [Bool.and_eq_true, beq_iff_eq] at h
 exact ⟨h.2.symm, fdS_range s⟩
/-- Numbers of words; from the 'd'th on a - is -1. -/
def numsQ (d : Int) : Nat → List Str → Option (List Int)
 | _, [] => some []
 | i, s :: r => if (decide ((i : Int) ≥ d) && (s == [45])) = true then (numsQ d (i + 1) r).map ((-1) :: ·) else if (numQ s).2 = true then (numsQ d (i + 1) r).map ((numQ s).1 :: ·) else none
theorem numsQ_text {d : Int} : ∀ (l : List Str) (i : Nat) (v : List Int), numsQ d i l = some v → l = v.map placeT ∧ ∀ n ∈ v, -1 ≤ n ∧ n < 1000000000
 | [], i, v, h => by
  obtain rfl := Option.some.inj h
  exact ⟨rfl, by simp⟩
 | s :: r, i, v, h => by
  unfold numsQ at h
  split at h
  ·rename_i hc
   simp only [Bool.and_eq_true, beq_iff_eq] at hc
   cases hr : numsQ d (i + 1) r with
   | none => rw [hr] at h; cases h
   | some u =>
    rw [hr] at h
    obtain rfl := Option.some.inj h
    obtain ⟨h1, h2⟩ := numsQ_text r (i + 1) u hr
    refine ⟨by rw [List.map_cons, ← h1, hc.2]; rfl, fun n hn => ?_⟩
    rcases List.mem_cons.1 hn with rfl | hn
    ·omega
    ·exact h2 n hn
  ·split at h
   ·rename_i hq
    cases hr : numsQ d (i + 1) r with
    | none => rw [hr] at h; cases h
    | some u =>
     rw [hr] at h
     obtain rfl := Option.some.inj h
     obtain ⟨h1, h2⟩ := numsQ_text r (i + 1) u hr
     obtain ⟨q1, q2, q3⟩ := numQ_true hq
     refine ⟨by rw [List.map_cons, ← h1, placeT_nonneg q2, ← q1], fun n hn => ?_⟩
     rcases List.mem_cons.1 hn with rfl | hn
     ·omega
     ·exact h2 n hn
   ·cases h
theorem numsQ_nonneg {d : Int} : ∀ (l : List Str) (i : Nat) (v : List Int), (i : Int) + l.length ≤ d → numsQ d i l = some v → ∀ n ∈ v, 0 ≤ n
 | [], i, v, _, h => by
  obtain rfl := Option.some.inj h
  simp
 | s :: r, i, v, hd, h => by
  simp only [List.length_cons] at hd
  unfold numsQ at h
  rw [if_neg (by simp only [Bool.and_eq_true, decide_eq_true_eq]; omega)] at h
  split at h
  ·rename_i hq
   cases hr : numsQ d (i + 1) r with
   | none => rw [hr] at h; cases h
   | some u =>
    rw [hr] at h
    obtain rfl := Option.some.inj h
    intro n hn
    rcases List.mem_cons.1 hn with rfl | hn
    ·exact (numQ_true hq).2.1
    ·exact numsQ_nonneg r (i + 1) u (by omega) hr n hn
  ·cases h
theorem numsQ_len {d : Int} : ∀ (l : List Str) (i : Nat) (v : List Int), numsQ d i l = some v → v.length = l.length
 | l, i, v, h => by
  obtain ⟨h1, _⟩ := numsQ_text l i v h
  rw [h1, List.length_map]
theorem numsQ_place {d : Int} : ∀ (v : List Int) (i : Nat), (∀ j (h : j < v.length), v[j] < 1000000000 ∧ (0 ≤ v[j] ∨ v[j] = -1 ∧ d ≤ ((i + j : Nat) : Int))) → numsQ d i (v.map placeT) = some v
 | [], i, _ => rfl
 | n :: v, i, h => by
  have h0 := h 0 (by simp)
  simp only [List.getElem_cons_zero, Nat.add_zero] at h0
  have ih := numsQ_place (d := d) v (i + 1) (fun j hj => by
   have := h (j + 1) (by simpa using hj)
   simp only [List.getElem_cons_succ] at this
   exact ⟨this.1, this.2.imp id fun ⟨a, b⟩ => ⟨a, by omega⟩⟩)
  rw [List.map_cons]
  unfold numsQ
  rcases h0.2 with hn | ⟨rfl, hd⟩
  ·rw [placeT_nonneg hn, dec_dash, Bool.and_false, if_neg (by simp), numQ_dec (by omega), if_pos rfl, ih]
   simp only [Option.map_some, Int.toNat_of_nonneg hn]
  ·rw [show placeT (-1) = [45] from rfl, if_pos (by simp; omega), ih]
   rfl
end Go.Sh

namespace Go.Sh
open Go.AE
set_option linter.unusedVariables false
set_option linter.unusedSimpArgs false
theorem jn_inter (c : UInt8) : ∀ ws : List Str, ([c] : Str).intercalate ws = jn c ws
 | [] => rfl
 | [a] => by simp [List.intercalate, jn]
 | a :: b :: r => by
  rw [jn_cons c a (by simp), ← jn_inter c (b :: r)]
  simp [List.intercalate, List.intersperse]
theorem joinS_ok {c : UInt8} {ws : List Str} (h1 : ws.length ≤ 1000000) (h2 : (jn c ws).length ≤ 140737488355328) : joinS ws [c] = some (jn c ws) := by
 unfold joinS
 rw [jn_inter, if_pos ⟨h1, h2⟩]
def formW (r c : Int) : List Str := [[70, 79, 82, 77], placeT r, placeT c]
def markW (m : T_api_Mark) : List Str := [[77, 65, 82, 75], placeT m.fRow, placeT m.fColumn, m.fText]
def fieldW (x : T_api_Slot) : List Str := [[70, 73, 69, 76, 68], x.fName, placeT x.fRow, placeT x.fColumn, placeT x.fBytes, placeT x.fIn, placeT x.fOut, placeT x.fFill]
def nl (l : List Str) : Str := (l.map (· ++ [10])).flatten
def linesF (f : T_api_Form) : List Str := jn 32 (formW f.fRows f.fColumns) :: (f.fMarks.map (fun m => jn 32 (markW m)) ++ f.fFields.map fun x => jn 32 (fieldW x))
def canon (f : T_api_Form) : Str := nl (linesF f)
theorem nl_cons (a : Str) (l : List Str) : nl (a :: l) = (a ++ [10]) ++ nl l := by simp [nl]
theorem nl_append (a b : List Str) : nl (a ++ b) = nl a ++ nl b := by simp [nl]
theorem jn_nl : ∀ l : List Str, jn 10 (l ++ [[]]) = nl l
 | [] => rfl
 | a :: l => by
  rw [List.cons_append, jn_cons 10 a (by simp), jn_nl l, nl_cons]
  simp
theorem fold_nl {α : Type} (g : α → Str) : ∀ (l : List α) (s : Str), l.foldl (fun s a => s ++ (g a ++ [10])) s = s ++ nl (l.map g)
 | [], s => by simp [nl]
 | a :: l, s => by
  rw [List.foldl_cons, fold_nl g l, List.map_cons, nl_cons]
  simp
def Small (n : Int) : Prop := 0 ≤ n ∧ n < 1000000000
def MarkC (m : T_api_Mark) : Prop := Small m.fRow ∧ Small m.fColumn ∧ m.fText.length ≤ 40 ∧ (10 : UInt8) ∉ m.fText
def SlotC (x : T_api_Slot) : Prop := x.fName.length ≤ 8 ∧ (32 : UInt8) ∉ x.fName ∧ (10 : UInt8) ∉ x.fName ∧ Small x.fRow ∧ Small x.fColumn ∧ Small x.fBytes ∧ (-1 ≤ x.fIn ∧ x.fIn < 4) ∧ (-1 ≤ x.fOut ∧ x.fOut < 4) ∧ (0 ≤ x.fFill ∧ x.fFill < 256)
structure FormC (f : T_api_Form) : Prop where
 r : Small f.fRows
 c : Small f.fColumns
 m8 : f.fMarks.length ≤ 8
 f10 : f.fFields.length ≤ 10
 mark : ∀ m ∈ f.fMarks, MarkC m
 fd : ∀ s ∈ f.fFields, SlotC s
theorem name_byte {s : Str} (h : nameOk s = true) {c : UInt8} (hc : c.toNat < 48) : c ∉ s := fun hm => by
 unfold nameOk at h
 simp only [Bool.and_eq_true, Bool.not_eq_true'] at h
 obtain ⟨i, hi, rfl⟩ := List.getElem_of_mem hm
 have := anyB_false.1 h.1 i hi
 unfold badL at this
 rw [at'_eq hi] at this
 simp only [Bool.and_eq_false_iff, Bool.not_eq_false', Bool.and_eq_true, decide_eq_true_eq, Bool.or_eq_false_iff, decide_eq_false_iff_not] at this
 rcases this with ⟨h1, h2⟩ | ⟨h1, h2, h3⟩
 ·omega
 ·omega
theorem OkForm.toC {f : T_api_Form} (h : OkForm f) : FormC f := by
 have c1 := h.c1; have c2 := h.c2; have r1 := h.r1; have r2 := h.r2
 refine ⟨⟨by omega, by omega⟩, ⟨by omega, by omega⟩, h.m8, h.f10, fun m hm => ?_, fun s hs => ?_⟩
 ·obtain ⟨ht, a1, a2, a3, a4, a5⟩ := h.mark m hm
  simp only [partM] at a1 a2 a3 a4 a5
  refine ⟨⟨a1, by omega⟩, ⟨a3, by omega⟩, by omega, fun hc => ?_⟩
  have := List.all_eq_true.1 ht 10 hc
  exact absurd this (by decide)
 ·obtain ⟨ht, a1, a2, a3, a4, a5⟩ := h.fd s hs
  simp only [partF] at a1 a2 a3 a4 a5
  obtain ⟨n1, n2, n3, n4⟩ := slotB_in ht
  have hl : s.fName.length ≤ 8 := by
   unfold nameOk at n1
   simp only [Bool.and_eq_true, decide_eq_true_eq] at n1
   omega
  exact ⟨hl, name_byte n1 (by decide), name_byte n1 (by decide), ⟨a1, by omega⟩, ⟨a3, by omega⟩, ⟨by omega, by omega⟩, n2, n3, by omega, by omega⟩
theorem formW_len {r c : Int} (hr : Small r) (hc : Small c) : (jn 32 (formW r c)).length ≤ 100 := by
 have := placeT_len hr.2; have := placeT_len hc.2
 simp only [formW, jn, List.length_append, List.length_cons, List.length_nil]
 omega
theorem markW_len {m : T_api_Mark} (h : MarkC m) : (jn 32 (markW m)).length ≤ 100 := by
 obtain ⟨h1, h2, h3, h4⟩ := h
 have := placeT_len h1.2; have := placeT_len h2.2
 simp only [markW, jn, List.length_append, List.length_cons, List.length_nil]
 omega
theorem fieldW_len {x : T_api_Slot} (h : SlotC x) : (jn 32 (fieldW x)).length ≤ 100 := by
 obtain ⟨h1, _, _, h4, h5, h6, h7, h8, h9⟩ := h
 have := placeT_len h4.2; have := placeT_len h5.2; have := placeT_len h6.2
 have := placeT_len (n := x.fIn) (by omega); have := placeT_len (n := x.fOut) (by omega); have := placeT_len (n := x.fFill) (by omega)
 simp only [fieldW, jn, List.length_append, List.length_cons, List.length_nil]
 omega
theorem itoa_place {k : Nat} {n : Int} (hk : 1 ≤ k) (h : Small n) : strconv_Itoa k n = some (placeT n) := by
 obtain ⟨k, rfl, _⟩ := succ_of hk
 rw [placeT_nonneg h.1]
 simp only [strconv_Itoa, itoaA]
 have := h.1; have := h.2
 by_cases h9 : n < 10
 ·rw [if_pos ⟨h.1, h9⟩, dec_small (by omega)]
 ·rw [if_neg (by omega), if_pos ⟨by omega, by omega⟩]
  unfold Go.Lib.itoa
  rw [if_neg (by omega)]
theorem screen_place_ok {k : Nat} {n : Int} (hk : 2 ≤ k) (h : n < 1000000000) : screen_place k n = some (placeT n) := by
 obtain ⟨k, rfl, _⟩ := succ_of hk
 simp only [screen_place]
 by_cases h0 : n < 0
 ·rw [decide_eq_true h0]
  unfold placeT
  rw [if_pos h0]
  rfl
 ·rw [decide_eq_false h0, cond_false, itoa_place (by omega) ⟨by omega, h⟩]
  rfl
theorem bldApp_ok {a b : Str} (h : a.length + b.length ≤ 140737488355328) : bldApp a b = some (a ++ b) := by
 unfold bldApp
 rw [if_pos h]
theorem format1_ok {k : Nat} {ws : List Str} {b : Str} (hk : 2 ≤ k) (h1 : ws.length ≤ 1000) (h2 : (jn 32 ws).length ≤ 1000) (hb : b.length ≤ 1000000) : screen_Format_1 k ws b = some (b ++ (jn 32 ws ++ [10])) := by
 obtain ⟨k, rfl, hk1⟩ := succ_of hk
 obtain ⟨k, rfl, _⟩ := succ_of hk1
 have e1 : bldB (b ++ jn 32 ws) 10 = some (b ++ jn 32 ws ++ [10]) := by
  unfold bldB
  rw [if_pos (by decide)]
  exact bldApp_ok (by simp only [List.length_append, List.length_cons, List.length_nil]; omega)
 simp only [screen_Format_1, strings_Join, joinS_ok (show ws.length ≤ 1000000 by omega) (show (jn 32 ws).length ≤ 140737488355328 by omega), Option.bind_some, strings_Builder_WriteString, bldApp_ok (show b.length + (jn 32 ws).length ≤ 140737488355328 by omega), strings_Builder_WriteByte, e1, List.append_assoc]
theorem wrap_small {n : Int} (h0 : 0 ≤ n) (h1 : n < 256) : Go.IntKind.wrap .i64 n = n := wrap_in (by omega) (by omega)
theorem Small.fill {n : Int} (h : 0 ≤ n ∧ n < 256) : Small n := ⟨h.1, by have := h.2; omega⟩
theorem format_L1 {k : Nat} {f : T_api_Form} (hk : 2 ≤ k) (hc : FormC f) {K : Int → Str → Option (Str × Int)} {m : Nat} (hm : f.fMarks.length < m) {s0 : Str} (h0 : s0.length ≤ 1000) :
  screen_Format_L1 k f K m 0 s0 = K (f.fMarks.length : Int) (s0 ++ nl (f.fMarks.map fun m => jn 32 (markW m))) ∧ (s0 ++ nl (f.fMarks.map fun m => jn 32 (markW m))).length ≤ 2000 := by
 have h8 := hc.m8
 obtain ⟨h1, h2⟩ := foldLoop (l := f.fMarks) (L := fun m x s => screen_Format_L1 k f K m x s) (stp := fun s a => s ++ (jn 32 (markW a) ++ [10])) (K := fun s => K (f.fMarks.length : Int) s) (fun i s => s.length ≤ 1000 + 101 * i) (fun m i hi s hs => by
   have hmk := hc.mark _ (List.getElem_mem hi)
   have hl := markW_len hmk
   have hl' := hl
   simp only [markW] at hl'
   refine ⟨?_, by simp only [List.length_append, List.length_cons, List.length_nil]; omega⟩
   simp only [screen_Format_L1, lt_dec hi, cond_true, idx_at hi, Option.bind_some, itoa_place (show 1 ≤ k by omega) hmk.1, itoa_place (show 1 ≤ k by omega) hmk.2.1, format1_ok hk (show ([[77, 65, 82, 75], placeT f.fMarks[i].fRow, placeT f.fMarks[i].fColumn, f.fMarks[i].fText] : List Str).length ≤ 1000 by simp) (show _ ≤ 1000 by exact Nat.le_trans hl' (by decide)) (show s.length ≤ 1000000 by omega), wrap_next hi (show f.fMarks.length ≤ maxLen by rw [maxLen_lt]; omega)]
   rfl) (fun m s hs => by simp only [screen_Format_L1, lt_self, cond_false]) hm (s0 := s0) (by simpa using h0)
 rw [fold_nl] at h1 h2
 exact ⟨h1, by omega⟩
theorem format_L2 {k : Nat} {f : T_api_Form} (hk : 2 ≤ k) (hc : FormC f) {K : Int → Str → Option (Str × Int)} {m : Nat} (hm : f.fFields.length < m) {s0 : Str} (h0 : s0.length ≤ 2000) :
  screen_Format_L2 k f K m 0 s0 = K (f.fFields.length : Int) (s0 ++ nl (f.fFields.map fun x => jn 32 (fieldW x))) := by
 have h8 := hc.f10
 obtain ⟨h1, h2⟩ := foldLoop (l := f.fFields) (L := fun m x s => screen_Format_L2 k f K m x s) (stp := fun s a => s ++ (jn 32 (fieldW a) ++ [10])) (K := fun s => K (f.fFields.length : Int) s) (fun i s => s.length ≤ 2000 + 101 * i) (fun m i hi s hs => by
   have hmk := hc.fd _ (List.getElem_mem hi)
   have hl := fieldW_len hmk
   have hl' := hl
   simp only [fieldW] at hl'
   obtain ⟨g1, _, _, g4, g5, g6, g7, g8, g9⟩ := hmk
   refine ⟨?_, by simp only [List.length_append, List.length_cons, List.length_nil]; omega⟩
   simp only [screen_Format_L2, lt_dec hi, cond_true, idx_at hi, Option.bind_some, itoa_place (show 1 ≤ k by omega) g4, itoa_place (show 1 ≤ k by omega) g5, itoa_place (show 1 ≤ k by omega) g6, screen_place_ok hk (show f.fFields[i].fIn < 1000000000 by omega), screen_place_ok hk (show f.fFields[i].fOut < 1000000000 by omega), wrap_small g9.1 g9.2, itoa_place (show 1 ≤ k by omega) (Small.fill g9),
    format1_ok hk (show ([[70, 73, 69, 76, 68], f.fFields[i].fName, placeT f.fFields[i].fRow, placeT f.fFields[i].fColumn, placeT f.fFields[i].fBytes, placeT f.fFields[i].fIn, placeT f.fFields[i].fOut, placeT f.fFields[i].fFill] : List Str).length ≤ 1000 by simp) (show _ ≤ 1000 by exact Nat.le_trans hl' (by decide)) (show s.length ≤ 1000000 by omega), wrap_next hi (show f.fFields.length ≤ maxLen by rw [maxLen_lt]; omega)]
   rfl) (fun m s hs => by simp only [screen_Format_L2, lt_self, cond_false]) hm (s0 := s0) (by simpa using h0)
 rw [fold_nl] at h1
 exact h1
theorem canon_eq (f : T_api_Form) : canon f = ([] ++ (jn 32 (formW f.fRows f.fColumns) ++ [10])) ++ nl (f.fMarks.map fun m => jn 32 (markW m)) ++ nl (f.fFields.map fun x => jn 32 (fieldW x)) := by
 unfold canon linesF
 rw [nl_cons, nl_append]
 simp
theorem bldStr_ok {s : Str} (h : s ≠ []) : bldStr s = some s := by
 unfold bldStr
 rw [if_neg h]
theorem canon_ne (f : T_api_Form) : canon f ≠ [] := by
 unfold canon linesF
 rw [nl_cons]
 simp
def FormatS (f : T_api_Form) : Str × Int := bif okF f then (canon f, 0) else ([], 220)
theorem screen_Format_ok {k : Nat} {f : T_api_Form} (hk : maxLen + 30 ≤ k) (hw : wf_T_api_Form f) : screen_Format k f = some (FormatS f) := by
 obtain ⟨k, rfl, hq⟩ := succ_of hk
 simp only [screen_Format, screen_Valid_ok (show maxLen + 20 ≤ k by omega) hw, Option.bind_some, FormatS]
 cases ho : okF f with
 | false => rfl
 | true =>
  have hc := (okF_form ho).toC
  have e0 := format1_ok (k := k) (ws := formW f.fRows f.fColumns) (b := []) (by omega) (by simp [formW]) (Nat.le_trans (formW_len hc.r hc.c) (by decide)) (by simp)
  have hl0 := formW_len hc.r hc.c
  simp only [formW] at e0
  simp only [Bool.not_true, cond_false, cond_true, itoa_place (show 1 ≤ k by omega) hc.r, itoa_place (show 1 ≤ k by omega) hc.c, Option.bind_some, e0]
  rw [maxLen_lt] at hq
  have h8 := hc.m8; have h10 := hc.f10
  obtain ⟨e1, e2⟩ := format_L1 (k := k) (by omega) hc (K := fun y21 y22 => (screen_Format_L2 k f (fun y45 y46 => (((strings_Builder_String k y46).bind fun v47 => (some (v47, 0))).bind fun o48 => (some (o48.1, o48.2)))) k 0 y22)) (m := k) (by omega) (s0 := [] ++ (jn 32 (formW f.fRows f.fColumns) ++ [10])) (by simp only [List.length_append, List.length_cons, List.length_nil]; omega)
  refine Eq.trans e1 ?_
  refine Eq.trans (format_L2 (by omega) hc (by omega) e2) ?_
  rw [← canon_eq]
  obtain ⟨k, rfl⟩ : ∃ q, k = q + 1 := ⟨k - 1, by omega⟩
  simp only [strings_Builder_String, bldStr_ok (canon_ne f), Option.bind_some]
theorem ref_byte {d : Nat} (h : d < 10) : strB [Go.IntKind.wrap .u8 (Go.IntKind.wrap .i64 (48 + (d : Int)))] = [UInt8.ofNat (48 + d)] := by
 have w1 : Go.IntKind.wrap .i64 (48 + (d : Int)) = ((48 + d : Nat) : Int) := by rw [wrap_in (by omega) (by omega)]; omega
 have w2 : Go.IntKind.wrap .u8 ((48 + d : Nat) : Int) = ((48 + d : Nat) : Int) := by
  show ((48 + d : Nat) : Int) % 256 = _
  exact Int.emod_eq_of_lt (by omega) (by omega)
 rw [w1, w2, strB_one, Int.toNat_natCast]
theorem cat_okT {a b : Str} (h : a.length + b.length ≤ maxList) : cat a b = some (a ++ b) := by
 unfold cat
 rw [if_pos h]
theorem rdec_ok : ∀ (j k u : Nat), u < 10 ^ (j + 1) → j ≤ 8 → j + 2 ≤ k → ref24_Dec k (u : Int) = some (Go.Lib.decDigits u)
 | 0, k, u, hu, hj, hk => by
  obtain ⟨k, rfl, _⟩ := succ_of hk
  have hu : u < 10 := by simpa using hu
  rw [dec_small hu]
  simp only [ref24_Dec, decide_eq_true (show (u : Int) < 10 by omega), cond_true, ref_byte hu]
 | j + 1, k, u, hu, hj, hk => by
  obtain ⟨k, rfl, hk1⟩ := succ_of hk
  by_cases h : u < 10
  ·rw [dec_small h]
   simp only [ref24_Dec, decide_eq_true (show (u : Int) < 10 by omega), cond_true, ref_byte h]
  ·have hd : u / 10 < 10 ^ (j + 1) := by
    rw [Nat.pow_succ] at hu
    omega
   have hb : u < 10 ^ 10 := Nat.lt_of_lt_of_le hu (Nat.pow_le_pow_right (by omega) (by omega))
   have h10 : (10 : Nat) ^ 10 = 10000000000 := by decide
   have h1 := rdec_ok j k (u / 10) hd (by omega) (by omega)
   have h2 : ref24_Dec k ((u % 10 : Nat) : Int) = some (Go.Lib.decDigits (u % 10)) := by
    obtain ⟨k, rfl, _⟩ := succ_of hk1
    have hm := Nat.mod_lt u (show 10 > 0 by omega)
    rw [dec_small hm]
    simp only [ref24_Dec, decide_eq_true (show ((u % 10 : Nat) : Int) < 10 by omega), cond_true, ref_byte hm]
   have q1 : quoI .i64 (u : Int) 10 = some ((u / 10 : Nat) : Int) := by
    unfold quoI
    rw [if_neg (by omega)]
    show some (Go.IntKind.wrap .i64 ((u : Int).tdiv 10)) = _
    rw [Int.tdiv_eq_ediv_of_nonneg (by omega), wrap_in (by omega) (by omega)]
    rfl
   have r1 : remE (u : Int) 10 = some ((u % 10 : Nat) : Int) := by
    unfold remE
    rw [if_neg (by omega)]
    show some ((u : Int).tmod 10) = _
    rw [Int.tmod_eq_emod_of_nonneg (by omega)]
    rfl
   have hl := dec_len j (u / 10) hd
   have hc : cat (Go.Lib.decDigits (u / 10)) (Go.Lib.decDigits (u % 10)) = some (Go.Lib.decDigits (u / 10) ++ [UInt8.ofNat (48 + u % 10)]) := by
    rw [dec_small (Nat.mod_lt u (show 10 > 0 by omega))]
    exact cat_okT (by simp only [List.length_cons, List.length_nil]; unfold maxList; omega)
   rw [dec_large h]
   simp only [ref24_Dec, decide_eq_false (show ¬ (u : Int) < 10 by omega), cond_false, Option.bind_some, q1, r1, h1, h2, hc]
theorem rdec_place {k : Nat} {n : Int} (hk : 10 ≤ k) (h : Small n) : ref24_Dec k n = some (placeT n) := by
 rw [placeT_nonneg h.1]
 have := rdec_ok 8 k n.toNat (by have := h.2; simp; omega) (by omega) hk
 rw [Int.toNat_of_nonneg h.1] at this
 exact this
theorem ref24_place_ok {k : Nat} {n : Int} (hk : 11 ≤ k) (h : n < 1000000000) : ref24_place k n = some (placeT n) := by
 obtain ⟨k, rfl, _⟩ := succ_of hk
 simp only [ref24_place]
 by_cases h0 : n < 0
 ·rw [decide_eq_true h0]
  unfold placeT
  rw [if_pos h0]
  rfl
 ·rw [decide_eq_false h0, cond_false, rdec_place (by omega) ⟨by omega, h⟩]
  rfl
theorem rformat_L1 {k : Nat} {f : T_api_Form} (hk : 11 ≤ k) (hc : FormC f) {K : Str → Int → Option (Str × Int)} {m : Nat} (hm : f.fMarks.length < m) {s0 : Str} (h0 : s0.length ≤ 1000) :
  ref24_Format_L1 k f K m s0 0 = K (s0 ++ nl (f.fMarks.map fun m => jn 32 (markW m))) (f.fMarks.length : Int) ∧ (s0 ++ nl (f.fMarks.map fun m => jn 32 (markW m))).length ≤ 2000 := by
 have h8 := hc.m8
 obtain ⟨h1, h2⟩ := foldLoop (l := f.fMarks) (L := fun m x s => ref24_Format_L1 k f K m s x) (stp := fun s a => s ++ (jn 32 (markW a) ++ [10])) (K := fun s => K s (f.fMarks.length : Int)) (fun i s => s.length ≤ 1000 + 101 * i) (fun m i hi s hs => by
   have hmk := hc.mark _ (List.getElem_mem hi)
   have hl := markW_len hmk
   have p1 := placeT_len hmk.1.2; have p2 := placeT_len hmk.2.1.2; have p3 := hmk.2.2.1
   have e1 := rdec_place (k := k) (by omega) hmk.1
   have e2 := rdec_place (k := k) (by omega) hmk.2.1
   refine ⟨?_, by simp only [List.length_append, List.length_cons, List.length_nil]; omega⟩
   simp only [ref24_Format_L1, lt_dec hi, cond_true, idx_at hi, Option.bind_some, e1, e2, wrap_next hi (show f.fMarks.length ≤ maxLen by rw [maxLen_lt]; omega)]
   simp (disch := (simp only [List.length_append, List.length_cons, List.length_nil, maxList]; omega)) only [cat_okT, Option.bind_some]
   congr 1
   simp [markW, jn]) (fun m s hs => by simp only [ref24_Format_L1, lt_self, cond_false]) hm (s0 := s0) (by simpa using h0)
 rw [fold_nl] at h1 h2
 exact ⟨h1, by omega⟩
theorem rformat_L2 {k : Nat} {f : T_api_Form} (hk : 11 ≤ k) (hc : FormC f) {K : Str → Int → Option (Str × Int)} {m : Nat} (hm : f.fFields.length < m) {s0 : Str} (h0 : s0.length ≤ 2000) :
  ref24_Format_L2 k f K m s0 0 = K (s0 ++ nl (f.fFields.map fun x => jn 32 (fieldW x))) (f.fFields.length : Int) := by
 have h8 := hc.f10
 obtain ⟨h1, h2⟩ := foldLoop (l := f.fFields) (L := fun m x s => ref24_Format_L2 k f K m s x) (stp := fun s a => s ++ (jn 32 (fieldW a) ++ [10])) (K := fun s => K s (f.fFields.length : Int)) (fun i s => s.length ≤ 2000 + 101 * i) (fun m i hi s hs => by
   have hmk := hc.fd _ (List.getElem_mem hi)
   have hl := fieldW_len hmk
   obtain ⟨g1, _, _, g4, g5, g6, g7, g8, g9⟩ := hmk
   have p1 := placeT_len g4.2; have p2 := placeT_len g5.2; have p3 := placeT_len g6.2
   have p4 := placeT_len (n := f.fFields[i].fIn) (by omega); have p5 := placeT_len (n := f.fFields[i].fOut) (by omega); have p6 := placeT_len (n := f.fFields[i].fFill) (by omega)
   have e1 := rdec_place (k := k) (by omega) g4
   have e2 := rdec_place (k := k) (by omega) g5
   have e3 := rdec_place (k := k) (by omega) g6
   have e4 := ref24_place_ok (k := k) (n := f.fFields[i].fIn) hk (by omega)
   have e5 := ref24_place_ok (k := k) (n := f.fFields[i].fOut) hk (by omega)
   have e6 := rdec_place (k := k) (by omega) (Small.fill g9)
   refine ⟨?_, by simp only [List.length_append, List.length_cons, List.length_nil]; omega⟩
   simp only [ref24_Format_L2, lt_dec hi, cond_true, idx_at hi, Option.bind_some, wrap_small g9.1 g9.2, e1, e2, e3, e4, e5, e6, wrap_next hi (show f.fFields.length ≤ maxLen by rw [maxLen_lt]; omega)]
   simp (disch := (simp only [List.length_append, List.length_cons, List.length_nil, maxList]; omega)) only [cat_okT, Option.bind_some]
   congr 1
   simp [fieldW, jn]) (fun m s hs => by simp only [ref24_Format_L2, lt_self, cond_false]) hm (s0 := s0) (by simpa using h0)
 rw [fold_nl] at h1
 exact h1
theorem ref24_Format_ok {k : Nat} {f : T_api_Form} (hk : maxLen + 30 ≤ k) (hw : wf_T_api_Form f) : ref24_Format k f = some (FormatS f) := by
 obtain ⟨k, rfl, hq⟩ := succ_of hk
 simp only [ref24_Format, ref24_Valid_ok (show maxLen + 20 ≤ k by omega) hw, Option.bind_some, FormatS]
 cases ho : okF f with
 | false => rfl
 | true =>
  have hc := (okF_form ho).toC
  have hl0 := formW_len hc.r hc.c
  have p1 := placeT_len hc.r.2; have p2 := placeT_len hc.c.2
  have e1 := rdec_place (k := k) (by omega) hc.r
  have e2 := rdec_place (k := k) (by omega) hc.c
  simp only [Bool.not_true, cond_false, cond_true, e1, e2, Option.bind_some]
  simp (disch := (simp only [List.length_append, List.length_cons, List.length_nil, maxList]; omega)) only [cat_okT, Option.bind_some]
  have e0 : ([70, 79, 82, 77, 32] : Str) ++ placeT f.fRows ++ [32] ++ placeT f.fColumns ++ [10] = [] ++ (jn 32 (formW f.fRows f.fColumns) ++ [10]) := by simp [formW, jn]
  rw [e0]
  rw [maxLen_lt] at hq
  have h8 := hc.m8; have h10 := hc.f10
  obtain ⟨g1, g2⟩ := rformat_L1 (k := k) (by omega) hc (K := fun y36 y37 => (ref24_Format_L2 k f (fun y88 y89 => (some (y88, 0))) k y36 0)) (m := k) (by omega) (s0 := [] ++ (jn 32 (formW f.fRows f.fColumns) ++ [10])) (by simp only [List.length_append, List.length_cons, List.length_nil]; omega)
  refine Eq.trans g1 ?_
  refine Eq.trans (rformat_L2 (by omega) hc (by omega) g2) ?_
  rw [← canon_eq]
end Go.Sh

namespace Go.Sh
open Go.AE
set_option linter.unusedVariables false
set_option linter.unusedSimpArgs false
theorem wfI_of64 {n : Int} (h : -9223372036854775808 ≤ n) (h' : n ≤ 9223372036854775807) : wfI .i64 n := by
 show (decide (IntKind.min .i64 ≤ n) && decide (n ≤ IntKind.max .i64)) = true
 rw [Bool.and_eq_true, decide_eq_true_eq, decide_eq_true_eq]
 exact ⟨h, h'⟩
theorem wfI_of8 {n : Int} (h : 0 ≤ n) (h' : n ≤ 255) : wfI .u8 n := by
 show (decide (IntKind.min .u8 ≤ n) && decide (n ≤ IntKind.max .u8)) = true
 rw [Bool.and_eq_true, decide_eq_true_eq, decide_eq_true_eq]
 exact ⟨h, h'⟩
def extH (cur : Str) : List Str → List Str
 | [] => []
 | x :: y => (cur ++ x) :: y
theorem extH_nil : ∀ {l : List Str}, extH [] l = l
 | [] => rfl
 | x :: y => rfl
theorem split_L1 {s : Str} {c : UInt8} {most : Nat} (hs : s.length ≤ 100000) (hm1 : most ≤ 1000) {K : Int → List Str → Option (List Str)} : ∀ (d i m : Nat) (pre : List Str) (cur : Str), i + d = s.length → d < m → pre.length + 1 ≤ most → cur.length ≤ i →
  ref24_Split_L1 s (c.toNat : Int) (most : Int) K m (i : Int) (pre ++ [cur]) = K (s.length : Int) (pre ++ extH cur (sk c (most - 1 - pre.length) (s.drop i)))
 | 0, i, m, pre, cur, hd, hm, hp, hc => by
  obtain ⟨m, rfl⟩ : ∃ q, m = q + 1 := ⟨m - 1, by omega⟩
  obtain rfl : i = s.length := by omega
  rw [List.drop_length, sk_no (by simp)]
  simp only [ref24_Split_L1, lt_self, cond_false, extH, List.append_nil]
 | d + 1, i, m, pre, cur, hd, hm, hp, hc => by
  obtain ⟨m, rfl⟩ : ∃ q, m = q + 1 := ⟨m - 1, by omega⟩
  have hi : i < s.length := by omega
  have hlen : ((pre ++ [cur]).length : Int) = ((pre.length + 1 : Nat) : Int) := by simp
  simp only [ref24_Split_L1, lt_dec hi, cond_true, idxS_at hi, Option.bind_some, wrap_next hi (show s.length ≤ maxLen by rw [maxLen_lt]; omega)]
  rw [List.drop_eq_getElem_cons hi]
  have step2 : (∃ x y, sk c (most - 1 - pre.length) (s.drop (i + 1)) = x :: y ∧ sk c (most - 1 - pre.length) (s[i] :: s.drop (i + 1)) = (s[i] :: x) :: y) →
    (((inB (pre ++ [cur]).length (Go.IntKind.wrap .i64 (((pre ++ [cur]).length : Int) - 1))).bind fun v18 => (((pre ++ [cur])[0 + (Go.IntKind.wrap .i64 (((pre ++ [cur]).length : Int) - 1)).toNat]?).bind fun v19 => ((cut s (i : Int) ((i + 1 : Nat) : Int)).bind fun v20 => ((cat v19 v20).bind fun v21 => ((inB (pre ++ [cur]).length (Go.IntKind.wrap .i64 (((pre ++ [cur]).length : Int) - 1))).bind fun v22 => (((pre ++ [cur])[0 + (Go.IntKind.wrap .i64 (((pre ++ [cur]).length : Int) - 1)).toNat]?).bind fun v23 => (some (((pre ++ [cur]).set (0 + (Go.IntKind.wrap .i64 (((pre ++ [cur]).length : Int) - 1)).toNat) v21))))))))).bind fun o24 =>
      (ref24_Split_L1 s (c.toNat : Int) (most : Int) K m ((i + 1 : Nat) : Int) o24)) = K (s.length : Int) (pre ++ extH cur (sk c (most - 1 - pre.length) (s[i] :: s.drop (i + 1)))) := by
   rintro ⟨x, y, h1, h2⟩
   have w1 : Go.IntKind.wrap .i64 (((pre ++ [cur]).length : Int) - 1) = ((pre.length : Nat) : Int) := by rw [hlen, wrap_in (by omega) (by omega)]; omega
   have e1 : inB (pre ++ [cur]).length ((pre.length : Nat) : Int) = some () := by
    unfold inB
    rw [if_pos ⟨by omega, by rw [List.length_append]; simp; omega⟩]
   have e2 : (pre ++ [cur])[0 + ((pre.length : Nat) : Int).toNat]? = some cur := by
    rw [Int.toNat_natCast, Nat.zero_add, List.getElem?_append_right (Nat.le_refl _), Nat.sub_self]
    rfl
   have e3 : cut s (i : Int) ((i + 1 : Nat) : Int) = some [s[i]] := by
    rw [cut_in (by omega) (by omega), List.take_succ_eq_append_getElem hi, List.drop_append_of_le_length (by simp; omega), List.drop_of_length_le (by rw [List.length_take]; omega)]
    rfl
   have e4 : cat cur [s[i]] = some (cur ++ [s[i]]) := cat_okT (by simp only [List.length_cons, List.length_nil]; unfold maxList; omega)
   have e5 : (pre ++ [cur]).set (0 + ((pre.length : Nat) : Int).toNat) (cur ++ [s[i]]) = pre ++ [cur ++ [s[i]]] := by
    rw [Int.toNat_natCast, Nat.zero_add, List.set_append_right _ _ (Nat.le_refl _), Nat.sub_self]
    rfl
   simp only [w1, e1, e2, e3, e4, e5, Option.bind_some]
   rw [split_L1 hs hm1 d (i + 1) m pre (cur ++ [s[i]]) (by omega) (by omega) hp (by simp; omega), h1, h2]
   simp only [extH, List.append_assoc, List.singleton_append]
  by_cases hb : s[i] = c
  ·have hb' : ((s[i].toNat : Int) == (c.toNat : Int)) = true := by rw [hb]; simp
   rw [hb', cond_true, Option.bind_some]
   by_cases hq : pre.length + 1 < most
   ·rw [decide_eq_true (show ((pre ++ [cur]).length : Int) < (most : Int) by rw [hlen]; omega), cond_true]
    rw [app_ok (by simp only [List.length_append, List.length_cons, List.length_nil]; unfold maxList; omega), Option.bind_some]
    rw [split_L1 hs hm1 d (i + 1) m (pre ++ [cur]) [] (by omega) (by omega) (by simp; omega) (by simp)]
    rw [hb]
    obtain ⟨q, hq2⟩ : ∃ q, most - 1 - pre.length = q + 1 := ⟨most - 1 - pre.length - 1, by omega⟩
    rw [hq2, sk_cons_eq, extH_nil, show most - 1 - (pre ++ [cur]).length = q by simp; omega]
    simp [extH]
   ·rw [decide_eq_false (show ¬ ((pre ++ [cur]).length : Int) < (most : Int) by rw [hlen]; omega), cond_false]
    refine step2 ?_
    rw [show most - 1 - pre.length = 0 by omega]
    exact ⟨_, _, rfl, rfl⟩
  ·have hb' : ((s[i].toNat : Int) == (c.toNat : Int)) = false := by
    rw [beq_eq_false_iff_ne]
    intro e
    exact hb (UInt8.toNat_inj.1 (by omega))
   rw [hb', cond_false, Option.bind_some, cond_false]
   exact step2 (sk_cons_ne hb _ _)
theorem ref24_Split_ok {k : Nat} {s : Str} {c : UInt8} {most : Nat} (hk : 100002 ≤ k) (hs : s.length ≤ 100000) (h1 : 1 ≤ most) (hm1 : most ≤ 1000) : ref24_Split k s (c.toNat : Int) (most : Int) = some (sk c (most - 1) s) := by
 obtain ⟨k, rfl, hq⟩ := succ_of hk
 simp only [ref24_Split]
 have := split_L1 (s := s) (c := c) (most := most) hs hm1 (K := fun y25 y26 => some y26) s.length 0 k [] [] (by omega) (by omega) (by simp; omega) (by simp)
 rw [List.nil_append, List.nil_append, List.drop_zero, extH_nil] at this
 exact this
theorem fdT_L1 {s : Str} (hl : s.length ≤ 9) : ∀ (d i m : Nat) (n : Int), i + d = s.length → d < m → 0 ≤ n → n < 10 ^ i → ref01_FromDigits_L1 s (fun y14 _ => some (y14, 0)) m n (i : Int) = some (fdGo (s.drop i) n)
 | 0, i, m, n, hi, hm, n0, n1 => by
  obtain ⟨m, rfl⟩ : ∃ q, m = q + 1 := ⟨m - 1, by omega⟩
  simp only [ref01_FromDigits_L1, decide_eq_false (show ¬ (i : Int) < (s.length : Int) by omega), cond_false]
  rw [List.drop_of_length_le (by omega)]
  rfl
 | d + 1, i, m, n, hi, hm, n0, n1 => by
  obtain ⟨m, rfl⟩ : ∃ q, m = q + 1 := ⟨m - 1, by omega⟩
  have hi' : i < s.length := by omega
  rw [List.drop_eq_getElem_cons hi', fdGo]
  have hb := s[i].toNat_lt
  have h9 : (10 : Int) ^ i ≤ 10 ^ 8 := by
   have := Nat.pow_le_pow_right (n := 10) (by omega) (show i ≤ 8 by omega)
   have e1 : ((10 ^ i : Nat) : Int) = 10 ^ i := Int.natCast_pow 10 i
   have e2 : ((10 ^ 8 : Nat) : Int) = 10 ^ 8 := Int.natCast_pow 10 8
   rw [← e1, ← e2]
   exact Int.ofNat_le.2 this
  have h8 : (10 : Int) ^ 8 = 100000000 := by decide
  have hp : (10 : Int) ^ (i + 1) = 10 ^ i * 10 := by rw [Int.pow_succ]
  have hw : Go.IntKind.wrap .i64 ((i : Int) + 1) = ((i + 1 : Nat) : Int) := by rw [wrap_in (by omega) (by omega)]; omega
  simp only [ref01_FromDigits_L1, decide_eq_true (show (i : Int) < (s.length : Int) by omega), cond_true, idxS_at hi', Option.bind_some, hw]
  by_cases h1 : s[i].toNat < 48
  ·rw [if_pos (Or.inl h1), decide_eq_true (show (s[i].toNat : Int) < 48 by omega)]
   rfl
  ·rw [decide_eq_false (show ¬ (s[i].toNat : Int) < 48 by omega)]
   by_cases h2 : 57 < s[i].toNat
   ·rw [if_pos (Or.inr h2), decide_eq_true (show (s[i].toNat : Int) > 57 by omega)]
    rfl
   ·rw [if_neg (by omega), decide_eq_false (show ¬ (s[i].toNat : Int) > 57 by omega)]
    have w1 : Go.IntKind.wrap .i64 (10 * n) = 10 * n := wrap_in (by omega) (by omega)
    have w2 : Go.IntKind.wrap .u8 ((s[i].toNat : Int) - 48) = (s[i].toNat : Int) - 48 := by
     show ((s[i].toNat : Int) - 48) % 256 = _
     exact Int.emod_eq_of_lt (by omega) (by omega)
    have w3 : Go.IntKind.wrap .i64 ((s[i].toNat : Int) - 48) = (s[i].toNat : Int) - 48 := wrap_in (by omega) (by omega)
    have w4 : Go.IntKind.wrap .i64 (10 * n + ((s[i].toNat : Int) - 48)) = 10 * n + ((s[i].toNat : Int) - 48) := wrap_in (by omega) (by omega)
    simp only [cond_false, Option.bind_some, w1, w2, w3, w4]
    exact fdT_L1 hl d (i + 1) m _ (by omega) (by omega) (by omega) (by rw [hp]; omega)
theorem refFdT_ok {k : Nat} {s : Str} (hk : 20 ≤ k) : ref01_FromDigits k s = some (fdS s) := by
 obtain ⟨k, rfl⟩ : ∃ q, k = q + 1 := ⟨k - 1, by omega⟩
 unfold fdS
 by_cases h1 : s.length < 1
 ·rw [if_pos (Or.inl h1)]
  simp only [ref01_FromDigits, decide_eq_true (show (s.length : Int) < 1 by omega), cond_true, Option.bind_some]
 ·by_cases h2 : 9 < s.length
  ·rw [if_pos (Or.inr h2)]
   simp only [ref01_FromDigits, decide_eq_false (show ¬ (s.length : Int) < 1 by omega), decide_eq_true (show (s.length : Int) > 9 by omega), cond_true, cond_false, Option.bind_some]
  ·rw [if_neg (by omega)]
   simp only [ref01_FromDigits, decide_eq_false (show ¬ (s.length : Int) < 1 by omega), decide_eq_false (show ¬ (s.length : Int) > 9 by omega), cond_false, Option.bind_some]
   exact fdT_L1 (by omega) s.length 0 k 0 (by omega) (by omega) (by omega) (by decide)
theorem ref24_number_ok {k : Nat} {s : Str} (hk : 30 ≤ k) : ref24_number k s = some (numQ s) := by
 obtain ⟨k, rfl, hq⟩ := succ_of hk
 have hr := fdS_range s
 simp only [ref24_number, refFdT_ok (show 20 ≤ k by omega), Option.bind_some, rdec_place (show 10 ≤ k by omega) hr, numQ, placeT_nonneg hr.1]
 cases (fdS s).2 == 0 <;> rfl
theorem numbers_L1 {k : Nat} (hk : 30 ≤ k) {d : Int} {l : List Str} (hl : l.length ≤ 2000) : ∀ (n i m : Nat) (acc : List Int), i + n = l.length → n < m → acc.length ≤ i →
  ref24_numbers_L1 k l d (fun y21 _ => some (y21, true)) m acc (i : Int) = some (match numsQ d i (l.drop i) with | some v => (acc ++ v, true) | none => ([], false))
 | 0, i, m, acc, hi, hm, ha => by
  obtain ⟨m, rfl⟩ : ∃ q, m = q + 1 := ⟨m - 1, by omega⟩
  obtain rfl : i = l.length := by omega
  rw [List.drop_length]
  simp only [ref24_numbers_L1, lt_self, cond_false, numsQ, List.append_nil]
 | n + 1, i, m, acc, hi, hm, ha => by
  obtain ⟨m, rfl⟩ : ∃ q, m = q + 1 := ⟨m - 1, by omega⟩
  have hi' : i < l.length := by omega
  have happ : ∀ z : Int, app acc [z] = some (acc ++ [z]) := fun z => app_ok (by simp only [List.length_cons, List.length_nil]; unfold maxList; omega)
  have ih := fun z : Int => numbers_L1 hk (d := d) hl n (i + 1) m (acc ++ [z]) (by omega) (by omega) (by simp; omega)
  simp only [ref24_numbers_L1, lt_dec hi', cond_true, idx_at hi', Option.bind_some, wrap_next hi' (show l.length ≤ maxLen by rw [maxLen_lt]; omega), happ, ref24_number_ok hk, ih]
  rw [List.drop_eq_getElem_cons hi', numsQ]
  have e0 : (bif decide ((i : Int) ≥ d) then some (l[i] == ([45] : Str)) else some false) = some (decide ((i : Int) ≥ d) && (l[i] == ([45] : Str))) := by cases decide ((i : Int) ≥ d) <;> rfl
  rw [e0, Option.bind_some]
  cases h1 : (decide ((i : Int) ≥ d) && (l[i] == ([45] : Str))) with
  | true =>
   rw [cond_true, if_pos rfl]
   cases numsQ d (i + 1) (l.drop (i + 1)) <;> simp
  | false =>
   rw [cond_false, if_neg (by simp)]
   cases h2 : (numQ l[i]).2 with
   | false => rw [if_neg (by simp)]; rfl
   | true =>
    rw [if_pos rfl]
    cases numsQ d (i + 1) (l.drop (i + 1)) <;> simp
theorem ref24_numbers_ok {k : Nat} {d : Int} {l : List Str} (hk : 3000 ≤ k) (hl : l.length ≤ 2000) : ref24_numbers k l d = some (match numsQ d 0 l with | some v => (v, true) | none => ([], false)) := by
 obtain ⟨k, rfl, hq⟩ := succ_of hk
 simp only [ref24_numbers]
 have := numbers_L1 (k := k) (by omega) (d := d) hl l.length 0 k [] (by omega) (by omega) (by simp)
 rw [List.drop_zero] at this
 simpa using this
def nv (s : Str) : Int × Bool := (numV true s).getD (0, false)
theorem nv_eq {s : Str} (h : s.length ≤ 1000) : numV true s = some (nv s) := by
 obtain ⟨n, b, h1, _⟩ := numV_some (d := true) (s := s) (by omega)
 unfold nv
 rw [h1]
 rfl
theorem nv_in {s : Str} (h : s.length ≤ 1000) : -9223372036854775808 ≤ (nv s).1 ∧ (nv s).1 ≤ 9223372036854775807 := by
 obtain ⟨n, b, h1, h2, h3⟩ := numV_some (d := true) (s := s) (by omega)
 unfold nv
 rw [h1]
 exact ⟨h2, h3⟩
theorem nv_place {n : Int} (h0 : -1 ≤ n) (h1 : n < 1000000000) : nv (placeT n) = (n, true) := by
 unfold nv
 rw [numV_place h0 h1]
 rfl
theorem fold_nv : ∀ (l : List Str) (s : List Int × Bool), l.foldl (fun s a => (s.1 ++ [(nv a).1], s.2 && (nv a).2)) s = (s.1 ++ l.map (fun a => (nv a).1), s.2 && l.all fun a => (nv a).2)
 | [], s => by simp
 | a :: l, s => by
  rw [List.foldl_cons, fold_nv l]
  simp [Bool.and_assoc]
theorem screen_numbers_ok {k : Nat} {l : List Str} (hk : 3000 ≤ k) (hl : l.length ≤ 2000) (hw : ∀ w ∈ l, w.length ≤ 1000) : screen_numbers k l = some (l.map (fun a => (nv a).1), l.all fun a => (nv a).2) := by
 obtain ⟨k, rfl, hq⟩ := succ_of hk
 simp only [screen_numbers]
 obtain ⟨h1, _⟩ := foldLoop (l := l) (L := fun m x (s : List Int × Bool) => screen_numbers_L1 k l (fun y17 y18 y19 => some (y17, y18)) m s.1 s.2 x) (stp := fun s a => (s.1 ++ [(nv a).1], s.2 && (nv a).2)) (K := fun s => some (s.1, s.2)) (fun i s => s.1.length = i) (fun m i hi s hs => by
   obtain ⟨k, rfl, hq2⟩ := succ_of (show 10 + 1 ≤ k by omega)
   have happ : ∀ z : Int, app s.1 [z] = some (s.1 ++ [z]) := fun z => app_ok (by simp only [List.length_cons, List.length_nil]; unfold maxList; omega)
   refine ⟨?_, by simp [hs]⟩
   simp only [screen_numbers_L1, lt_dec hi, cond_true, idx_at hi, Option.bind_some, screen_number, nv_eq (hw _ (List.getElem_mem hi)), happ, wrap_next hi (show l.length ≤ maxLen by rw [maxLen_lt]; omega)]
   cases s.2 <;> rfl) (fun m s hs => by simp only [screen_numbers_L1, lt_self, cond_false]) (show l.length < k by omega) (s0 := ([], true)) rfl
 rw [fold_nv] at h1
 simpa using h1
end Go.Sh

namespace Go.Sh
open Go.AE
set_option linter.unusedVariables false
set_option linter.unusedSimpArgs false
def zeroF : T_api_Form := { fRows := 0, fColumns := 0, fMarks := [], fFields := [] }
def fieldR (f : T_api_Form) (ws : List Str) : Option T_api_Form := match ws with
 | [nm, a, b, c, d, e, g] => match numsQ 3 0 [a, b, c, d, e] with
  | some [r, c', n, i, o] => if (numQ g).2 = true ∧ (numQ g).1 < 256 then some { f with fFields := f.fFields ++ [⟨nm, r, c', n, i, o, (numQ g).1⟩] } else none
  | _ => none
 | _ => none
theorem fieldR_no {f : T_api_Form} {ws : List Str} (h : ws.length ≠ 7) : fieldR f ws = none := by
 unfold fieldR
 split
 ·exact absurd rfl h
 ·rfl
def lineR (f : T_api_Form) (s : Str) : Option T_api_Form :=
 match sk 32 999 s with
 | [] => none
 | w0 :: ws =>
  if w0 = [77, 65, 82, 75] then match sk 32 3 s with
   | [_, a, b, t] => if f.fFields = [] then match numsQ 9 0 [a, b] with
    | some [r, c] => some { f with fMarks := f.fMarks ++ [⟨r, c, t⟩] }
    | _ => none else none
   | _ => none
  else if w0 = [70, 73, 69, 76, 68] then fieldR f ws
  else none
def lineP (f : T_api_Form) (s : Str) : Bool × T_api_Form := match lineR f s with
 | some f' => (true, f')
 | none => (false, f)
theorem len2 {α : Type} : ∀ {l : List α}, l.length = 2 → ∃ a b, l = [a, b]
 | [a, b], _ => ⟨a, b, rfl⟩
theorem len5 {α : Type} : ∀ {l : List α}, l.length = 5 → ∃ a b c d e, l = [a, b, c, d, e]
 | [a, b, c, d, e], _ => ⟨a, b, c, d, e, rfl⟩
theorem len7 {α : Type} : ∀ {l : List α}, l.length = 7 → ∃ a b c d e f g, l = [a, b, c, d, e, f, g]
 | [a, b, c, d, e, f, g], _ => ⟨a, b, c, d, e, f, g, rfl⟩
theorem wrap_byte {n : Int} (h0 : 0 ≤ n) (h1 : n < 256) : Go.IntKind.wrap .u8 n = n := by
 show n % 256 = _
 exact Int.emod_eq_of_lt h0 h1
set_option maxHeartbeats 1000000 in
theorem ref24_line_ok {k : Nat} {f : T_api_Form} {s : Str} (hk : 100010 ≤ k) (hs : s.length ≤ 1000) (hm : f.fMarks.length ≤ 2000) (hf : f.fFields.length ≤ 2000) : ref24_line k f s = some (lineP f s) := by
 obtain ⟨k, rfl, hq⟩ := succ_of hk
 have e1 : ref24_Split k s 32 1000 = some (sk 32 999 s) := ref24_Split_ok (c := 32) (most := 1000) (by omega) (by omega) (by omega) (by omega)
 have e2 : ref24_Split k s 32 4 = some (sk 32 3 s) := ref24_Split_ok (c := 32) (most := 4) (by omega) (by omega) (by omega) (by omega)
 have happM : ∀ z, app f.fMarks [z] = some (f.fMarks ++ [z]) := fun z => app_ok (by simp only [List.length_cons, List.length_nil]; unfold maxList; omega)
 have happF : ∀ z, app f.fFields [z] = some (f.fFields ++ [z]) := fun z => app_ok (by simp only [List.length_cons, List.length_nil]; unfold maxList; omega)
 have h4 := sk_len 32 3 s
 have hne := sk_ne 32 999 s
 unfold lineP lineR
 simp only [ref24_line, e1, e2, Option.bind_some]
 generalize sk 32 999 s = L at hne
 generalize sk 32 3 s = M at h4
 cases L with
 | nil => exact absurd rfl hne
 | cons w0 ws =>
 have i0 : idx (w0 :: ws) 0 = some w0 := rfl
 simp only [i0, Option.bind_some]
 by_cases hw : w0 = [77, 65, 82, 75]
 ·rw [if_pos hw, show (w0 == ([77, 65, 82, 75] : Str)) = true by rw [hw]; rfl, cond_true]
  match M, h4 with
  | [], _ => rfl
  | [_], _ => rfl
  | [_, _], _ => rfl
  | [_, _, _], _ => rfl
  | [w, a, b, t], _ =>
   have c1 : cut [w, a, b, t] 1 3 = some [a, b] := rfl
   have c2 : idx [w, a, b, t] 3 = some t := rfl
   have d1 : decide ((([w, a, b, t] : List Str).length : Int) < 4) = false := rfl
   simp only [d1, cond_false, Option.bind_some, c1, c2, ref24_numbers_ok (show 3000 ≤ k by omega) (show ([a, b] : List Str).length ≤ 2000 by simp)]
   by_cases hz : f.fFields = []
   ·rw [if_pos hz, hz, show decide ((([] : List T_api_Slot).length : Int) > 0) = false from rfl, cond_false]
    cases hn : numsQ 9 0 [a, b] with
    | none => simp only [cond_false]
    | some v =>
     obtain ⟨r, c, rfl⟩ := len2 (numsQ_len _ _ _ hn)
     have j0 : idx [r, c] 0 = some r := rfl
     have j1 : idx [r, c] 1 = some c := rfl
     simp only [cond_true, j0, j1, Option.bind_some, happM]
   ·rw [if_neg hz, decide_eq_true (show (f.fFields.length : Int) > 0 by have := List.length_pos_iff.2 hz; exact Int.ofNat_lt.2 this), cond_true]
  | _ :: _ :: _ :: _ :: _ :: _, h => simp at h
 ·rw [if_neg hw, show (w0 == ([77, 65, 82, 75] : Str)) = false by rw [beq_eq_false_iff_ne]; exact hw, cond_false]
  by_cases hw2 : w0 = [70, 73, 69, 76, 68]
  ·rw [if_pos hw2, show (w0 == ([70, 73, 69, 76, 68] : Str)) = true by rw [hw2]; rfl, cond_true]
   by_cases h7 : ws.length = 7
   ·obtain ⟨nm, a, b, c, d, e, g, rfl⟩ := len7 h7
    unfold fieldR
    have c1 : cut [w0, nm, a, b, c, d, e, g] 2 7 = some [a, b, c, d, e] := rfl
    have c2 : idx [w0, nm, a, b, c, d, e, g] 7 = some g := rfl
    have c3 : idx [w0, nm, a, b, c, d, e, g] 1 = some nm := rfl
    have d1 : ((([w0, nm, a, b, c, d, e, g] : List Str).length : Int) != 8) = false := rfl
    simp only [d1, cond_false, Option.bind_some, c1, c2, c3, ref24_number_ok (show 30 ≤ k by omega), ref24_numbers_ok (show 3000 ≤ k by omega) (show ([a, b, c, d, e] : List Str).length ≤ 2000 by simp)]
    cases hn : numsQ 3 0 [a, b, c, d, e] with
    | none => simp only [cond_false, Option.bind_some]
    | some v =>
     obtain ⟨r, c', n, i, o, rfl⟩ := len5 (numsQ_len _ _ _ hn)
     have j0 : idx [r, c', n, i, o] 0 = some r := rfl
     have j1 : idx [r, c', n, i, o] 1 = some c' := rfl
     have j2 : idx [r, c', n, i, o] 2 = some n := rfl
     have j3 : idx [r, c', n, i, o] 3 = some i := rfl
     have j4 : idx [r, c', n, i, o] 4 = some o := rfl
     simp only [cond_true, j0, j1, j2, j3, j4, Option.bind_some, happF]
     cases hg : (numQ g).2 with
     | false =>
      rw [if_neg (by simp)]
      rfl
     | true =>
      have h0 := (numQ_true hg).2.1
      by_cases h256 : (numQ g).1 < 256
      ·rw [if_pos ⟨rfl, h256⟩, decide_eq_true h256, wrap_byte h0 h256]
       rfl
      ·rw [if_neg (fun h => h256 h.2), decide_eq_false h256]
       rfl
   ·have d1 : (((w0 :: ws).length : Int) != 8) = true := by
     rw [bne_iff_ne]
     simp only [List.length_cons]
     omega
    simp only [d1, cond_true]
    rw [fieldR_no h7]
  ·rw [if_neg hw2, show (w0 == ([70, 73, 69, 76, 68] : Str)) = false by rw [beq_eq_false_iff_ne]; exact hw2, cond_false]
def tailF (f : T_api_Form) : List Str := f.fMarks.map (fun m => jn 32 (markW m)) ++ f.fFields.map fun x => jn 32 (fieldW x)
structure WE (f : T_api_Form) : Prop where
 r : wfI .i64 f.fRows
 c : wfI .i64 f.fColumns
 m : ∀ m ∈ f.fMarks, wf_T_api_Mark m
 f : ∀ x ∈ f.fFields, wf_T_api_Slot x
theorem WE.wf {f : T_api_Form} (h : WE f) (hm : f.fMarks.length ≤ 2000) (hf : f.fFields.length ≤ 2000) : wf_T_api_Form f :=
 ⟨h.r, h.c, ⟨by rw [maxLen_lt]; omega, h.m⟩, ⟨by rw [maxLen_lt]; omega, h.f⟩, trivial⟩
theorem sk_whole {c : UInt8} {k : Nat} {s : Str} {l : List Str} (h : sk c k s = l) : s = jn c l := by
 rw [← h, jn_sk]
theorem lineR_some {f f' : T_api_Form} {s : Str} (hs : s.length ≤ 1000) (h : lineR f s = some f') : tailF f' = tailF f ++ [s] ∧ f'.fRows = f.fRows ∧ f'.fColumns = f.fColumns ∧ (WE f → WE f') ∧ f'.fMarks.length + f'.fFields.length = f.fMarks.length + f.fFields.length + 1 := by
 have hb := sk_bound 32 3 s
 have hb9 := sk_bound 32 999 s
 unfold lineR at h
 split at h
 ·cases h
 ·rename_i w0 ws h9
  split at h
  ·rename_i hw
   split at h
   ·rename_i w a b t h3
    split at h
    ·rename_i hz
     split at h
     ·rename_i r c hn
      obtain rfl := Option.some.inj h
      obtain ⟨n1, n2⟩ := numsQ_text _ _ _ hn
      have n3 := numsQ_nonneg _ _ _ (by simp) hn
      simp only [List.map_cons, List.map_nil, List.cons.injEq, and_true] at n1
      have hw2 : w = w0 := by
       have := sk_head 32 2 998 s
       rw [h3, h9] at this
       simpa using this
      have r1 := n2 r (by simp); have c1 := n2 c (by simp); have r0 := n3 r (by simp); have c0 := n3 c (by simp)
      rw [h3] at hb
      have ht := hb.2 t (by simp)
      refine ⟨?_, rfl, rfl, fun hwe => ⟨hwe.r, hwe.c, fun m hm => ?_, hwe.f⟩, by simp only [List.length_append, List.length_cons, List.length_nil]; omega⟩
      ·unfold tailF
       rw [hz]
       simp only [List.map_append, List.map_cons, List.map_nil, List.append_nil]
       congr 2
       rw [sk_whole h3, hw2, hw, n1.1, n1.2]
       rfl
      ·rw [List.mem_append, List.mem_singleton] at hm
       rcases hm with hm | rfl
       ·exact hwe.m m hm
       ·exact ⟨wfI_of64 (n := r) (by omega) (by omega), wfI_of64 (n := c) (by omega) (by omega), by show t.length ≤ maxLen; rw [maxLen_lt]; omega, trivial⟩
     ·cases h
    ·cases h
   ·cases h
  ·split at h
   ·rename_i hw0 hw
    unfold fieldR at h
    split at h
    ·rename_i nm a b c d e g
     split at h
     ·rename_i r c' n i o hn
      split at h
      ·rename_i hg
       obtain rfl := Option.some.inj h
       obtain ⟨n1, n2⟩ := numsQ_text _ _ _ hn
       simp only [List.map_cons, List.map_nil, List.cons.injEq, and_true] at n1
       obtain ⟨m1, m2, m3, m4, m5⟩ := n1
       obtain ⟨g1, g2, g3⟩ := numQ_true hg.1
       have r1 := n2 r (by simp); have c1 := n2 c' (by simp); have b1 := n2 n (by simp); have i1 := n2 i (by simp); have o1 := n2 o (by simp)
       rw [h9] at hb9
       have ht := hb9.2 nm (by simp)
       have hg2 := hg.2
       refine ⟨?_, rfl, rfl, fun hwe => ⟨hwe.r, hwe.c, hwe.m, fun m hm => ?_⟩, by simp only [List.length_append, List.length_cons, List.length_nil]; omega⟩
       ·unfold tailF
        simp only [List.map_append, List.map_cons, List.map_nil, ← List.append_assoc]
        congr 2
        have gT : placeT (numQ g).1 = g := by rw [placeT_nonneg g2]; exact g1.symm
        rw [sk_whole h9]
        simp only [fieldW, gT, hw, m1, m2, m3, m4, m5]
       ·rw [List.mem_append, List.mem_singleton] at hm
        rcases hm with hm | rfl
        ·exact hwe.f m hm
        ·exact ⟨by show nm.length ≤ maxLen; rw [maxLen_lt]; omega, wfI_of64 (n := r) (by omega) (by omega), wfI_of64 (n := c') (by omega) (by omega), wfI_of64 (n := n) (by omega) (by omega), wfI_of64 (n := i) (by omega) (by omega), wfI_of64 (n := o) (by omega) (by omega), wfI_of8 (n := (numQ g).1) (by omega) (by omega), trivial⟩
      ·cases h
     ·cases h
    ·cases h
   ·cases h
theorem lineR_mark {f : T_api_Form} {m : T_api_Mark} (hz : f.fFields = []) (hm : MarkC m) : lineR f (jn 32 (markW m)) = some { f with fMarks := f.fMarks ++ [m] } := by
 obtain ⟨h1, h2, h3, h4⟩ := hm
 have e1 : jn 32 (markW m) = [77, 65, 82, 75] ++ 32 :: jn 32 [placeT m.fRow, placeT m.fColumn, m.fText] := rfl
 have e2 : sk 32 999 (jn 32 (markW m)) = [77, 65, 82, 75] :: sk 32 998 (jn 32 [placeT m.fRow, placeT m.fColumn, m.fText]) := by
  rw [e1]
  exact sk_at _ (by decide) 998
 have e3 : sk 32 3 (jn 32 (markW m)) = [[77, 65, 82, 75], placeT m.fRow, placeT m.fColumn, m.fText] := sk_jn_last m.fText [[77, 65, 82, 75], placeT m.fRow, placeT m.fColumn] (by
  intro w hw
  simp only [List.mem_cons, List.not_mem_nil, or_false] at hw
  rcases hw with rfl | rfl | rfl
  ·decide
  ·exact placeT_no (by decide) _
  ·exact placeT_no (by decide) _)
 have e4 : numsQ 9 0 [placeT m.fRow, placeT m.fColumn] = some [m.fRow, m.fColumn] := numsQ_place [m.fRow, m.fColumn] 0 (fun j hj => by
  match j, hj with
  | 0, _ => exact ⟨h1.2, .inl h1.1⟩
  | 1, _ => exact ⟨h2.2, .inl h2.1⟩)
 unfold lineR
 simp only [e2, e3, if_pos, hz, e4]
theorem lineR_field {f : T_api_Form} {x : T_api_Slot} (hx : SlotC x) : lineR f (jn 32 (fieldW x)) = some { f with fFields := f.fFields ++ [x] } := by
 obtain ⟨h1, h2, h3, h4, h5, h6, h7, h8, h9⟩ := hx
 have e2 : sk 32 999 (jn 32 (fieldW x)) = fieldW x := sk_jn (fieldW x) 999 (by simp [fieldW]) (by
  intro w hw
  simp only [fieldW, List.mem_cons, List.not_mem_nil, or_false] at hw
  rcases hw with rfl | rfl | rfl | rfl | rfl | rfl | rfl | rfl
  ·decide
  ·exact h2
  all_goals exact placeT_no (by decide) _) (by simp [fieldW])
 have e4 : numsQ 3 0 [placeT x.fRow, placeT x.fColumn, placeT x.fBytes, placeT x.fIn, placeT x.fOut] = some [x.fRow, x.fColumn, x.fBytes, x.fIn, x.fOut] := numsQ_place [x.fRow, x.fColumn, x.fBytes, x.fIn, x.fOut] 0 (fun j hj => by
  match j, hj with
  | 0, _ => exact ⟨h4.2, .inl h4.1⟩
  | 1, _ => exact ⟨h5.2, .inl h5.1⟩
  | 2, _ => exact ⟨h6.2, .inl h6.1⟩
  | 3, _ => exact ⟨show x.fIn < 1000000000 by omega, show 0 ≤ x.fIn ∨ x.fIn = -1 ∧ (3 : Int) ≤ ((0 + 3 : Nat) : Int) by omega⟩
  | 4, _ => exact ⟨show x.fOut < 1000000000 by omega, show 0 ≤ x.fOut ∨ x.fOut = -1 ∧ (3 : Int) ≤ ((0 + 4 : Nat) : Int) by omega⟩)
 have e5 : numQ (placeT x.fFill) = (x.fFill, true) := by
  rw [placeT_nonneg h9.1, numQ_dec (by omega), Int.toNat_of_nonneg h9.1]
 unfold lineR
 rw [e2]
 have hne : ([70, 73, 69, 76, 68] : Str) ≠ [77, 65, 82, 75] := by decide
 simp only [fieldW, if_neg hne, if_pos, fieldR, e4, e5, h9.2, and_self]
theorem foldlM_cons' {f : T_api_Form} {s : Str} {l : List Str} : (s :: l).foldlM lineR f = (lineR f s).bind fun g => l.foldlM lineR g := rfl
theorem fold_marks : ∀ (ms : List T_api_Mark) (f : T_api_Form) (post : List Str), f.fFields = [] → (∀ m ∈ ms, MarkC m) → (ms.map (fun m => jn 32 (markW m)) ++ post).foldlM lineR f = post.foldlM lineR { f with fMarks := f.fMarks ++ ms }
 | [], f, post, _, _ => by simp
 | m :: ms, f, post, hz, h => by
  rw [List.map_cons, List.cons_append, foldlM_cons', lineR_mark hz (h m (by simp)), Option.bind_some, fold_marks ms { f with fMarks := f.fMarks ++ [m] } post hz (fun x hx => h x (by simp [hx]))]
  simp
theorem fold_fields : ∀ (xs : List T_api_Slot) (f : T_api_Form), (∀ x ∈ xs, SlotC x) → (xs.map fun x => jn 32 (fieldW x)).foldlM lineR f = some { f with fFields := f.fFields ++ xs }
 | [], f, _ => by simp
 | x :: xs, f, h => by
  rw [List.map_cons, foldlM_cons', lineR_field (h x (by simp)), Option.bind_some, fold_fields xs { f with fFields := f.fFields ++ [x] } (fun y hy => h y (by simp [hy]))]
  simp
theorem fold_some : ∀ (l : List Str) (f f' : T_api_Form), (∀ s ∈ l, s.length ≤ 1000) → l.foldlM lineR f = some f' → tailF f' = tailF f ++ l ∧ f'.fRows = f.fRows ∧ f'.fColumns = f.fColumns ∧ (WE f → WE f') ∧ f'.fMarks.length + f'.fFields.length = f.fMarks.length + f.fFields.length + l.length
 | [], f, f', _, h => by
  obtain rfl : f = f' := by simpa using h
  simp
 | s :: l, f, f', hb, h => by
  rw [foldlM_cons'] at h
  cases hl : lineR f s with
  | none => rw [hl] at h; cases h
  | some g =>
   rw [hl, Option.bind_some] at h
   obtain ⟨a1, a2, a3, a4, a5⟩ := lineR_some (hb s (by simp)) hl
   obtain ⟨b1, b2, b3, b4, b5⟩ := fold_some l g f' (fun x hx => hb x (by simp [hx])) h
   refine ⟨by rw [b1, a1]; simp, by rw [b2, a2], by rw [b3, a3], fun hw => b4 (a4 hw), by simp only [List.length_cons]; omega⟩
end Go.Sh

namespace Go.Sh
open Go.AE
set_option linter.unusedVariables false
set_option linter.unusedSimpArgs false
def restR (c : Int) (r : Int) (mid : List Str) : Option T_api_Form := (mid.foldlM lineR { fRows := r, fColumns := c, fMarks := [], fFields := [] }).bind fun f => if okF f = true then some f else none
def headR (ws : List Str) (mid : List Str) : Option T_api_Form := match ws with
 | [] => none
 | w0 :: ws => match numsQ 9 0 ws with
  | some [r, c] => if w0 = [70, 79, 82, 77] then restR c r mid else none
  | _ => none
def parseR (t : Str) : Option T_api_Form :=
 match sk 10 99 t with
 | [] => none
 | l0 :: rest => if rest.getLast? = some [] then headR (sk 32 999 l0) rest.dropLast else none
def parsedR (o : Option T_api_Form) : T_api_Form × Int := match o with
 | some f => (f, 0)
 | none => (zeroF, 3)
theorem rparse_L1 {k : Nat} (hk : 100010 ≤ k) {lines : List Str} (hl : lines.length ≤ 1000) (hb : ∀ s ∈ lines, s.length ≤ 1000) {K : Int → Int → Int → List T_api_Mark → List T_api_Slot → Option (T_api_Form × Int)} : ∀ (suf pre : List Str) (last : Str) (f : T_api_Form) (m : Nat), lines = pre ++ (suf ++ [last]) → f.fMarks.length + f.fFields.length ≤ pre.length →
  ref24_Parse_L1 k lines K (m + suf.length + 1) (pre.length : Int) f.fRows f.fColumns f.fMarks f.fFields = (match suf.foldlM lineR f with
   | some f' => K ((lines.length - 1 : Nat) : Int) f'.fRows f'.fColumns f'.fMarks f'.fFields
   | none => some (zeroF, 3))
 | [], pre, last, f, m, he, hf => by
  have hlen : lines.length = pre.length + 1 := by rw [he]; simp
  have w1 : Go.IntKind.wrap .i64 ((lines.length : Int) - 1) = ((pre.length : Nat) : Int) := by rw [wrap_in (by omega) (by omega)]; omega
  simp only [ref24_Parse_L1, w1, lt_self, cond_false, List.foldlM_nil]
  rw [show lines.length - 1 = pre.length by omega]
  rfl
 | s :: suf, pre, last, f, m, he, hf => by
  have hlen : lines.length = pre.length + 1 + suf.length + 1 := by rw [he]; simp; omega
  have w1 : Go.IntKind.wrap .i64 ((lines.length : Int) - 1) = ((lines.length - 1 : Nat) : Int) := by rw [wrap_in (by omega) (by omega)]; omega
  have w2 : Go.IntKind.wrap .i64 ((pre.length : Int) + 1) = ((pre.length + 1 : Nat) : Int) := by rw [wrap_in (by omega) (by omega)]; omega
  have e1 : idx lines (pre.length : Int) = some s := by
   rw [idx_at (show pre.length < lines.length by omega)]
   congr 1
   subst he
   rw [List.getElem_append_right (Nat.le_refl _)]
   simp
  have hs : s.length ≤ 1000 := hb s (by rw [he]; simp)
  have e2 := ref24_line_ok (k := k) (f := { fRows := f.fRows, fColumns := f.fColumns, fMarks := f.fMarks, fFields := f.fFields }) hk hs (show f.fMarks.length ≤ 2000 by omega) (show f.fFields.length ≤ 2000 by omega)
  obtain ⟨q, hq⟩ : ∃ q, q = m + suf.length + 1 := ⟨_, rfl⟩
  rw [show m + (s :: suf).length + 1 = q + 1 by simp; omega]
  simp only [ref24_Parse_L1, w1, w2, decide_eq_true (show (pre.length : Int) < ((lines.length - 1 : Nat) : Int) by omega), cond_true, e1, e2, Option.bind_some]
  rw [foldlM_cons']
  unfold lineP
  cases h : lineR f s with
  | none => rfl
  | some g =>
   have hg := lineR_some hs h
   have ih := rparse_L1 hk hl hb (K := K) suf (pre ++ [s]) last g m (by rw [he]; simp) (by rw [List.length_append, List.length_singleton]; omega)
   rw [List.length_append, List.length_singleton, ← hq] at ih
   simp only [Bool.not_true, cond_false, Option.bind_some]
   exact ih
theorem bound_lines {t : Str} (ht : t.length ≤ 1000) {k : Nat} {c : UInt8} : (sk c k t).length ≤ 1001 ∧ ∀ s ∈ sk c k t, s.length ≤ 1000 := by
 obtain ⟨h1, h2⟩ := sk_bound c k t
 exact ⟨by omega, fun s hs => by have := h2 s hs; omega⟩
theorem ref24_Parse_ok {k : Nat} {t : Str} (hk : maxLen + 30 ≤ k) (ht : t.length ≤ 1000) : ref24_Parse k t = some (parsedR (parseR t)) := by
 obtain ⟨k, rfl, hq⟩ := succ_of hk
 have hkk : 200000 ≤ k := by rw [maxLen_lt] at hq; omega
 have e1 : ref24_Split k t 10 100 = some (sk 10 99 t) := ref24_Split_ok (c := 10) (most := 100) (by omega) (by omega) (by omega) (by omega)
 obtain ⟨hb1, hb2⟩ := bound_lines ht (c := 10) (k := 99)
 have hb3 := sk_len 10 99 t
 have hne := sk_ne 10 99 t
 unfold parseR
 simp only [ref24_Parse, e1, Option.bind_some]
 generalize sk 10 99 t = lines at hb1 hb2 hb3 hne
 cases lines with
 | nil => exact absurd rfl hne
 | cons l0 rest =>
 have hl0 : l0.length ≤ 1000 := hb2 l0 (by simp)
 have e2 : ref24_Split k l0 32 1000 = some (sk 32 999 l0) := ref24_Split_ok (c := 32) (most := 1000) (by omega) (by omega) (by omega) (by omega)
 rcases List.eq_nil_or_concat rest with rfl | ⟨mid, last, rfl⟩
 ·rfl
 rw [List.concat_eq_append] at hb1 hb2 hb3 hne ⊢
 have hlen : ((l0 :: (mid ++ [last])).length : Int) = ((mid.length + 2 : Nat) : Int) := by simp; omega
 have hlenN : (l0 :: (mid ++ [last])).length = mid.length + 2 := by simp
 have w1 : Go.IntKind.wrap .i64 (((l0 :: (mid ++ [last])).length : Int) - 1) = ((mid.length + 1 : Nat) : Int) := by rw [hlen, wrap_in (by omega) (by omega)]; omega
 have e3 : idx (l0 :: (mid ++ [last])) ((mid.length + 1 : Nat) : Int) = some last := by
  rw [idx_at (by rw [hlenN]; omega)]
  congr 1
  rw [List.getElem_cons_succ, List.getElem_append_right (Nat.le_refl _)]
  simp
 have d1 : decide (((l0 :: (mid ++ [last])).length : Int) < 2) = false := by rw [hlen]; exact decide_eq_false (by omega)
 have i0 : idx (l0 :: (mid ++ [last])) 0 = some l0 := rfl
 simp only [d1, cond_false, w1, e3, Option.bind_some, List.getLast?_concat, List.dropLast_concat, i0, e2]
 by_cases hlast : last = []
 rotate_left
 ·rw [show (last == ([] : Str)) = false by rw [beq_eq_false_iff_ne]; exact hlast, if_neg (fun e => hlast (Option.some.inj e))]
  rfl
 rw [show (last == ([] : Str)) = true by rw [hlast]; rfl, if_pos (by rw [hlast]), Bool.not_true, cond_false]
 obtain ⟨wb1, wb2⟩ := bound_lines hl0 (c := 32) (k := 999)
 have wne := sk_ne 32 999 l0
 generalize sk 32 999 l0 = ws at wb1 wb2 wne
 cases ws with
 | nil => exact absurd rfl wne
 | cons w0 ws =>
 have c1 : cut (w0 :: ws) 1 ((w0 :: ws).length : Int) = some ws := by
  have := cut_in (l := w0 :: ws) (a := 1) (b := (w0 :: ws).length) (by simp) (Nat.le_refl _)
  rw [List.take_length] at this
  exact this
 have j0 : idx (w0 :: ws) 0 = some w0 := rfl
 have hwl : ws.length ≤ 2000 := by simp at wb1; omega
 unfold headR
 simp only [c1, j0, Option.bind_some, ref24_numbers_ok (show 3000 ≤ k by omega) hwl]
 cases hn : numsQ 9 0 ws with
 | none => rfl
 | some v =>
  simp only [Bool.not_true, cond_false]
  by_cases h2 : v.length = 2
  rotate_left
  ·have : ((v.length : Int) != 2) = true := by rw [bne_iff_ne]; omega
   rw [this, cond_true, Option.bind_some, cond_true]
   split
   ·rename_i r c hv
    obtain rfl := Option.some.inj hv
    exact absurd rfl h2
   ·rfl
  obtain ⟨r, c, rfl⟩ := len2 h2
  have k0 : idx [r, c] 0 = some r := rfl
  have k1 : idx [r, c] 1 = some c := rfl
  have d2 : ((([r, c] : List Int).length : Int) != 2) = false := rfl
  simp only [d2, cond_false, Option.bind_some, k0, k1]
  by_cases hw : w0 = [70, 79, 82, 77]
  rotate_left
  ·rw [show (w0 == ([70, 79, 82, 77] : Str)) = false by rw [beq_eq_false_iff_ne]; exact hw, if_neg hw]
   rfl
  rw [show (w0 == ([70, 79, 82, 77] : Str)) = true by rw [hw]; rfl, if_pos hw, Bool.not_true, cond_false]
  obtain ⟨q, hq2⟩ : ∃ q, k = q + mid.length + 1 := ⟨k - mid.length - 1, by omega⟩
  have hL := rparse_L1 (k := k) (by omega) (lines := l0 :: (mid ++ [last])) (by omega) hb2 (K := fun y27 y28 y29 y30 y31 => (((ref24_Valid k ({ fRows := y28, fColumns := y29, fMarks := y30, fFields := y31 } : T_api_Form)).bind fun v32 => (some ((!v32)))).bind fun o33 => (bif o33 then (some (({ fRows := 0, fColumns := 0, fMarks := ([] : List T_api_Mark), fFields := ([] : List T_api_Slot) } : T_api_Form), 3)) else (some (({ fRows := y28, fColumns := y29, fMarks := y30, fFields := y31 } : T_api_Form), 0)))))
   mid [l0] last { fRows := r, fColumns := c, fMarks := [], fFields := [] } q rfl (by simp)
  rw [← hq2] at hL
  refine Eq.trans hL ?_
  unfold restR
  cases hf : mid.foldlM lineR { fRows := r, fColumns := c, fMarks := [], fFields := [] } with
  | none => rfl
  | some f =>
   obtain ⟨_, _, _, hwe, hln⟩ := fold_some mid _ _ (fun s hs => hb2 s (by simp [hs])) hf
   have hn2 := (numsQ_text _ _ _ hn).2
   have r1 := hn2 r (by simp); have c2 := hn2 c (by simp)
   have hwf : WE f := hwe ⟨wfI_of64 (n := r) (by omega) (by omega), wfI_of64 (n := c) (by omega) (by omega), by simp, by simp⟩
   simp only [List.length_nil] at hln
   have hv := ref24_Valid_ok (k := k) (f := { fRows := f.fRows, fColumns := f.fColumns, fMarks := f.fMarks, fFields := f.fFields }) (by omega) (hwf.wf (by omega) (by omega))
   simp only [hv, Option.bind_some]
   cases ho : okF f with
   | true =>
    rw [if_pos rfl]
    simp only [Bool.not_true, cond_false]
    rfl
   | false =>
    rw [if_neg (by simp)]
    simp only [Bool.not_false, cond_true]
    rfl
theorem canon_lines (f : T_api_Form) : canon f = jn 10 (jn 32 (formW f.fRows f.fColumns) :: (tailF f ++ [[]])) := by
 have := jn_nl (linesF f)
 unfold linesF at this
 unfold canon linesF tailF
 rw [← this]
 rfl
theorem parseR_some {t : Str} {f : T_api_Form} (ht : t.length ≤ 1000) (h : parseR t = some f) : wf_T_api_Form f ∧ okF f = true ∧ t = canon f := by
 obtain ⟨hb1, hb2⟩ := bound_lines ht (c := 10) (k := 99)
 unfold parseR at h
 split at h
 ·cases h
 ·rename_i l0 rest hl
  rw [hl] at hb1 hb2
  split at h
  ·rename_i hlast
   unfold headR at h
   split at h
   ·cases h
   ·rename_i w0 ws hws
    split at h
    ·rename_i r c hn
     split at h
     ·rename_i hw
      unfold restR at h
      cases hf : rest.dropLast.foldlM lineR { fRows := r, fColumns := c, fMarks := [], fFields := [] } with
      | none => rw [hf] at h; cases h
      | some g =>
       rw [hf, Option.bind_some] at h
       split at h
       ·rename_i hok
        obtain rfl := Option.some.inj h
        obtain ⟨n1, n2⟩ := numsQ_text _ _ _ hn
        simp only [List.map_cons, List.map_nil] at n1
        have r1 := n2 r (by simp); have c1 := n2 c (by simp)
        have hd : ∀ s ∈ rest.dropLast, s.length ≤ 1000 := fun s hs => hb2 s (by simp only [List.mem_cons]; exact .inr (List.dropLast_subset _ hs))
        obtain ⟨a1, a2, a3, a4, a5⟩ := fold_some _ _ _ hd hf
        have hwe : WE g := a4 ⟨wfI_of64 (n := r) (by omega) (by omega), wfI_of64 (n := c) (by omega) (by omega), by simp, by simp⟩
        simp only [List.length_nil, List.length_dropLast] at a5
        simp only [List.length_cons] at hb1
        refine ⟨hwe.wf (by omega) (by omega), hok, ?_⟩
        rw [canon_lines, a1, a2, a3]
        have e1 : jn 32 (formW r c) = l0 := by
         rw [sk_whole hws, n1, hw]
         rfl
        simp only [tailF, List.map_nil, List.nil_append, e1]
        have e2 : rest.dropLast ++ [[]] = rest := by
         obtain ⟨ys, rfl⟩ := List.getLast?_eq_some_iff.1 hlast
         rw [List.dropLast_concat]
        rw [e2]
        exact sk_whole hl
       ·cases h
     ·cases h
    ·cases h
  ·cases h
theorem line_no {f : T_api_Form} (hc : FormC f) : ∀ s ∈ jn 32 (formW f.fRows f.fColumns) :: (tailF f ++ [[]]), (10 : UInt8) ∉ s := by
 have hj : ∀ ws : List Str, (∀ w ∈ ws, (10 : UInt8) ∉ w) → (10 : UInt8) ∉ jn 32 ws := by
  intro ws
  induction ws with
  | nil => intro _ h; cases h
  | cons a r ih =>
   intro h
   cases r with
   | nil => exact h a (by simp)
   | cons b r =>
    rw [jn_cons 32 a (by simp), List.mem_append, List.mem_cons, not_or, not_or]
    exact ⟨h a (by simp), by decide, ih (fun w hw => h w (by simp only [List.mem_cons] at hw ⊢; exact .inr hw))⟩
 have hp : ∀ n : Int, (10 : UInt8) ∉ placeT n := placeT_no (by decide)
 intro s hs
 simp only [List.mem_cons, List.mem_append, tailF, List.mem_map, List.not_mem_nil, or_false] at hs
 rcases hs with rfl | (⟨m, hm, rfl⟩ | ⟨x, hx, rfl⟩) | rfl
 ·refine hj _ (fun w hw => ?_)
  simp only [formW, List.mem_cons, List.not_mem_nil, or_false] at hw
  rcases hw with rfl | rfl | rfl
  ·decide
  all_goals exact hp _
 ·refine hj _ (fun w hw => ?_)
  simp only [markW, List.mem_cons, List.not_mem_nil, or_false] at hw
  rcases hw with rfl | rfl | rfl | rfl
  ·decide
  ·exact hp _
  ·exact hp _
  ·exact (hc.mark m hm).2.2.2
 ·refine hj _ (fun w hw => ?_)
  simp only [fieldW, List.mem_cons, List.not_mem_nil, or_false] at hw
  rcases hw with rfl | rfl | rfl | rfl | rfl | rfl | rfl | rfl
  ·decide
  ·exact (hc.fd x hx).2.2.1
  all_goals exact hp _
 ·simp
theorem tail_len {f : T_api_Form} (hc : FormC f) : (tailF f).length ≤ 18 := by
 have := hc.m8; have := hc.f10
 simp only [tailF, List.length_append, List.length_map]
 omega
theorem parseR_canon {f : T_api_Form} (hok : okF f = true) : parseR (canon f) = some f := by
 have hc := (okF_form hok).toC
 have hl := tail_len hc
 have e1 : sk 10 99 (canon f) = jn 32 (formW f.fRows f.fColumns) :: (tailF f ++ [[]]) := by
  rw [canon_lines]
  exact sk_jn _ 99 (by simp) (line_no hc) (by simp; omega)
 have e2 : sk 32 999 (jn 32 (formW f.fRows f.fColumns)) = formW f.fRows f.fColumns := sk_jn _ 999 (by simp [formW]) (by
  intro w hw
  simp only [formW, List.mem_cons, List.not_mem_nil, or_false] at hw
  rcases hw with rfl | rfl | rfl
  ·decide
  all_goals exact placeT_no (by decide) _) (by simp [formW])
 have e3 : numsQ 9 0 [placeT f.fRows, placeT f.fColumns] = some [f.fRows, f.fColumns] := numsQ_place [f.fRows, f.fColumns] 0 (fun j hj => by
  match j, hj with
  | 0, _ => exact ⟨hc.r.2, .inl hc.r.1⟩
  | 1, _ => exact ⟨hc.c.2, .inl hc.c.1⟩)
 unfold parseR
 rw [e1]
 simp only [List.getLast?_concat, if_pos, List.dropLast_concat, e2]
 unfold headR formW
 simp only [e3, if_pos]
 unfold restR tailF
 rw [fold_marks f.fMarks { fRows := f.fRows, fColumns := f.fColumns, fMarks := [], fFields := [] } _ rfl hc.mark, fold_fields f.fFields _ hc.fd, Option.bind_some]
 simp only [List.nil_append]
 rw [if_pos hok]
end Go.Sh

namespace Go.Sh
open Go.AE
set_option linter.unusedVariables false
set_option linter.unusedSimpArgs false
theorem nv_wf {s : Str} (h : s.length ≤ 1000) : wfI .i64 (nv s).1 := wfI_of64 (nv_in h).1 (nv_in h).2
theorem len6 {α : Type} : ∀ {l : List α}, l.length = 6 → ∃ a b c d e f, l = [a, b, c, d, e, f]
 | [a, b, c, d, e, f], _ => ⟨a, b, c, d, e, f, rfl⟩
/-- Whatever is added, it is a form. -/
def Added (f f' : T_api_Form) : Prop := WE f' ∧ f'.fMarks.length ≤ f.fMarks.length + 1 ∧ f'.fFields.length ≤ f.fFields.length + 1
theorem Added.same {f : T_api_Form} (h : WE f) : Added f { fRows := f.fRows, fColumns := f.fColumns, fMarks := f.fMarks, fFields := f.fFields } := ⟨h, Nat.le_succ _, Nat.le_succ _⟩
set_option maxHeartbeats 1000000 in
theorem add_total {k : Nat} {f : T_api_Form} {s : Str} (hk : 5000 ≤ k) (hs : s.length ≤ 1000) (hm : f.fMarks.length ≤ 3000) (hf : f.fFields.length ≤ 3000) (hw : WE f) : ∃ b f', screen_add k f s = some (b, f') ∧ Added f f' := by
 obtain ⟨k, rfl, hq⟩ := succ_of hk
 have happM : ∀ z, app f.fMarks [z] = some (f.fMarks ++ [z]) := fun z => app_ok (by simp only [List.length_cons, List.length_nil]; unfold maxList; omega)
 have happF : ∀ z, app f.fFields [z] = some (f.fFields ++ [z]) := fun z => app_ok (by simp only [List.length_cons, List.length_nil]; unfold maxList; omega)
 obtain ⟨a, b, t, ec, ha, hb⟩ := cutS_some s [32] (by omega)
 have e1 : strings_Cut k s [32] = some (a, b, t) := by
  obtain ⟨k, rfl, _⟩ := succ_of (show 1 + 1 ≤ k by omega)
  exact ec
 have eS : ∀ u : Str, u.length ≤ 1000 → strings_Split k u [32] = some (sk 32 (u.count 32) u) := fun u hu => by
  obtain ⟨k, rfl, _⟩ := succ_of (show 1 + 1 ≤ k by omega)
  exact splS_some (by omega)
 have eN : ∀ l : List Str, l.length ≤ 1001 → (∀ w ∈ l, w.length ≤ 1000) → screen_numbers k l = some (l.map (fun a => (nv a).1), l.all fun a => (nv a).2) := fun l h1 h2 => screen_numbers_ok (by omega) (by omega) h2
 simp only [screen_add, e1, Option.bind_some]
 cases hF : (a == ([70, 79, 82, 77] : Str)) with
 | true =>
  obtain ⟨b1, b2⟩ := bound_lines (show b.length ≤ 1000 by omega) (c := 32) (k := b.count 32)
  simp only [cond_true, eS b (by omega), Option.bind_some, eN _ b1 b2]
  generalize sk 32 (b.count 32) b = W at b1 b2
  cases hall : (W.all fun a => (nv a).2) with
  | false => exact ⟨_, _, rfl, Added.same hw⟩
  | true =>
   by_cases h2 : W.length = 2
   ·obtain ⟨x, y, rfl⟩ := len2 h2
    exact ⟨_, _, rfl, ⟨⟨nv_wf (b2 x (by simp)), nv_wf (b2 y (by simp)), hw.m, hw.f⟩, Nat.le_succ _, Nat.le_succ _⟩⟩
   ·have : (((W.map fun a => (nv a).1).length : Int) != 2) = true := by rw [bne_iff_ne, List.length_map]; omega
    simp only [Bool.not_true, cond_false, this, Option.bind_some, cond_true]
    exact ⟨_, _, rfl, Added.same hw⟩
 | false =>
 simp only [cond_false]
 cases hM : (a == ([77, 65, 82, 75] : Str)) with
 | true =>
  have e3 : strings_SplitN k b [32] 3 = some (sk 32 (min 3 (b.length + 1) - 1) b) := by
   obtain ⟨k, rfl, _⟩ := succ_of (show 1 + 1 ≤ k by omega)
   exact splN_some (n := 3) (by omega) (by omega) (by omega)
  obtain ⟨b1, b2⟩ := bound_lines (show b.length ≤ 1000 by omega) (c := 32) (k := min 3 (b.length + 1) - 1)
  simp only [cond_true, e3, Option.bind_some]
  generalize sk 32 (min 3 (b.length + 1) - 1) b = W at b1 b2
  match W, b1, b2 with
  | [], _, _ => exact ⟨_, _, rfl, Added.same hw⟩
  | [_], _, _ => exact ⟨_, _, rfl, Added.same hw⟩
  | [_, _], _, _ => exact ⟨_, _, rfl, Added.same hw⟩
  | x :: y :: z :: r, b1, b2 =>
   have d1 : decide (((x :: y :: z :: r).length : Int) < 3) = false := decide_eq_false (by simp only [List.length_cons]; omega)
   have c1 : cut (x :: y :: z :: r) 0 2 = some [x, y] := cut_in (l := x :: y :: z :: r) (a := 0) (b := 2) (by omega) (by simp)
   have i2 : idx (x :: y :: z :: r) 2 = some z := rfl
   have n1 := eN [x, y] (by simp) (fun w hw => b2 w (by simp only [List.mem_cons, List.not_mem_nil, or_false] at hw ⊢; rcases hw with h | h <;> simp [h]))
   have hz := b2 z (by simp)
   simp only [d1, cond_false, c1, n1, Option.bind_some, List.map_cons, List.map_nil, i2]
   have j0 : idx [(nv x).1, (nv y).1] 0 = some (nv x).1 := rfl
   have j1 : idx [(nv x).1, (nv y).1] 1 = some (nv y).1 := rfl
   simp only [j0, j1, Option.bind_some, happM]
   refine ⟨_, _, rfl, ⟨hw.r, hw.c, fun m hm => ?_, hw.f⟩, by simp, Nat.le_succ _⟩
   rw [List.mem_append, List.mem_singleton] at hm
   rcases hm with hm | rfl
   ·exact hw.m m hm
   ·exact ⟨nv_wf (b2 x (by simp)), nv_wf (b2 y (by simp)), by show z.length ≤ maxLen; rw [maxLen_lt]; omega, trivial⟩
 | false =>
 simp only [cond_false]
 cases hG : (a == ([70, 73, 69, 76, 68] : Str)) with
 | false => exact ⟨_, _, rfl, Added.same hw⟩
 | true =>
  obtain ⟨a2, b2, t2, ec2, ha2, hb2⟩ := cutS_some b [32] (by omega)
  have e2 : strings_Cut k b [32] = some (a2, b2, t2) := by
   obtain ⟨k, rfl, _⟩ := succ_of (show 1 + 1 ≤ k by omega)
   exact ec2
  obtain ⟨w1, w2⟩ := bound_lines (show b2.length ≤ 1000 by omega) (c := 32) (k := b2.count 32)
  simp only [cond_true, e2, eS b2 (by omega), Option.bind_some, eN _ w1 w2]
  generalize sk 32 (b2.count 32) b2 = W at w1 w2
  cases hall : (W.all fun a => (nv a).2) with
  | false => exact ⟨_, _, rfl, Added.same hw⟩
  | true =>
   by_cases h6 : W.length = 6
   ·obtain ⟨x0, x1, x2, x3, x4, x5, rfl⟩ := len6 h6
    have d1 : (((([x0, x1, x2, x3, x4, x5] : List Str).map fun a => (nv a).1).length : Int) != 6) = false := rfl
    have j0 : idx (([x0, x1, x2, x3, x4, x5] : List Str).map fun a => (nv a).1) 0 = some (nv x0).1 := rfl
    have j1 : idx (([x0, x1, x2, x3, x4, x5] : List Str).map fun a => (nv a).1) 1 = some (nv x1).1 := rfl
    have j2 : idx (([x0, x1, x2, x3, x4, x5] : List Str).map fun a => (nv a).1) 2 = some (nv x2).1 := rfl
    have j3 : idx (([x0, x1, x2, x3, x4, x5] : List Str).map fun a => (nv a).1) 3 = some (nv x3).1 := rfl
    have j4 : idx (([x0, x1, x2, x3, x4, x5] : List Str).map fun a => (nv a).1) 4 = some (nv x4).1 := rfl
    have j5 : idx (([x0, x1, x2, x3, x4, x5] : List Str).map fun a => (nv a).1) 5 = some (nv x5).1 := rfl
    simp only [Bool.not_true, cond_false, d1, j0, j1, j2, j3, j4, j5, Option.bind_some, happF]
    cases g1 : decide ((nv x5).1 < 0) with
    | true => exact ⟨_, _, rfl, Added.same hw⟩
    | false =>
     cases g2 : decide ((nv x5).1 > 255) with
     | true => exact ⟨_, _, rfl, Added.same hw⟩
     | false =>
      rw [decide_eq_false_iff_not] at g1 g2
      have hb5 : Go.IntKind.wrap .u8 (nv x5).1 = (nv x5).1 := wrap_byte (by omega) (by omega)
      simp only [cond_false, Option.bind_some]
      refine ⟨_, _, rfl, ⟨hw.r, hw.c, hw.m, fun m hm => ?_⟩, Nat.le_succ _, by simp⟩
      rw [List.mem_append, List.mem_singleton] at hm
      rcases hm with hm | rfl
      ·exact hw.f m hm
      ·refine ⟨by show a2.length ≤ maxLen; rw [maxLen_lt]; omega, nv_wf (w2 x0 (by simp)), nv_wf (w2 x1 (by simp)), nv_wf (w2 x2 (by simp)), nv_wf (w2 x3 (by simp)), nv_wf (w2 x4 (by simp)), ?_, trivial⟩
       show wfI .u8 (Go.IntKind.wrap .u8 (nv x5).1)
       rw [hb5]
       exact wfI_of8 (by omega) (by omega)
   ·have : (((W.map fun a => (nv a).1).length : Int) != 6) = true := by rw [bne_iff_ne, List.length_map]; omega
    simp only [Bool.not_true, cond_false, this, Option.bind_some, cond_true]
    exact ⟨_, _, rfl, Added.same hw⟩
theorem cut_word {k : Nat} {a b : Str} (hk : 1 ≤ k) (ha : (32 : UInt8) ∉ a) (hl : a.length + b.length ≤ 1000) : strings_Cut k (a ++ 32 :: b) [32] = some (a, b, true) := by
 obtain ⟨k, rfl, _⟩ := succ_of hk
 exact cutS_at b ha (by simp only [List.length_append, List.length_cons]; omega)
theorem split_words {k : Nat} {ws : List Str} (hk : 1 ≤ k) (h0 : ws ≠ []) (h : ∀ w ∈ ws, (32 : UInt8) ∉ w) (hl : (jn 32 ws).length ≤ 1000) : strings_Split k (jn 32 ws) [32] = some ws := by
 obtain ⟨k, rfl, _⟩ := succ_of hk
 exact splS_jn h0 h (by omega)
theorem placeT_1000 {n : Int} (h : n < 1000000000) : (placeT n).length ≤ 1000 := Nat.le_trans (placeT_len h) (by decide)
theorem add_form {k : Nat} {f : T_api_Form} {r c : Int} (hk : 5000 ≤ k) (hr : Small r) (hc : Small c) : screen_add k f (jn 32 (formW r c)) = some (true, { f with fRows := r, fColumns := c }) := by
 obtain ⟨k, rfl, hq⟩ := succ_of hk
 have hl := formW_len hr hc
 have e0 : jn 32 (formW r c) = [70, 79, 82, 77] ++ 32 :: jn 32 [placeT r, placeT c] := rfl
 rw [e0] at hl ⊢
 simp only [List.length_append, List.length_cons, List.length_nil] at hl
 have e1 := cut_word (k := k) (a := [70, 79, 82, 77]) (b := jn 32 [placeT r, placeT c]) (by omega) (by decide) (by simp only [List.length_cons, List.length_nil]; omega)
 have e2 := split_words (k := k) (ws := [placeT r, placeT c]) (by omega) (by simp) (by
  intro w hw
  simp only [List.mem_cons, List.not_mem_nil, or_false] at hw
  rcases hw with rfl | rfl <;> exact placeT_no (by decide) _) (by omega)
 have e3 := screen_numbers_ok (k := k) (l := [placeT r, placeT c]) (by omega) (by simp) (by
  intro w hw
  simp only [List.mem_cons, List.not_mem_nil, or_false] at hw
  rcases hw with rfl | rfl
  ·exact placeT_1000 hr.2
  ·exact placeT_1000 hc.2)
 have h1 := hr.1; have h2 := hc.1
 simp only [List.map_cons, List.map_nil, List.all_cons, List.all_nil, nv_place (show -1 ≤ r by omega) hr.2, nv_place (show -1 ≤ c by omega) hc.2, Bool.and_true] at e3
 have i0 : idx [r, c] 0 = some r := rfl
 have i1 : idx [r, c] 1 = some c := rfl
 have b1 : (([70, 79, 82, 77] : Str) == ([70, 79, 82, 77] : Str)) = true := rfl
 have d1 : ((([r, c] : List Int).length : Int) != 2) = false := rfl
 simp only [screen_add, e1, b1, cond_true, e2, e3, i0, i1, d1, Option.bind_some, Bool.not_true, cond_false]
theorem add_mark {k : Nat} {f : T_api_Form} {m : T_api_Mark} (hk : 5000 ≤ k) (hm : MarkC m) (hf : f.fMarks.length ≤ 1000) : screen_add k f (jn 32 (markW m)) = some (true, { f with fMarks := f.fMarks ++ [m] }) := by
 obtain ⟨k, rfl, hq⟩ := succ_of hk
 have hl := markW_len hm
 obtain ⟨h1, h2, h3, h4⟩ := hm
 have e0 : jn 32 (markW m) = [77, 65, 82, 75] ++ 32 :: jn 32 [placeT m.fRow, placeT m.fColumn, m.fText] := rfl
 rw [e0] at hl ⊢
 simp only [List.length_append, List.length_cons, List.length_nil] at hl
 have e1 := cut_word (k := k) (a := [77, 65, 82, 75]) (b := jn 32 [placeT m.fRow, placeT m.fColumn, m.fText]) (by omega) (by decide) (by simp only [List.length_cons, List.length_nil]; omega)
 have hlen : 2 ≤ (jn 32 [placeT m.fRow, placeT m.fColumn, m.fText]).length := by simp only [jn, List.length_append, List.length_cons]; omega
 have e2 : strings_SplitN k (jn 32 [placeT m.fRow, placeT m.fColumn, m.fText]) [32] 3 = some [placeT m.fRow, placeT m.fColumn, m.fText] := by
  obtain ⟨k, rfl, _⟩ := succ_of (show 1 + 1 ≤ k by omega)
  refine (splN_some (n := 3) (by omega) (by omega) (by omega)).trans ?_
  rw [show min 3 ((jn 32 [placeT m.fRow, placeT m.fColumn, m.fText]).length + 1) - 1 = 2 by omega]
  exact congrArg some (sk_jn_last m.fText [placeT m.fRow, placeT m.fColumn] (by
   intro w hw
   simp only [List.mem_cons, List.not_mem_nil, or_false] at hw
   rcases hw with rfl | rfl <;> exact placeT_no (by decide) _))
 have e3 := screen_numbers_ok (k := k) (l := [placeT m.fRow, placeT m.fColumn]) (by omega) (by simp) (by
  intro w hw
  simp only [List.mem_cons, List.not_mem_nil, or_false] at hw
  rcases hw with rfl | rfl
  ·exact placeT_1000 h1.2
  ·exact placeT_1000 h2.2)
 have q1 := h1.1; have q2 := h2.1
 simp only [List.map_cons, List.map_nil, List.all_cons, List.all_nil, nv_place (show -1 ≤ m.fRow by omega) h1.2, nv_place (show -1 ≤ m.fColumn by omega) h2.2, Bool.and_true] at e3
 have i0 : idx [m.fRow, m.fColumn] 0 = some m.fRow := rfl
 have i1 : idx [m.fRow, m.fColumn] 1 = some m.fColumn := rfl
 have i2 : idx [placeT m.fRow, placeT m.fColumn, m.fText] 2 = some m.fText := rfl
 have b0 : (([77, 65, 82, 75] : Str) == ([70, 79, 82, 77] : Str)) = false := rfl
 have b1 : (([77, 65, 82, 75] : Str) == ([77, 65, 82, 75] : Str)) = true := rfl
 have d1 : decide ((([placeT m.fRow, placeT m.fColumn, m.fText] : List Str).length : Int) < 3) = false := rfl
 have c1 : cut [placeT m.fRow, placeT m.fColumn, m.fText] 0 2 = some [placeT m.fRow, placeT m.fColumn] := rfl
 have happM : ∀ z, app f.fMarks [z] = some (f.fMarks ++ [z]) := fun z => app_ok (by simp only [List.length_cons, List.length_nil]; unfold maxList; omega)
 simp only [screen_add, e1, b0, b1, cond_true, cond_false, e2, e3, i0, i1, i2, d1, c1, happM, Option.bind_some]
theorem add_field {k : Nat} {f : T_api_Form} {x : T_api_Slot} (hk : 5000 ≤ k) (hx : SlotC x) (hf : f.fFields.length ≤ 1000) : screen_add k f (jn 32 (fieldW x)) = some (true, { f with fFields := f.fFields ++ [x] }) := by
 obtain ⟨k, rfl, hq⟩ := succ_of hk
 have hl := fieldW_len hx
 obtain ⟨h1, h2, h3, h4, h5, h6, h7, h8, h9⟩ := hx
 have e0 : jn 32 (fieldW x) = [70, 73, 69, 76, 68] ++ 32 :: (x.fName ++ 32 :: jn 32 [placeT x.fRow, placeT x.fColumn, placeT x.fBytes, placeT x.fIn, placeT x.fOut, placeT x.fFill]) := rfl
 rw [e0] at hl ⊢
 simp only [List.length_append, List.length_cons, List.length_nil] at hl
 have e1 := cut_word (k := k) (a := [70, 73, 69, 76, 68]) (b := x.fName ++ 32 :: jn 32 [placeT x.fRow, placeT x.fColumn, placeT x.fBytes, placeT x.fIn, placeT x.fOut, placeT x.fFill]) (by omega) (by decide) (by simp only [List.length_append, List.length_cons, List.length_nil]; omega)
 have e1' := cut_word (k := k) (a := x.fName) (b := jn 32 [placeT x.fRow, placeT x.fColumn, placeT x.fBytes, placeT x.fIn, placeT x.fOut, placeT x.fFill]) (by omega) h2 (by omega)
 have hno : ∀ w ∈ ([placeT x.fRow, placeT x.fColumn, placeT x.fBytes, placeT x.fIn, placeT x.fOut, placeT x.fFill] : List Str), (32 : UInt8) ∉ w ∧ w.length ≤ 1000 := by
  intro w hw
  simp only [List.mem_cons, List.not_mem_nil, or_false] at hw
  rcases hw with rfl | rfl | rfl | rfl | rfl | rfl
  ·exact ⟨placeT_no (by decide) _, placeT_1000 h4.2⟩
  ·exact ⟨placeT_no (by decide) _, placeT_1000 h5.2⟩
  ·exact ⟨placeT_no (by decide) _, placeT_1000 h6.2⟩
  all_goals exact ⟨placeT_no (by decide) _, placeT_1000 (by omega)⟩
 have e2 := split_words (k := k) (ws := [placeT x.fRow, placeT x.fColumn, placeT x.fBytes, placeT x.fIn, placeT x.fOut, placeT x.fFill]) (by omega) (by simp) (fun w hw => (hno w hw).1) (by omega)
 have e3 := screen_numbers_ok (k := k) (l := [placeT x.fRow, placeT x.fColumn, placeT x.fBytes, placeT x.fIn, placeT x.fOut, placeT x.fFill]) (by omega) (by simp) (fun w hw => (hno w hw).2)
 have q1 := h4.1; have q2 := h5.1; have q3 := h6.1
 simp only [List.map_cons, List.map_nil, List.all_cons, List.all_nil, nv_place (show -1 ≤ x.fRow by omega) h4.2, nv_place (show -1 ≤ x.fColumn by omega) h5.2, nv_place (show -1 ≤ x.fBytes by omega) h6.2, nv_place (show -1 ≤ x.fIn by omega) (by omega), nv_place (show -1 ≤ x.fOut by omega) (by omega), nv_place (show -1 ≤ x.fFill by omega) (by omega), Bool.and_true] at e3
 have i0 : idx [x.fRow, x.fColumn, x.fBytes, x.fIn, x.fOut, x.fFill] 0 = some x.fRow := rfl
 have i1 : idx [x.fRow, x.fColumn, x.fBytes, x.fIn, x.fOut, x.fFill] 1 = some x.fColumn := rfl
 have i2 : idx [x.fRow, x.fColumn, x.fBytes, x.fIn, x.fOut, x.fFill] 2 = some x.fBytes := rfl
 have i3 : idx [x.fRow, x.fColumn, x.fBytes, x.fIn, x.fOut, x.fFill] 3 = some x.fIn := rfl
 have i4 : idx [x.fRow, x.fColumn, x.fBytes, x.fIn, x.fOut, x.fFill] 4 = some x.fOut := rfl
 have i5 : idx [x.fRow, x.fColumn, x.fBytes, x.fIn, x.fOut, x.fFill] 5 = some x.fFill := rfl
 have b0 : (([70, 73, 69, 76, 68] : Str) == ([70, 79, 82, 77] : Str)) = false := rfl
 have b1 : (([70, 73, 69, 76, 68] : Str) == ([77, 65, 82, 75] : Str)) = false := rfl
 have b2 : (([70, 73, 69, 76, 68] : Str) == ([70, 73, 69, 76, 68] : Str)) = true := rfl
 have d1 : ((([x.fRow, x.fColumn, x.fBytes, x.fIn, x.fOut, x.fFill] : List Int).length : Int) != 6) = false := rfl
 have g1 : decide (x.fFill < 0) = false := decide_eq_false (by omega)
 have g2 : decide (x.fFill > 255) = false := decide_eq_false (by omega)
 have happF : ∀ z, app f.fFields [z] = some (f.fFields ++ [z]) := fun z => app_ok (by simp only [List.length_cons, List.length_nil]; unfold maxList; omega)
 simp only [screen_add, e1, e1', b0, b1, b2, cond_true, cond_false, e2, e3, i0, i1, i2, i3, i4, i5, d1, g1, g2, happF, Option.bind_some, Bool.not_true, wrap_byte h9.1 h9.2]
section
variable {k : Nat} {lines : List Str} {z : Int} {K : Int → Int → Int → List T_api_Mark → List T_api_Slot → Option (T_api_Form × Int)}
theorem parse_step (hl : lines.length ≤ 5000) {pre post : List Str} {s : Str} {f f' : T_api_Form} {m : Nat} (he : lines = pre ++ s :: post) (hs : s ≠ []) (ha : screen_add k f s = some (true, f')) :
  screen_Parse_L1 k (lines, (lines.length : Int), z) K (m + 1) (pre.length : Int) f.fRows f.fColumns f.fMarks f.fFields = screen_Parse_L1 k (lines, (lines.length : Int), z) K m ((pre.length + 1 : Nat) : Int) f'.fRows f'.fColumns f'.fMarks f'.fFields := by
 have hlen : pre.length < lines.length := by rw [he]; simp
 have w2 : Go.IntKind.wrap .i64 ((pre.length : Int) + 1) = ((pre.length + 1 : Nat) : Int) := by rw [wrap_in (by omega) (by omega)]; omega
 have e1 : idx lines (pre.length : Int) = some s := by
  rw [idx_at hlen]
  congr 1
  subst he
  rw [List.getElem_append_right (Nat.le_refl _)]
  simp
 have e2 : screen_add k { fRows := f.fRows, fColumns := f.fColumns, fMarks := f.fMarks, fFields := f.fFields } s = some (true, f') := ha
 simp only [screen_Parse_L1, lt_dec hlen, cond_true, e1, Option.bind_some, show (s == ([] : Str)) = false from by rw [beq_eq_false_iff_ne]; exact hs, Bool.not_false, e2, Bool.not_true, cond_false, w2]
theorem parse_marks (hk : 5000 ≤ k) (hl : lines.length ≤ 1000) : ∀ (ms : List T_api_Mark) (pre post : List Str) (f : T_api_Form) (m : Nat), lines = pre ++ (ms.map (fun m => jn 32 (markW m)) ++ post) → (∀ m ∈ ms, MarkC m) → f.fMarks.length ≤ pre.length →
  screen_Parse_L1 k (lines, (lines.length : Int), z) K (m + ms.length) (pre.length : Int) f.fRows f.fColumns f.fMarks f.fFields = screen_Parse_L1 k (lines, (lines.length : Int), z) K m ((pre.length + ms.length : Nat) : Int) f.fRows f.fColumns (f.fMarks ++ ms) f.fFields
 | [], pre, post, f, m, _, _, _ => by simp
 | a :: ms, pre, post, f, m, he, hc, hf => by
  have hlen : pre.length < lines.length := by rw [he]; simp
  rw [show m + (a :: ms).length = m + ms.length + 1 by simp; omega]
  rw [parse_step (by omega) (f := f) (f' := { f with fMarks := f.fMarks ++ [a] }) (by rw [he]; rfl) (by simp [markW, jn]) (add_mark hk (hc a (by simp)) (by omega))]
  have ih := parse_marks hk hl ms (pre ++ [jn 32 (markW a)]) post { f with fMarks := f.fMarks ++ [a] } m (by rw [he]; simp) (fun x hx => hc x (by simp [hx])) (by simp; omega)
  rw [List.length_append, List.length_singleton] at ih
  refine ih.trans ?_
  rw [show pre.length + 1 + ms.length = pre.length + (a :: ms).length by simp; omega]
  simp
theorem parse_fields (hk : 5000 ≤ k) (hl : lines.length ≤ 1000) : ∀ (xs : List T_api_Slot) (pre post : List Str) (f : T_api_Form) (m : Nat), lines = pre ++ (xs.map (fun x => jn 32 (fieldW x)) ++ post) → (∀ x ∈ xs, SlotC x) → f.fFields.length ≤ pre.length →
  screen_Parse_L1 k (lines, (lines.length : Int), z) K (m + xs.length) (pre.length : Int) f.fRows f.fColumns f.fMarks f.fFields = screen_Parse_L1 k (lines, (lines.length : Int), z) K m ((pre.length + xs.length : Nat) : Int) f.fRows f.fColumns f.fMarks (f.fFields ++ xs)
 | [], pre, post, f, m, _, _, _ => by simp
 | a :: xs, pre, post, f, m, he, hc, hf => by
  have hlen : pre.length < lines.length := by rw [he]; simp
  rw [show m + (a :: xs).length = m + xs.length + 1 by simp; omega]
  rw [parse_step (by omega) (f := f) (f' := { f with fFields := f.fFields ++ [a] }) (by rw [he]; rfl) (by simp [fieldW, jn]) (add_field hk (hc a (by simp)) (by omega))]
  have ih := parse_fields hk hl xs (pre ++ [jn 32 (fieldW a)]) post { f with fFields := f.fFields ++ [a] } m (by rw [he]; simp) (fun x hx => hc x (by simp [hx])) (by simp; omega)
  rw [List.length_append, List.length_singleton] at ih
  refine ih.trans ?_
  rw [show pre.length + 1 + xs.length = pre.length + (a :: xs).length by simp; omega]
  simp
/-- The loop over lines comes to an end. -/
theorem parse_ends (hk : 5000 ≤ k) (hl : lines.length ≤ 1001) (hb : ∀ s ∈ lines, s.length ≤ 1000) : ∀ (d i m : Nat) (f : T_api_Form), i + d = lines.length → d < m → WE f → f.fMarks.length ≤ i → f.fFields.length ≤ i →
  screen_Parse_L1 k (lines, (lines.length : Int), z) K m (i : Int) f.fRows f.fColumns f.fMarks f.fFields = some (zeroF, 3) ∨ ∃ g : T_api_Form, WE g ∧ g.fMarks.length ≤ 1001 ∧ g.fFields.length ≤ 1001 ∧ screen_Parse_L1 k (lines, (lines.length : Int), z) K m (i : Int) f.fRows f.fColumns f.fMarks f.fFields = K (lines.length : Int) g.fRows g.fColumns g.fMarks g.fFields
 | 0, i, m, f, hd, hm, hw, h1, h2 => by
  obtain ⟨m, rfl⟩ : ∃ q, m = q + 1 := ⟨m - 1, by omega⟩
  obtain rfl : i = lines.length := by omega
  refine .inr ⟨f, hw, by omega, by omega, ?_⟩
  simp only [screen_Parse_L1, lt_self, cond_false]
 | d + 1, i, m, f, hd, hm, hw, h1, h2 => by
  obtain ⟨m, rfl⟩ : ∃ q, m = q + 1 := ⟨m - 1, by omega⟩
  have hi : i < lines.length := by omega
  have w2 : Go.IntKind.wrap .i64 ((i : Int) + 1) = ((i + 1 : Nat) : Int) := by rw [wrap_in (by omega) (by omega)]; omega
  have hs := hb _ (List.getElem_mem hi)
  obtain ⟨b, f', ha, hA⟩ := add_total (k := k) (f := { fRows := f.fRows, fColumns := f.fColumns, fMarks := f.fMarks, fFields := f.fFields }) hk hs (show f.fMarks.length ≤ 3000 by omega) (show f.fFields.length ≤ 3000 by omega) hw
  obtain ⟨hA1, hA2, hA3⟩ := hA
  simp only [screen_Parse_L1, lt_dec hi, cond_true, idx_at hi, Option.bind_some, ha, w2]
  cases he : (lines[i] == ([] : Str)) with
  | true =>
   simp only [Bool.not_true, cond_false, Option.bind_some]
   exact parse_ends hk hl hb d (i + 1) m f (by omega) (by omega) hw (by omega) (by omega)
  | false =>
   cases b with
   | false => exact .inl rfl
   | true =>
    simp only [Bool.not_false, cond_true, Bool.not_true, cond_false, Option.bind_some]
    exact parse_ends hk hl hb d (i + 1) m f' (by omega) (by omega) hA1 (by omega) (by omega)
end
theorem nl_len : ∀ l : List Str, (∀ s ∈ l, s.length ≤ 100) → (nl l).length ≤ 101 * l.length
 | [], _ => by simp [nl]
 | a :: l, h => by
  rw [nl_cons]
  have := nl_len l (fun s hs => h s (by simp [hs]))
  have := h a (by simp)
  simp only [List.length_append, List.length_cons, List.length_nil]
  omega
theorem canon_len {f : T_api_Form} (hc : FormC f) : (canon f).length ≤ 2000 := by
 have h8 := hc.m8; have h10 := hc.f10
 have h1 := nl_len (linesF f) (by
  intro s hs
  simp only [linesF, List.mem_cons, List.mem_append, List.mem_map] at hs
  rcases hs with rfl | ⟨m, hm, rfl⟩ | ⟨x, hx, rfl⟩
  ·exact formW_len hc.r hc.c
  ·exact markW_len (hc.mark m hm)
  ·exact fieldW_len (hc.fd x hx))
 have h2 : (linesF f).length ≤ 19 := by
  simp only [linesF, List.length_cons, List.length_append, List.length_map]
  omega
 unfold canon
 omega
theorem screen_Parse_canon {k : Nat} {f : T_api_Form} (hk : maxLen + 60 ≤ k) (hw : wf_T_api_Form f) (ho : okF f = true) : screen_Parse k (canon f) = some (f, 0) := by
 obtain ⟨k, rfl, hq⟩ := succ_of hk
 have hkk : 200000 ≤ k := by rw [maxLen_lt] at hq; omega
 have hc := (okF_form ho).toC
 have hl := canon_len hc
 have hlt := tail_len hc
 have h8 := hc.m8; have h10 := hc.f10
 have e1 : strings_Split k (canon f) [10] = some (jn 32 (formW f.fRows f.fColumns) :: (tailF f ++ [[]])) := by
  obtain ⟨k, rfl, _⟩ := succ_of (show 1 + 1 ≤ k by omega)
  have hcl := canon_lines f
  rw [hcl] at hl ⊢
  exact splS_jn (by simp) (line_no hc) (by omega)
 simp only [screen_Parse, e1, Option.bind_some]
 have hlines : (jn 32 (formW f.fRows f.fColumns) :: (tailF f ++ [[]])) = [] ++ jn 32 (formW f.fRows f.fColumns) :: (f.fMarks.map (fun m => jn 32 (markW m)) ++ (f.fFields.map (fun x => jn 32 (fieldW x)) ++ [[]])) := by simp [tailF]
 have hlen : (jn 32 (formW f.fRows f.fColumns) :: (tailF f ++ [[]])).length = 1 + f.fMarks.length + f.fFields.length + 1 := by simp [tailF]; omega
 generalize hL : (jn 32 (formW f.fRows f.fColumns) :: (tailF f ++ [[]])) = lines at hlines hlen
 obtain ⟨q, hq2⟩ : ∃ q, k = (q + 2 + f.fFields.length + f.fMarks.length) + 1 := ⟨k - 3 - f.fFields.length - f.fMarks.length, by omega⟩
 have hf := screen_Format_ok (k := k) (f := f) (by omega) hw
 have hFS : FormatS f = (canon f, 0) := by unfold FormatS; rw [ho]; rfl
 rw [hFS] at hf
 generalize hK : (fun (y16 y17 y18 : Int) (y19 : List T_api_Mark) (y20 : List T_api_Slot) => (((screen_Format k ({ fRows := y17, fColumns := y18, fMarks := y19, fFields := y20 } : T_api_Form)).bind fun v21 => (some (v21.1, v21.2))).bind fun o22 => ((bif (o22.2 != 0) then (some (true)) else (some ((!(o22.1 == canon f))))).bind fun o23 => (bif o23 then (some (({ fRows := 0, fColumns := 0, fMarks := ([] : List T_api_Mark), fFields := ([] : List T_api_Slot) } : T_api_Form), (3 : Int))) else (some (({ fRows := y17, fColumns := y18, fMarks := y19, fFields := y20 } : T_api_Form), (0 : Int))))))) = K
 have hKf : ∀ y, K y f.fRows f.fColumns f.fMarks f.fFields = some (f, 0) := by
  intro y
  subst hK
  have hf' : screen_Format k { fRows := f.fRows, fColumns := f.fColumns, fMarks := f.fMarks, fFields := f.fFields } = some (canon f, 0) := hf
  simp only [hf', Option.bind_some]
  rw [show ((0 : Int) != 0) = false from rfl, show (canon f == canon f) = true from by simp]
  rfl
 have s1 := parse_step (k := k) (lines := lines) (z := 0) (K := K) (by omega) (pre := []) (s := jn 32 (formW f.fRows f.fColumns)) (f := zeroF) (f' := { zeroF with fRows := f.fRows, fColumns := f.fColumns }) (m := q + 2 + f.fFields.length + f.fMarks.length) hlines (by simp [formW, jn]) (add_form (by omega) hc.r hc.c)
 have s2 := parse_marks (k := k) (lines := lines) (z := 0) (K := K) (by omega) (by omega) f.fMarks [jn 32 (formW f.fRows f.fColumns)] (f.fFields.map (fun x => jn 32 (fieldW x)) ++ [[]]) { zeroF with fRows := f.fRows, fColumns := f.fColumns } (q + 2 + f.fFields.length) (by rw [hlines]; rfl) hc.mark (by simp [zeroF])
 have s3 := parse_fields (k := k) (lines := lines) (z := 0) (K := K) (by omega) (by omega) f.fFields (jn 32 (formW f.fRows f.fColumns) :: f.fMarks.map (fun m => jn 32 (markW m))) [[]] { fRows := f.fRows, fColumns := f.fColumns, fMarks := f.fMarks, fFields := [] } (q + 2) (by rw [hlines]; simp) hc.fd (by simp)
 rw [← hq2] at s1
 refine Eq.trans s1 (Eq.trans s2 ?_)
 simp only [List.length_cons, List.length_map, zeroF, List.nil_append, List.length_nil, Nat.zero_add] at s3 ⊢
 rw [show 1 + f.fMarks.length = f.fMarks.length + 1 by omega]
 refine Eq.trans s3 ?_
 have hi : f.fMarks.length + 1 + f.fFields.length < lines.length := by omega
 have hlast : lines[f.fMarks.length + 1 + f.fFields.length]'hi = [] := by
  have : lines = (jn 32 (formW f.fRows f.fColumns) :: tailF f) ++ [[]] := by rw [← hL]; rfl
  subst this
  rw [List.getElem_append_right (by simp [tailF]; omega)]
  simp
 have w2 : Go.IntKind.wrap .i64 (((f.fMarks.length + 1 + f.fFields.length : Nat) : Int) + 1) = (lines.length : Int) := by rw [wrap_in (by omega) (by omega)]; omega
 simp only [screen_Parse_L1, lt_dec hi, cond_true, idx_at hi, hlast, Option.bind_some, show (([] : Str) == ([] : Str)) = true from rfl, Bool.not_true, cond_false, w2, lt_self, hKf]
theorem screen_Parse_ok {k : Nat} {t : Str} (hk : maxLen + 60 ≤ k) (ht : t.length ≤ 1000) : screen_Parse k t = some (parsedR (parseR t)) := by
 have key : screen_Parse k t = some (zeroF, 3) ∨ ∃ g, wf_T_api_Form g ∧ okF g = true ∧ canon g = t ∧ screen_Parse k t = some (g, 0) := by
  obtain ⟨k, rfl, hq⟩ := succ_of hk
  have hkk : 200000 ≤ k := by rw [maxLen_lt] at hq; omega
  have e1 : strings_Split k t [10] = some (sk 10 (t.count 10) t) := by
   obtain ⟨k, rfl, _⟩ := succ_of (show 1 + 1 ≤ k by omega)
   exact splS_some (by omega)
  obtain ⟨b1, b2⟩ := bound_lines ht (c := 10) (k := t.count 10)
  simp only [screen_Parse, e1, Option.bind_some]
  generalize sk 10 (t.count 10) t = lines at b1 b2
  rcases parse_ends (k := k) (lines := lines) (z := 0) (K := fun (y16 y17 y18 : Int) (y19 : List T_api_Mark) (y20 : List T_api_Slot) => (((screen_Format k ({ fRows := y17, fColumns := y18, fMarks := y19, fFields := y20 } : T_api_Form)).bind fun v21 => (some (v21.1, v21.2))).bind fun o22 => ((bif (o22.2 != 0) then (some (true)) else (some ((!(o22.1 == t))))).bind fun o23 => (bif o23 then (some (({ fRows := 0, fColumns := 0, fMarks := ([] : List T_api_Mark), fFields := ([] : List T_api_Slot) } : T_api_Form), 3)) else (some (({ fRows := y17, fColumns := y18, fMarks := y19, fFields := y20 } : T_api_Form), 0)))))) (by omega) b1 b2 lines.length 0 k zeroF (by omega) (by omega) ⟨wfI_of64 (n := 0) (by omega) (by omega), wfI_of64 (n := 0) (by omega) (by omega), by simp [zeroF], by simp [zeroF]⟩ (by simp [zeroF]) (by simp [zeroF]) with h | ⟨g, hw, h1, h2, h⟩
  ·exact .inl h
  ·have hwf : wf_T_api_Form g := hw.wf (by omega) (by omega)
   have hf : screen_Format k { fRows := g.fRows, fColumns := g.fColumns, fMarks := g.fMarks, fFields := g.fFields } = some (FormatS g) := screen_Format_ok (by omega) hwf
   have hh := h
   simp only [hf, Option.bind_some] at hh
   unfold FormatS at hh
   cases ho : okF g with
   | false =>
    rw [ho] at hh
    exact .inl hh
   | true =>
    rw [ho] at hh
    cases hc : (canon g == t) with
    | false =>
     simp only [cond_true, hc] at hh
     exact .inl hh
    | true =>
     simp only [cond_true, hc] at hh
     exact .inr ⟨g, hwf, ho, by simpa using hc, hh⟩
 cases hp : parseR t with
 | none =>
  rcases key with h | ⟨g, h1, h2, h3, h4⟩
  ·exact h
  ·rw [← h3, parseR_canon h2] at hp
   cases hp
 | some f =>
  obtain ⟨h1, h2, h3⟩ := parseR_some ht hp
  rw [h3]
  exact screen_Parse_canon hk h1 h2
theorem law_law24_ScreenTexts (f : T_api_Form) (t : Str) (hf : wf_T_api_Form f) (ht : wfS t) : ∃ k, law24_ScreenTexts k f t = some true := by
 refine ⟨maxLen + 100 + 1, ?_⟩
 have hA := awake_ok (k := maxLen + 100) (by omega)
 obtain ⟨b, hb⟩ := large_ok (k := maxLen + 100) (by omega) hf
 simp only [law24_ScreenTexts, hb, Option.bind_some]
 cases b with
 | true => simp only [cond_true, Option.bind_some, hA]
 | false =>
 simp only [cond_false, Option.bind_some]
 by_cases hl : t.length ≤ 1000
 rotate_left
 ·rw [decide_eq_true (show (t.length : Int) > 1000 by omega), cond_true, hA]
  rfl
 rw [decide_eq_false (show ¬ (t.length : Int) > 1000 by omega), cond_false]
 have p1 := screen_Format_ok (k := maxLen + 100) (by omega) hf
 have p2 := ref24_Format_ok (k := maxLen + 100) (by omega) hf
 have p3 := screen_Parse_ok (k := maxLen + 100) (by omega) hl
 have p4 := ref24_Parse_ok (k := maxLen + 100) (by omega) hl
 have hz : wf_T_api_Form zeroF := ⟨wfI_of64 (n := 0) (by omega) (by omega), wfI_of64 (n := 0) (by omega) (by omega), ⟨by simp [zeroF], by simp [zeroF]⟩, ⟨by simp [zeroF], by simp [zeroF]⟩, trivial⟩
 have hP : wf_T_api_Form (parsedR (parseR t)).1 := by
  cases hp : parseR t with
  | none => exact hz
  | some g => exact (parseR_some hl hp).1
 have p5 := ref24_Same_ok (k := maxLen + 100) (by omega) (f := (parsedR (parseR t)).1) (g := (parsedR (parseR t)).1) hP
 rw [sameB_self] at p5
 simp only [p1, p2, p3, p4, p5, Option.bind_some, beq_self_eq_true, Bool.not_true, cond_false, bne_self_eq_false]
 have back : (bif ((parsedR (parseR t)).2 == 0) then (((screen_Format (maxLen + 100) (parsedR (parseR t)).1).bind fun v19 => (some (v19.1, v19.2))).bind fun o20 => ((bif (o20.2 != 0) then (some (true)) else (some ((!(o20.1 == t))))).bind fun o21 => (bif o21 then (some false) else ((law24_Awake (maxLen + 100)).bind fun o23 => (some o23))))) else ((law24_Awake (maxLen + 100)).bind fun o25 => (some o25))) = some true := by
  cases hp : parseR t with
  | none =>
   simp only [parsedR, hA]
   rfl
  | some g =>
   obtain ⟨g1, g2, g3⟩ := parseR_some hl hp
   have p6 := screen_Format_ok (k := maxLen + 100) (by omega) g1
   have hFS : FormatS g = (canon g, 0) := by unfold FormatS; rw [g2]; rfl
   rw [hFS, ← g3] at p6
   simp only [parsedR, p6, hA, Option.bind_some, beq_self_eq_true, cond_true, Bool.not_true, cond_false, bne_self_eq_false]
 cases ho : okF f with
 | false =>
  have hFS : FormatS f = ([], 220) := by unfold FormatS; rw [ho]; rfl
  rw [hFS, show ((220 : Int) == 0) = false from rfl, cond_false]
  exact back
 | true =>
  have hFS : FormatS f = (canon f, 0) := by unfold FormatS; rw [ho]; rfl
  rw [hFS]
  have p7 := screen_Parse_canon (k := maxLen + 100) (by omega) hf ho
  have p8 := ref24_Same_ok (k := maxLen + 100) (by omega) (f := f) (g := f) hf
  rw [sameB_self] at p8
  simp only [p7, p8, Option.bind_some, beq_self_eq_true, cond_true, Bool.not_true, cond_false, bne_self_eq_false]
  exact back
end Go.Sh

