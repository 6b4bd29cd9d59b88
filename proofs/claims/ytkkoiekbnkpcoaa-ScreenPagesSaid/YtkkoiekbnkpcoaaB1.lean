/- The functions as functions on lists, and what they come to: no program in sight. Conditions: those that each theorem names. -/
import Derived.Test.YtkkoiekbnkpcoaaA3
import Derived.IntWalk
namespace Go.Sh
open Go.AE (idx idxS cut cat app upTo inB sameLen revInt wfI wfS wfL wfT mkN repS repL)
set_option linter.unusedVariables false
abbrev Str := List UInt8
structure T_api_Mark where
  fRow : Int
  fColumn : Int
  fText : Str
  deriving DecidableEq
structure T_api_Slot where
  fName : Str
  fRow : Int
  fColumn : Int
  fBytes : Int
  fIn : Int
  fOut : Int
  fFill : Int
  deriving DecidableEq
structure T_api_Form where
  fRows : Int
  fColumns : Int
  fMarks : (List T_api_Mark)
  fFields : (List T_api_Slot)
  deriving DecidableEq
structure T_screen_part where
  frow : Int
  fcolumn : Int
  fn : Int
  deriving DecidableEq
structure T_progenyref24_span where
  frow : Int
  fcolumn : Int
  fbytes : Int
  deriving DecidableEq
def wf_T_api_Mark (a : T_api_Mark) : Prop := (wfI .i64) a.fRow ∧ (wfI .i64) a.fColumn ∧ wfS a.fText ∧ wfT ()
def wf_T_api_Slot (a : T_api_Slot) : Prop := wfS a.fName ∧ (wfI .i64) a.fRow ∧ (wfI .i64) a.fColumn ∧ (wfI .i64) a.fBytes ∧ (wfI .i64) a.fIn ∧ (wfI .i64) a.fOut ∧ (wfI .u8) a.fFill ∧ wfT ()
def wf_T_api_Form (a : T_api_Form) : Prop := (wfI .i64) a.fRows ∧ (wfI .i64) a.fColumns ∧ (wfL wf_T_api_Mark) a.fMarks ∧ (wfL wf_T_api_Slot) a.fFields ∧ wfT ()
def wf_T_screen_part (a : T_screen_part) : Prop := (wfI .i64) a.frow ∧ (wfI .i64) a.fcolumn ∧ (wfI .i64) a.fn ∧ wfT ()
def wf_T_progenyref24_span (a : T_progenyref24_span) : Prop := (wfI .i64) a.frow ∧ (wfI .i64) a.fcolumn ∧ (wfI .i64) a.fbytes ∧ wfT ()
def law24_Large_L1 (a0 : T_api_Form)  (K0 : Int → Option Bool) : Nat → Int → Option Bool
  | 0, _ => none
  | m + 1, x4 =>
    (bif (decide (x4 < (a0.fMarks.length : Int))) then (((idx a0.fMarks x4).bind fun v5 => (some ((decide ((v5.fText.length : Int) > 100))))).bind fun o6 =>
          (bif o6 then (some true) else
          (law24_Large_L1 a0 K0 m (Go.IntKind.wrap .i64 (x4 + 1))))) else
        (K0 x4))
def law24_Large_L2 (a0 : T_api_Form)  (K0 : Int → Option Bool) : Nat → Int → Option Bool
  | 0, _ => none
  | m + 1, x10 =>
    (bif (decide (x10 < (a0.fFields.length : Int))) then (((idx a0.fFields x10).bind fun v11 => (some ((decide ((v11.fName.length : Int) > 100))))).bind fun o12 =>
          (bif o12 then (some true) else
          (law24_Large_L2 a0 K0 m (Go.IntKind.wrap .i64 (x10 + 1))))) else
        (K0 x10))
def law24_Large : Nat → (T_api_Form) → Option Bool
  | 0, _ => none
  | k + 1, a0 =>
    ((bif (decide ((a0.fMarks.length : Int) > 20)) then (some (true)) else (some ((decide ((a0.fFields.length : Int) > 20))))).bind fun o1 =>
      (bif o1 then (some true) else
      (law24_Large_L1 a0 (fun y7 =>
        (law24_Large_L2 a0 (fun y13 =>
          (some false)) k 0)) k 0)))
def law24_Long_L1 (a0 : (List Str))  (K0 : Int → Option Bool) : Nat → Int → Option Bool
  | 0, _ => none
  | m + 1, x3 =>
    (bif (decide (x3 < (a0.length : Int))) then (((idx a0 x3).bind fun v4 => (some ((decide ((v4.length : Int) > 300))))).bind fun o5 =>
          (bif o5 then (some true) else
          (law24_Long_L1 a0 K0 m (Go.IntKind.wrap .i64 (x3 + 1))))) else
        (K0 x3))
def law24_Long : Nat → ((List Str)) → Option Bool
  | 0, _ => none
  | k + 1, a0 =>
    (law24_Long_L1 a0 (fun y6 =>
      (some (decide ((a0.length : Int) > 20)))) k 0)
def screen_isName_L1 (a0 : Str)  (K0 : Int → Option Bool) : Nat → Int → Option Bool
  | 0, _ => none
  | m + 1, x7 =>
    (bif (decide (x7 < (a0.length : Int))) then (((idxS a0 x7).bind fun v8 => (bif (decide (v8 ≥ 65)) then ((idxS a0 x7).bind fun v9 => (some ((decide (v9 ≤ 90))))) else (some (false)))).bind fun o10 =>
          ((bif (!o10) then (bif (x7 == 0) then (some (true)) else ((idxS a0 x7).bind fun v11 => (bif (decide (v11 < 48)) then (some (true)) else ((idxS a0 x7).bind fun v12 => (some ((decide (v12 > 57)))))))) else (some (false))).bind fun o13 =>
          (bif o13 then (some false) else
          (screen_isName_L1 a0 K0 m (Go.IntKind.wrap .i64 (x7 + 1)))))) else
        (K0 x7))
def screen_isName : Nat → (Str) → Option Bool
  | 0, _ => none
  | k + 1, a0 =>
    (screen_isName_L1 a0 (fun y14 =>
      ((bif (decide ((a0.length : Int) ≥ 1)) then (some ((decide ((a0.length : Int) ≤ 8)))) else (some (false))).bind fun o15 =>
        (some o15))) k 0)
def screen_isPlace : Nat → (Int) → Option Bool
  | 0, _ => none
  | k + 1, a0 =>
    ((bif (decide (a0 ≥ (-1))) then (some ((decide (a0 < 4)))) else (some (false))).bind fun o1 =>
      (some o1))
def screen_isByte : Nat → (Int) → Option Bool
  | 0, _ => none
  | k + 1, a0 =>
    ((bif (decide (a0 ≥ 32)) then (some ((decide (a0 ≤ 126)))) else (some (false))).bind fun o1 =>
      (some o1))
def slices_IndexFunc_Slot_L1 (k : Nat) (a0 : (List T_api_Slot)) (a1 : Nat → T_api_Slot → Option Bool) (K0 : Int → Option Int) : Nat → Int → Option Int
  | 0, _ => none
  | m + 1, x4 =>
    (bif (decide (x4 < (a0.length : Int))) then (((idx a0 x4).bind fun v5 => (a1 k v5)).bind fun o7 =>
          (bif o7 then (some x4) else
          (slices_IndexFunc_Slot_L1 k a0 a1 K0 m (Go.IntKind.wrap .i64 (x4 + 1))))) else
        (K0 x4))
def slices_IndexFunc_Slot : Nat → ((List T_api_Slot)) → (Nat → T_api_Slot → Option Bool) → Option Int
  | 0, _, _ => none
  | k + 1, a0, a1 =>
    (slices_IndexFunc_Slot_L1 k a0 a1 (fun y8 =>
      (some (-1))) k 0)
def slices_ContainsFunc_Slot : Nat → ((List T_api_Slot)) → (Nat → T_api_Slot → Option Bool) → Option Bool
  | 0, _, _ => none
  | k + 1, a0, a1 =>
    (((slices_IndexFunc_Slot k a0 a1).bind fun v1 => (some ((decide (v1 ≥ 0))))).bind fun o2 =>
      (some o2))
def screen_areSlots_1 : Nat → (T_api_Slot) → (T_api_Slot) → Option Bool
  | 0, _, _ => none
  | k + 1, a0, a1 =>
    ((bif (a0.fName == a1.fName) then (some (true)) else (bif (decide (a1.fIn ≥ 0)) then (bif (a0.fIn == a1.fIn) then (some (true)) else (bif (decide (a1.fOut ≥ 0)) then (some ((a0.fOut == a1.fOut))) else (some (false)))) else (bif (decide (a1.fOut ≥ 0)) then (some ((a0.fOut == a1.fOut))) else (some (false))))).bind fun o1 =>
      (some o1))
def screen_areSlots_L1 (k : Nat) (a0 : (List T_api_Slot))  (K0 : Int → Option Bool) : Nat → Int → Option Bool
  | 0, _ => none
  | m + 1, x11 =>
    (bif (decide (x11 < (a0.length : Int))) then (((idx a0 x11).bind fun v12 => (some (x11, v12))).bind fun o13 =>
          (((screen_isName k o13.2.fName).bind fun v14 => (bif (!v14) then (some (true)) else ((screen_isPlace k o13.2.fIn).bind fun v15 => (bif (!v15) then (some (true)) else ((screen_isPlace k o13.2.fOut).bind fun v16 => (bif (!v16) then (some (true)) else ((screen_isByte k o13.2.fFill).bind fun v17 => (some ((!v17)))))))))).bind fun o18 =>
          (bif o18 then (some false) else
          (((cut a0 0 o13.1).bind fun v19 => (slices_ContainsFunc_Slot k v19 (fun j x0 => (screen_areSlots_1 j x0 o13.2)))).bind fun o21 =>
            (bif o21 then (some false) else
            (screen_areSlots_L1 k a0 K0 m (Go.IntKind.wrap .i64 (x11 + 1)))))))) else
        (K0 x11))
def screen_areSlots : Nat → ((List T_api_Slot)) → Option Bool
  | 0, _ => none
  | k + 1, a0 =>
    (screen_areSlots_L1 k a0 (fun y22 =>
      (some (decide ((a0.length : Int) ≤ 10)))) k 0)
def screen_isText_L1 (k : Nat) (a0 : Str)  (K0 : Int → Option Bool) : Nat → Int → Option Bool
  | 0, _ => none
  | m + 1, x4 =>
    (bif (decide (x4 < (a0.length : Int))) then (((idxS a0 x4).bind fun v5 => ((screen_isByte k v5).bind fun v6 => (some ((!v6))))).bind fun o7 =>
          (bif o7 then (some false) else
          (screen_isText_L1 k a0 K0 m (Go.IntKind.wrap .i64 (x4 + 1))))) else
        (K0 x4))
def screen_isText : Nat → (Str) → Option Bool
  | 0, _ => none
  | k + 1, a0 =>
    (screen_isText_L1 k a0 (fun y8 =>
      (some true)) k 0)
def screen_lies : Nat → (T_api_Form) → (Int) → (Int) → (Int) → Option Bool
  | 0, _, _, _, _ => none
  | k + 1, a0, a1, a2, a3 =>
    ((bif (decide (a1 ≥ 0)) then (bif (decide (a1 < a0.fRows)) then (bif (decide (a2 ≥ 0)) then (bif (decide (a2 < a0.fColumns)) then (bif (decide (a3 ≥ 1)) then (some ((decide (a3 ≤ (Go.IntKind.wrap .i64 (a0.fColumns - a2)))))) else (some (false))) else (some (false))) else (some (false))) else (some (false))) else (some (false))).bind fun o1 =>
      (some o1))
def slices_IndexFunc_part_v10s75_L1 (k : Nat) (a0 : (List T_screen_part)) (a1 : Nat → T_screen_part → Option Bool) (K0 : Int → Option Int) : Nat → Int → Option Int
  | 0, _ => none
  | m + 1, x4 =>
    (bif (decide (x4 < (a0.length : Int))) then (((idx a0 x4).bind fun v5 => (a1 k v5)).bind fun o7 =>
          (bif o7 then (some x4) else
          (slices_IndexFunc_part_v10s75_L1 k a0 a1 K0 m (Go.IntKind.wrap .i64 (x4 + 1))))) else
        (K0 x4))
def slices_IndexFunc_part_v10s75 : Nat → ((List T_screen_part)) → (Nat → T_screen_part → Option Bool) → Option Int
  | 0, _, _ => none
  | k + 1, a0, a1 =>
    (slices_IndexFunc_part_v10s75_L1 k a0 a1 (fun y8 =>
      (some (-1))) k 0)
def slices_ContainsFunc_part_v10s75 : Nat → ((List T_screen_part)) → (Nat → T_screen_part → Option Bool) → Option Bool
  | 0, _, _ => none
  | k + 1, a0, a1 =>
    (((slices_IndexFunc_part_v10s75 k a0 a1).bind fun v1 => (some ((decide (v1 ≥ 0))))).bind fun o2 =>
      (some o2))
def screen_part_meets : Nat → (T_screen_part) → (T_screen_part) → Option Bool
  | 0, _, _ => none
  | k + 1, a0, a1 =>
    ((bif (a0.frow == a1.frow) then (bif (decide (a0.fcolumn < (Go.IntKind.wrap .i64 (a1.fcolumn + a1.fn)))) then (some ((decide (a1.fcolumn < (Go.IntKind.wrap .i64 (a0.fcolumn + a0.fn)))))) else (some (false))) else (some (false))).bind fun o1 =>
      (some o1))
def screen_Valid_L1 (k : Nat) (a0 : T_api_Form)  (K0 : (List T_screen_part) → Int → Option Bool) : Nat → (List T_screen_part) → Int → Option Bool
  | 0, _, _ => none
  | m + 1, x10, x11 =>
    (bif (decide (x11 < (a0.fMarks.length : Int))) then ((idx a0.fMarks x11).bind fun o13 =>
          ((bif (decide ((o13.fText.length : Int) > 40)) then (some (true)) else ((screen_isText k o13.fText).bind fun v14 => (bif (!v14) then (some (true)) else ((screen_lies k a0 o13.fRow o13.fColumn (o13.fText.length : Int)).bind fun v15 => (some ((!v15))))))).bind fun o16 =>
          (bif o16 then (some false) else
          ((app x10 ([({ frow := o13.fRow, fcolumn := o13.fColumn, fn := (o13.fText.length : Int) } : T_screen_part)] : List T_screen_part)).bind fun o18 =>
            (screen_Valid_L1 k a0 K0 m o18 (Go.IntKind.wrap .i64 (x11 + 1))))))) else
        (K0 x10 x11))
def screen_Valid_L2 (k : Nat) (a0 : T_api_Form)  (K0 : (List T_screen_part) → Int → Option Bool) : Nat → (List T_screen_part) → Int → Option Bool
  | 0, _, _ => none
  | m + 1, x27, x28 =>
    (bif (decide (x28 < (a0.fFields.length : Int))) then ((idx a0.fFields x28).bind fun o30 =>
          (((screen_lies k a0 o30.fRow o30.fColumn o30.fBytes).bind fun v31 => (some ((!v31)))).bind fun o32 =>
          (bif o32 then (some false) else
          ((app x27 ([({ frow := o30.fRow, fcolumn := o30.fColumn, fn := o30.fBytes } : T_screen_part)] : List T_screen_part)).bind fun o34 =>
            (screen_Valid_L2 k a0 K0 m o34 (Go.IntKind.wrap .i64 (x28 + 1))))))) else
        (K0 x27 x28))
def screen_Valid_L3 (k : Nat) (y35 : (List T_screen_part))  (K0 : Int → Option Bool) : Nat → Int → Option Bool
  | 0, _ => none
  | m + 1, x42 =>
    (bif (decide (x42 < (y35.length : Int))) then (((idx y35 x42).bind fun v43 => (some (x42, v43))).bind fun o44 =>
          (((cut y35 0 o44.1).bind fun v45 => (slices_ContainsFunc_part_v10s75 k v45 (fun j x0 => (screen_part_meets j o44.2 x0)))).bind fun o47 =>
          (bif o47 then (some false) else
          (screen_Valid_L3 k y35 K0 m (Go.IntKind.wrap .i64 (x42 + 1)))))) else
        (K0 x42))
def screen_Valid : Nat → (T_api_Form) → Option Bool
  | 0, _ => none
  | k + 1, a0 =>
    ((bif (decide (a0.fRows < 1)) then (some (true)) else (bif (decide (a0.fRows > 12)) then (some (true)) else (bif (decide (a0.fColumns < 10)) then (some (true)) else (bif (decide (a0.fColumns > 40)) then (some (true)) else (bif (decide ((a0.fMarks.length : Int) > 8)) then (some (true)) else ((screen_areSlots k a0.fFields).bind fun v1 => (some ((!v1))))))))).bind fun o2 =>
      (bif o2 then (some false) else
      (screen_Valid_L1 k a0 (fun y19 y20 =>
        (screen_Valid_L2 k a0 (fun y35 y36 =>
          (screen_Valid_L3 k y35 (fun y48 =>
            (some true)) k 0)) k y19 0)) k ([] : List T_screen_part) 0)))
def screen_lengths_L1 (a0 : T_api_Form)  (K0 : Int → Int → Int → Option (Int × Int)) : Nat → Int → Int → Int → Option (Int × Int)
  | 0, _, _, _ => none
  | m + 1, x3, x4, x5 =>
    (bif (decide (x5 < (a0.fFields.length : Int))) then ((idx a0.fFields x5).bind fun o7 =>
          (screen_lengths_L1 a0 K0 m (if (Go.IntKind.wrap .i64 (o7.fIn + 1)) > x3 then (Go.IntKind.wrap .i64 (o7.fIn + 1)) else x3) (if (Go.IntKind.wrap .i64 (o7.fOut + 1)) > x4 then (Go.IntKind.wrap .i64 (o7.fOut + 1)) else x4) (Go.IntKind.wrap .i64 (x5 + 1)))) else
        (K0 x3 x4 x5))
def screen_lengths : Nat → (T_api_Form) → Option (Int × Int)
  | 0, _ => none
  | k + 1, a0 =>
    (screen_lengths_L1 a0 (fun y8 y9 y10 =>
      (some (y8, y9))) k 0 0 0)
def slices_IndexFunc_string_v10_L1 (k : Nat) (a0 : (List Str)) (a1 : Nat → Str → Option Bool) (K0 : Int → Option Int) : Nat → Int → Option Int
  | 0, _ => none
  | m + 1, x4 =>
    (bif (decide (x4 < (a0.length : Int))) then (((idx a0 x4).bind fun v5 => (a1 k v5)).bind fun o7 =>
          (bif o7 then (some x4) else
          (slices_IndexFunc_string_v10_L1 k a0 a1 K0 m (Go.IntKind.wrap .i64 (x4 + 1))))) else
        (K0 x4))
def slices_IndexFunc_string_v10 : Nat → ((List Str)) → (Nat → Str → Option Bool) → Option Int
  | 0, _, _ => none
  | k + 1, a0, a1 =>
    (slices_IndexFunc_string_v10_L1 k a0 a1 (fun y8 =>
      (some (-1))) k 0)
def slices_ContainsFunc_string_v10 : Nat → ((List Str)) → (Nat → Str → Option Bool) → Option Bool
  | 0, _, _ => none
  | k + 1, a0, a1 =>
    (((slices_IndexFunc_string_v10 k a0 a1).bind fun v1 => (some ((decide (v1 ≥ 0))))).bind fun o2 =>
      (some o2))
def screen_shows_1 : Nat → (Str) → Option Bool
  | 0, _ => none
  | k + 1, a0 =>
    ((bif (decide ((a0.length : Int) > 200)) then (some (true)) else ((screen_isText k a0).bind fun v1 => (some ((!v1))))).bind fun o2 =>
      (some o2))
def screen_shows : Nat → (T_api_Form) → ((List Str)) → Option Int
  | 0, _, _ => none
  | k + 1, a0, a1 =>
    (((screen_Valid k a0).bind fun v1 => (some ((!v1)))).bind fun o2 =>
      (bif o2 then (some 220) else
      (((screen_lengths k a0).bind fun v3 => (some (v3.2))).bind fun o4 =>
        ((bif ((a1.length : Int) != o4) then (some (true)) else (slices_ContainsFunc_string_v10 k a1 (fun j x0 => (screen_shows_1 j x0)))).bind fun o6 =>
        (bif o6 then (some 2) else
        (some 0))))))
def strings_Repeat : Nat → Str → Int → Option Str
  | 0, _, _ => none
  | _ + 1, s, n => repS s n
def slices_Repeat_string : Nat → (List Str) → Int → Option (List Str)
  | 0, _, _ => none
  | _ + 1, s, n => repL s n
def slices_Clone_string_c : Nat → (Str) → ((List Str)) → Option (List Str)
  | 0, _, _ => none
  | k + 1, y, l =>
    ((app ([] : List Str) (y :: l)).bind fun o2 =>
      (some o2))
def slices_Clone_string : Nat → List Str → Option (List Str)
  | 0, _ => none
  | _ + 1, [] => none
  | k + 1, y :: l => slices_Clone_string_c (k + 1) y l
def screen_laid : Nat → ((List Str)) → (Int) → (Int) → (Str) → Option (List Str)
  | 0, _, _, _, _ => none
  | k + 1, a0, a1, a2, a3 =>
    ((slices_Clone_string k a0).bind fun o2 =>
      (((inB o2.length a1).bind fun v3 => ((o2[0 + a1.toNat]?).bind fun v4 => ((cut v4 0 a2).bind fun v5 => ((cat v5 a3).bind fun v6 => ((inB o2.length a1).bind fun v7 => ((o2[0 + a1.toNat]?).bind fun v8 => ((cut v8 (Go.IntKind.wrap .i64 (a2 + (a3.length : Int))) (v8.length : Int)).bind fun v9 => ((cat v6 v9).bind fun v10 => ((inB o2.length a1).bind fun v11 => ((o2[0 + a1.toNat]?).bind fun v12 => (some ((o2.set (0 + a1.toNat) v10))))))))))))).bind fun o13 =>
      (some o13)))
def screen_filled : Nat → (T_api_Slot) → (Str) → Option Str
  | 0, _, _ => none
  | k + 1, a0, a1 =>
    (bif (decide ((a1.length : Int) ≥ a0.fBytes)) then ((cut a1 0 a0.fBytes).bind fun o2 =>
        (some o2)) else
      (((strings_Repeat k (Go.AE.strB ([a0.fFill] : List Int)) (Go.IntKind.wrap .i64 (a0.fBytes - (a1.length : Int)))).bind fun v3 => (cat a1 v3)).bind fun o5 =>
        (some o5)))
def screen_show_L1 (k : Nat) (a0 : T_api_Form)  (K0 : (List Str) → Int → Option (List Str)) : Nat → (List Str) → Int → Option (List Str)
  | 0, _, _ => none
  | m + 1, x8, x9 =>
    (bif (decide (x9 < (a0.fMarks.length : Int))) then ((idx a0.fMarks x9).bind fun o11 =>
          ((screen_laid k x8 o11.fRow o11.fColumn o11.fText).bind fun o13 =>
          (screen_show_L1 k a0 K0 m o13 (Go.IntKind.wrap .i64 (x9 + 1))))) else
        (K0 x8 x9))
def screen_show_L2 (k : Nat) (a0 : T_api_Form) (a1 : (List Str))  (K0 : (List Str) → Int → Option (List Str)) : Nat → (List Str) → Int → Option (List Str)
  | 0, _, _ => none
  | m + 1, x26, x27 =>
    (bif (decide (x27 < (a0.fFields.length : Int))) then ((idx a0.fFields x27).bind fun o29 =>
          (bif (decide (o29.fOut ≥ 0)) then ((idx a1 o29.fOut).bind fun o31 =>
            (((screen_filled k o29 o31).bind fun v32 => (screen_laid k x26 o29.fRow o29.fColumn v32)).bind fun o34 =>
            (screen_show_L2 k a0 a1 K0 m o34 (Go.IntKind.wrap .i64 (x27 + 1))))) else
          (((screen_filled k o29 ([] : Str)).bind fun v35 => (screen_laid k x26 o29.fRow o29.fColumn v35)).bind fun o37 =>
            (screen_show_L2 k a0 a1 K0 m o37 (Go.IntKind.wrap .i64 (x27 + 1)))))) else
        (K0 x26 x27))
def screen_show : Nat → (T_api_Form) → ((List Str)) → Option (List Str)
  | 0, _, _ => none
  | k + 1, a0, a1 =>
    (((strings_Repeat k ([32] : Str) a0.fColumns).bind fun v1 => (slices_Repeat_string k ([v1] : List Str) a0.fRows)).bind fun o3 =>
      (screen_show_L1 k a0 (fun y14 y15 =>
      (screen_show_L2 k a0 a1 (fun y38 y39 =>
        (some y38)) k y14 0)) k o3 0))
def screen_Show : Nat → (T_api_Form) → ((List Str)) → Option ((List Str) × Int)
  | 0, _, _ => none
  | k + 1, a0, a1 =>
    ((screen_shows k a0 a1).bind fun o2 =>
      (bif (o2 != 0) then (some (([] : List Str), o2)) else
      (((screen_show k a0 a1).bind fun v3 => (some (v3, 0))).bind fun o4 =>
        (some (o4.1, o4.2)))))
def slices_IndexFunc_string_L1 (k : Nat) (a0 : (List Str)) (a1 : Nat → Str → Option Bool) (K0 : Int → Option Int) : Nat → Int → Option Int
  | 0, _ => none
  | m + 1, x4 =>
    (bif (decide (x4 < (a0.length : Int))) then (((idx a0 x4).bind fun v5 => (a1 k v5)).bind fun o7 =>
          (bif o7 then (some x4) else
          (slices_IndexFunc_string_L1 k a0 a1 K0 m (Go.IntKind.wrap .i64 (x4 + 1))))) else
        (K0 x4))
def slices_IndexFunc_string : Nat → ((List Str)) → (Nat → Str → Option Bool) → Option Int
  | 0, _, _ => none
  | k + 1, a0, a1 =>
    (slices_IndexFunc_string_L1 k a0 a1 (fun y8 =>
      (some (-1))) k 0)
def slices_ContainsFunc_string : Nat → ((List Str)) → (Nat → Str → Option Bool) → Option Bool
  | 0, _, _ => none
  | k + 1, a0, a1 =>
    (((slices_IndexFunc_string k a0 a1).bind fun v1 => (some ((decide (v1 ≥ 0))))).bind fun o2 =>
      (some o2))
def screen_fits_1 : Nat → (Str) → (T_api_Form) → Option Bool
  | 0, _, _ => none
  | k + 1, a0, a1 =>
    ((bif ((a0.length : Int) != a1.fColumns) then (some (true)) else ((screen_isText k a0).bind fun v1 => (some ((!v1))))).bind fun o2 =>
      (some o2))
def screen_fits : Nat → (T_api_Form) → ((List Str)) → Option Bool
  | 0, _, _ => none
  | k + 1, a0, a1 =>
    ((bif ((a1.length : Int) == a0.fRows) then ((slices_ContainsFunc_string k a1 (fun j x0 => (screen_fits_1 j x0 a0))).bind fun v1 => (some ((!v1)))) else (some (false))).bind fun o2 =>
      (some o2))
def screen_pictured : Nat → (T_api_Form) → ((List Str)) → Option Int
  | 0, _, _ => none
  | k + 1, a0, a1 =>
    (((screen_Valid k a0).bind fun v1 => (some ((!v1)))).bind fun o2 =>
      (bif o2 then (some 220) else
      (((screen_fits k a0 a1).bind fun v3 => (some ((!v3)))).bind fun o4 =>
        (bif o4 then (some 2) else
        (some 0)))))
def screen_Take_L2 (o28 : T_api_Slot)  (K0 : Str → Option ((List Str) × Int)) : Nat → Str → Option ((List Str) × Int)
  | 0, _ => none
  | m + 1, x36 =>
    ((bif (decide ((x36.length : Int) > 0)) then ((idxS x36 (Go.IntKind.wrap .i64 ((x36.length : Int) - 1))).bind fun v37 => (some ((v37 == o28.fFill)))) else (some (false))).bind fun o38 =>
        (bif o38 then ((cut x36 0 (Go.IntKind.wrap .i64 ((x36.length : Int) - 1))).bind fun o40 =>
          (screen_Take_L2 o28 K0 m o40)) else
        (K0 x36)))
def screen_Take_L1 (k : Nat) (a0 : T_api_Form) (a1 : (List Str))  (K0 : Int → (List Str) → Option ((List Str) × Int)) : Nat → Int → (List Str) → Option ((List Str) × Int)
  | 0, _, _ => none
  | m + 1, x25, x26 =>
    (bif (decide (x25 < (a0.fFields.length : Int))) then ((idx a0.fFields x25).bind fun o28 =>
          (bif (decide (o28.fIn < 0)) then (screen_Take_L1 k a0 a1 K0 m (Go.IntKind.wrap .i64 (x25 + 1)) x26) else
          (((idx a1 o28.fRow).bind fun v29 => (cut v29 o28.fColumn (Go.IntKind.wrap .i64 (o28.fColumn + o28.fBytes)))).bind fun o31 =>
            (screen_Take_L2 o28 (fun y41 =>
            (((inB x26.length o28.fIn).bind fun v42 => ((x26[0 + o28.fIn.toNat]?).bind fun v43 => (some ((x26.set (0 + o28.fIn.toNat) y41))))).bind fun o44 =>
              (screen_Take_L1 k a0 a1 K0 m (Go.IntKind.wrap .i64 (x25 + 1)) o44))) k o31)))) else
        (K0 x25 x26))
def screen_Take : Nat → (T_api_Form) → ((List Str)) → Option ((List Str) × Int)
  | 0, _, _ => none
  | k + 1, a0, a1 =>
    ((screen_pictured k a0 a1).bind fun o2 =>
      (bif (o2 != 0) then (some (([] : List Str), o2)) else
      (((screen_lengths k a0).bind fun v3 => (some (v3.1))).bind fun o4 =>
        ((mkN [] o4).bind fun o6 =>
        (screen_Take_L1 k a0 a1 (fun y45 y46 =>
        (some (y46, 0))) k 0 o6)))))
def ref01_SameTexts_L1 (a0 : (List Str)) (a1 : (List Str))  (K0 : Int → Option Bool) : Nat → Int → Option Bool
  | 0, _ => none
  | m + 1, x4 =>
    (bif (decide (x4 < (a0.length : Int))) then (((idx a0 x4).bind fun v5 => ((idx a1 x4).bind fun v6 => (some ((!(v5 == v6)))))).bind fun o7 =>
          (bif o7 then (some false) else
          (ref01_SameTexts_L1 a0 a1 K0 m (Go.IntKind.wrap .i64 (x4 + 1))))) else
        (K0 x4))
def ref01_SameTexts : Nat → ((List Str)) → ((List Str)) → Option Bool
  | 0, _, _ => none
  | k + 1, a0, a1 =>
    (bif ((a0.length : Int) != (a1.length : Int)) then (some false) else
      (ref01_SameTexts_L1 a0 a1 (fun y8 =>
        (some true)) k 0))
def law24_Awake : Nat → Option Bool
  | 0 => none
  | k + 1 =>
    (((screen_Show k ({ fRows := 2, fColumns := 20, fMarks := ([({ fRow := 0, fColumn := 0, fText := ([78, 65, 77, 69, 58] : Str) } : T_api_Mark)] : List T_api_Mark), fFields := ([({ fName := ([65] : Str), fRow := 0, fColumn := 6, fBytes := 5, fIn := 0, fOut := 0, fFill := 95 } : T_api_Slot)] : List T_api_Slot) } : T_api_Form) ([([65, 66] : Str)] : List Str)).bind fun v1 => (some (v1.1, v1.2))).bind fun o2 =>
      (((screen_Take k ({ fRows := 2, fColumns := 20, fMarks := ([({ fRow := 0, fColumn := 0, fText := ([78, 65, 77, 69, 58] : Str) } : T_api_Mark)] : List T_api_Mark), fFields := ([({ fName := ([65] : Str), fRow := 0, fColumn := 6, fBytes := 5, fIn := 0, fOut := 0, fFill := 95 } : T_api_Slot)] : List T_api_Slot) } : T_api_Form) o2.1).bind fun v3 => (some (v3.1, v3.2))).bind fun o4 =>
      ((bif (o2.2 == 0) then (bif (o4.2 == 0) then (bif ((o2.1.length : Int) == 2) then ((idx o2.1 0).bind fun v5 => (bif (v5 == ([78, 65, 77, 69, 58, 32, 65, 66, 95, 95, 95, 32, 32, 32, 32, 32, 32, 32, 32, 32] : Str)) then (ref01_SameTexts k o4.1 ([([65, 66] : Str)] : List Str)) else (some (false)))) else (some (false))) else (some (false))) else (some (false))).bind fun o7 =>
      (some o7))))
def slices_IndexFunc_Slot_v10_L1 (k : Nat) (a0 : (List T_api_Slot)) (a1 : Nat → T_api_Slot → Option Bool) (K0 : Int → Option Int) : Nat → Int → Option Int
  | 0, _ => none
  | m + 1, x4 =>
    (bif (decide (x4 < (a0.length : Int))) then (((idx a0 x4).bind fun v5 => (a1 k v5)).bind fun o7 =>
          (bif o7 then (some x4) else
          (slices_IndexFunc_Slot_v10_L1 k a0 a1 K0 m (Go.IntKind.wrap .i64 (x4 + 1))))) else
        (K0 x4))
def slices_IndexFunc_Slot_v10 : Nat → ((List T_api_Slot)) → (Nat → T_api_Slot → Option Bool) → Option Int
  | 0, _, _ => none
  | k + 1, a0, a1 =>
    (slices_IndexFunc_Slot_v10_L1 k a0 a1 (fun y8 =>
      (some (-1))) k 0)
def screen_Pages_1 : Nat → (T_api_Slot) → Option Bool
  | 0, _ => none
  | k + 1, a0 =>
    (some (a0.fOut == 0))
def screen_Pages_L1 (k : Nat) (a0 : T_api_Form) (a1 : (List Str)) (o6 : Int)  (K0 : (List (List Str)) → Str → Option ((List (List Str)) × Int)) : Nat → (List (List Str)) → Str → Option ((List (List Str)) × Int)
  | 0, _, _ => none
  | m + 1, x23, x24 =>
    ((bif ((x23.length : Int) == 0) then (some (true)) else (some ((!(x24 == ([] : Str)))))).bind fun o25 =>
        (bif o25 then ((slices_Clone_string k a1).bind fun o27 =>
          (((cut x24 0 (if (x24.length : Int) < o6 then (x24.length : Int) else o6)).bind fun v28 => ((inB o27.length 0).bind fun v29 => ((o27[0 + (0 : Int).toNat]?).bind fun v30 => (some ((o27.set (0 + (0 : Int).toNat) v28)))))).bind fun o31 =>
          (((inB o31.length 0).bind fun v32 => ((o31[0 + (0 : Int).toNat]?).bind fun v33 => (cut x24 (v33.length : Int) (x24.length : Int)))).bind fun o35 =>
          (((screen_show k a0 o31).bind fun v36 => (app x23 ([v36] : List (List Str)))).bind fun o38 =>
          (screen_Pages_L1 k a0 a1 o6 K0 m o38 o35))))) else
        (K0 x23 x24)))
def screen_Pages : Nat → (T_api_Form) → ((List Str)) → Option ((List (List Str)) × Int)
  | 0, _, _ => none
  | k + 1, a0, a1 =>
    ((screen_shows k a0 a1).bind fun o2 =>
      (bif (o2 != 0) then (some (([] : List (List Str)), o2)) else
      ((slices_IndexFunc_Slot_v10 k a0.fFields (fun j x0 => (screen_Pages_1 j x0))).bind fun o4 =>
        (bif (decide (o4 < 0)) then (some (([] : List (List Str)), 2)) else
        (((idx a0.fFields o4).bind fun v5 => (some (v5.fBytes))).bind fun o6 =>
          ((idx a1 0).bind fun o8 =>
          (screen_Pages_L1 k a0 a1 o6 (fun y39 y40 =>
          (some (y39, 0))) k ([] : List (List Str)) o8)))))))
def ref24_IsText_L1 (a0 : Str)  (K0 : Int → Option Bool) : Nat → Int → Option Bool
  | 0, _ => none
  | m + 1, x4 =>
    (bif (decide (x4 < (a0.length : Int))) then (((idxS a0 x4).bind fun v5 => (bif (decide (v5 < 32)) then (some (true)) else ((idxS a0 x4).bind fun v6 => (some ((decide (v6 > 126))))))).bind fun o7 =>
          (bif o7 then (some false) else
          (ref24_IsText_L1 a0 K0 m (Go.IntKind.wrap .i64 (x4 + 1))))) else
        (K0 x4))
def ref24_IsText : Nat → (Str) → Option Bool
  | 0, _ => none
  | k + 1, a0 =>
    (ref24_IsText_L1 a0 (fun y8 =>
      (some true)) k 0)
def ref11_IsName_L1 (a0 : Str)  (K0 : Int → Option Bool) : Nat → Int → Option Bool
  | 0, _ => none
  | m + 1, x7 =>
    (bif (decide (x7 < (a0.length : Int))) then (((idxS a0 x7).bind fun v8 => (bif (decide (v8 ≥ 65)) then ((idxS a0 x7).bind fun v9 => (some ((decide (v9 ≤ 90))))) else (some (false)))).bind fun o10 =>
          ((bif (!o10) then (bif (x7 == 0) then (some (true)) else ((idxS a0 x7).bind fun v11 => (bif (decide (v11 < 48)) then (some (true)) else ((idxS a0 x7).bind fun v12 => (some ((decide (v12 > 57)))))))) else (some (false))).bind fun o13 =>
          (bif o13 then (some false) else
          (ref11_IsName_L1 a0 K0 m (Go.IntKind.wrap .i64 (x7 + 1)))))) else
        (K0 x7))
def ref11_IsName : Nat → (Str) → Option Bool
  | 0, _ => none
  | k + 1, a0 =>
    (ref11_IsName_L1 a0 (fun y14 =>
      ((bif (decide ((a0.length : Int) ≥ 1)) then (some ((decide ((a0.length : Int) ≤ 8)))) else (some (false))).bind fun o15 =>
        (some o15))) k 0)
def ref24_isField_L1 (a0 : (List T_api_Slot)) (a1 : T_api_Slot)  (K0 : Int → Option Bool) : Nat → Int → Option Bool
  | 0, _ => none
  | m + 1, x8 =>
    (bif (decide (x8 < (a0.length : Int))) then (((idx a0 x8).bind fun v9 => (bif (v9.fName == a1.fName) then (some (true)) else (bif (decide (a1.fIn ≥ 0)) then ((idx a0 x8).bind fun v10 => (bif (v10.fIn == a1.fIn) then (some (true)) else (bif (decide (a1.fOut ≥ 0)) then ((idx a0 x8).bind fun v11 => (some ((v11.fOut == a1.fOut)))) else (some (false))))) else (bif (decide (a1.fOut ≥ 0)) then ((idx a0 x8).bind fun v12 => (some ((v12.fOut == a1.fOut)))) else (some (false)))))).bind fun o13 =>
          (bif o13 then (some false) else
          (ref24_isField_L1 a0 a1 K0 m (Go.IntKind.wrap .i64 (x8 + 1))))) else
        (K0 x8))
def ref24_isField : Nat → ((List T_api_Slot)) → (T_api_Slot) → Option Bool
  | 0, _, _ => none
  | k + 1, a0, a1 =>
    (((ref11_IsName k a1.fName).bind fun v1 => (bif (!v1) then (some (true)) else (bif (decide (a1.fIn < (-1))) then (some (true)) else (bif (decide (a1.fIn > 3)) then (some (true)) else (bif (decide (a1.fOut < (-1))) then (some (true)) else (bif (decide (a1.fOut > 3)) then (some (true)) else (bif (decide (a1.fFill < 32)) then (some (true)) else (some ((decide (a1.fFill > 126))))))))))).bind fun o2 =>
      (bif o2 then (some false) else
      (ref24_isField_L1 a0 a1 (fun y14 =>
        (some true)) k 0)))
def ref24_spans_L1 (a0 : T_api_Form)  (K0 : Int → (List T_progenyref24_span) → Option (List T_progenyref24_span)) : Nat → Int → (List T_progenyref24_span) → Option (List T_progenyref24_span)
  | 0, _, _ => none
  | m + 1, x6, x7 =>
    (bif (decide (x6 < (a0.fMarks.length : Int))) then (((idx a0.fMarks x6).bind fun v8 => ((idx a0.fMarks x6).bind fun v9 => ((idx a0.fMarks x6).bind fun v10 => (app x7 ([({ frow := v8.fRow, fcolumn := v9.fColumn, fbytes := (v10.fText.length : Int) } : T_progenyref24_span)] : List T_progenyref24_span))))).bind fun o12 =>
          (ref24_spans_L1 a0 K0 m (Go.IntKind.wrap .i64 (x6 + 1)) o12)) else
        (K0 x6 x7))
def ref24_spans_L2 (a0 : T_api_Form)  (K0 : Int → (List T_progenyref24_span) → Option (List T_progenyref24_span)) : Nat → Int → (List T_progenyref24_span) → Option (List T_progenyref24_span)
  | 0, _, _ => none
  | m + 1, x20, x21 =>
    (bif (decide (x20 < (a0.fFields.length : Int))) then (((idx a0.fFields x20).bind fun v22 => ((idx a0.fFields x20).bind fun v23 => ((idx a0.fFields x20).bind fun v24 => (app x21 ([({ frow := v22.fRow, fcolumn := v23.fColumn, fbytes := v24.fBytes } : T_progenyref24_span)] : List T_progenyref24_span))))).bind fun o26 =>
          (ref24_spans_L2 a0 K0 m (Go.IntKind.wrap .i64 (x20 + 1)) o26)) else
        (K0 x20 x21))
def ref24_spans : Nat → (T_api_Form) → Option (List T_progenyref24_span)
  | 0, _ => none
  | k + 1, a0 =>
    (ref24_spans_L1 a0 (fun y13 y14 =>
      (ref24_spans_L2 a0 (fun y27 y28 =>
        (some y28)) k 0 y14)) k 0 ([] : List T_progenyref24_span))
def ref24_Valid_L1 (k : Nat) (a0 : T_api_Form)  (K0 : Int → Option Bool) : Nat → Int → Option Bool
  | 0, _ => none
  | m + 1, x5 =>
    (bif (decide (x5 < (a0.fMarks.length : Int))) then (((idx a0.fMarks x5).bind fun v6 => ((ref24_IsText k v6.fText).bind fun v7 => (some ((!v7))))).bind fun o8 =>
          (bif o8 then (some false) else
          (ref24_Valid_L1 k a0 K0 m (Go.IntKind.wrap .i64 (x5 + 1))))) else
        (K0 x5))
def ref24_Valid_L2 (k : Nat) (a0 : T_api_Form)  (K0 : Int → Option Bool) : Nat → Int → Option Bool
  | 0, _ => none
  | m + 1, x14 =>
    (bif (decide (x14 < (a0.fFields.length : Int))) then (((cut a0.fFields 0 x14).bind fun v15 => ((idx a0.fFields x14).bind fun v16 => ((ref24_isField k v15 v16).bind fun v17 => (some ((!v17)))))).bind fun o18 =>
          (bif o18 then (some false) else
          (ref24_Valid_L2 k a0 K0 m (Go.IntKind.wrap .i64 (x14 + 1))))) else
        (K0 x14))
def ref24_Valid_L4 (o21 : (List T_progenyref24_span)) (x50 : Int)  (K0 : Int → Option Bool) : Nat → Int → Option Bool
  | 0, _ => none
  | m + 1, x68 =>
    (bif (decide (x68 < x50)) then (((idx o21 x68).bind fun v69 => ((idx o21 x50).bind fun v70 => (bif (v69.frow == v70.frow) then ((idx o21 x68).bind fun v71 => ((idx o21 x50).bind fun v72 => ((idx o21 x50).bind fun v73 => (bif (decide (v71.fcolumn < (Go.IntKind.wrap .i64 (v72.fcolumn + v73.fbytes)))) then ((idx o21 x50).bind fun v74 => ((idx o21 x68).bind fun v75 => ((idx o21 x68).bind fun v76 => (some ((decide (v74.fcolumn < (Go.IntKind.wrap .i64 (v75.fcolumn + v76.fbytes))))))))) else (some (false)))))) else (some (false))))).bind fun o77 =>
          (bif o77 then (some false) else
          (ref24_Valid_L4 o21 x50 K0 m (Go.IntKind.wrap .i64 (x68 + 1))))) else
        (K0 x68))
def ref24_Valid_L3 (k : Nat) (a0 : T_api_Form) (o21 : (List T_progenyref24_span))  (K0 : Int → Option Bool) : Nat → Int → Option Bool
  | 0, _ => none
  | m + 1, x50 =>
    (bif (decide (x50 < (o21.length : Int))) then (((idx o21 x50).bind fun v51 => (bif (decide (v51.frow < 0)) then (some (true)) else ((idx o21 x50).bind fun v52 => (bif (decide (v52.frow ≥ a0.fRows)) then (some (true)) else ((idx o21 x50).bind fun v53 => (bif (decide (v53.fcolumn < 0)) then (some (true)) else ((idx o21 x50).bind fun v54 => (bif (decide (v54.fcolumn ≥ a0.fColumns)) then (some (true)) else ((idx o21 x50).bind fun v55 => (bif (decide (v55.fbytes < 1)) then (some (true)) else ((idx o21 x50).bind fun v56 => ((idx o21 x50).bind fun v57 => (some ((decide (v56.fbytes > (Go.IntKind.wrap .i64 (a0.fColumns - v57.fcolumn)))))))))))))))))).bind fun o58 =>
          (bif o58 then (some false) else
          (ref24_Valid_L4 o21 x50 (fun y78 =>
            (ref24_Valid_L3 k a0 o21 K0 m (Go.IntKind.wrap .i64 (x50 + 1)))) k 0))) else
        (K0 x50))
def ref24_Valid : Nat → (T_api_Form) → Option Bool
  | 0, _ => none
  | k + 1, a0 =>
    ((bif (decide (a0.fRows < 1)) then (some (true)) else (bif (decide (a0.fRows > 12)) then (some (true)) else (bif (decide (a0.fColumns < 10)) then (some (true)) else (bif (decide (a0.fColumns > 40)) then (some (true)) else (bif (decide ((a0.fMarks.length : Int) > 8)) then (some (true)) else (some ((decide ((a0.fFields.length : Int) > 10))))))))).bind fun o1 =>
      (bif o1 then (some false) else
      (ref24_Valid_L1 k a0 (fun y9 =>
        (ref24_Valid_L2 k a0 (fun y19 =>
          ((ref24_spans k a0).bind fun o21 =>
            (ref24_Valid_L3 k a0 o21 (fun y79 =>
            (some true)) k 0))) k 0)) k 0)))
def ref24_lengths_L1 (a0 : T_api_Form)  (K0 : Int → Int → Int → Option (Int × Int)) : Nat → Int → Int → Int → Option (Int × Int)
  | 0, _, _, _ => none
  | m + 1, x4, x5, x6 =>
    (bif (decide (x6 < (a0.fFields.length : Int))) then (((idx a0.fFields x6).bind fun v7 => ((idx a0.fFields x6).bind fun v8 => (some ((if (Go.IntKind.wrap .i64 (v7.fIn + 1)) > x4 then (Go.IntKind.wrap .i64 (v7.fIn + 1)) else x4), (if (Go.IntKind.wrap .i64 (v8.fOut + 1)) > x5 then (Go.IntKind.wrap .i64 (v8.fOut + 1)) else x5))))).bind fun o9 =>
          (ref24_lengths_L1 a0 K0 m o9.1 o9.2 (Go.IntKind.wrap .i64 (x6 + 1)))) else
        (K0 x4 x5 x6))
def ref24_lengths : Nat → (T_api_Form) → Option (Int × Int)
  | 0, _ => none
  | k + 1, a0 =>
    (ref24_lengths_L1 a0 (fun y10 y11 y12 =>
      (some (y10, y11))) k 0 0 0)
def ref24_isMessage_L1 (k : Nat) (a1 : (List Str))  (K0 : Int → Option Bool) : Nat → Int → Option Bool
  | 0, _ => none
  | m + 1, x5 =>
    (bif (decide (x5 < (a1.length : Int))) then (((idx a1 x5).bind fun v6 => (bif (decide ((v6.length : Int) > 200)) then (some (true)) else ((idx a1 x5).bind fun v7 => ((ref24_IsText k v7).bind fun v8 => (some ((!v8))))))).bind fun o9 =>
          (bif o9 then (some false) else
          (ref24_isMessage_L1 k a1 K0 m (Go.IntKind.wrap .i64 (x5 + 1))))) else
        (K0 x5))
def ref24_isMessage : Nat → (T_api_Form) → ((List Str)) → Option Bool
  | 0, _, _ => none
  | k + 1, a0, a1 =>
    (ref24_isMessage_L1 k a1 (fun y10 =>
      (((ref24_lengths k a0).bind fun v11 => (some (v11.2))).bind fun o12 =>
        (some ((a1.length : Int) == o12)))) k 0)
def ref24_filled_L1 (a1 : Int) (a2 : Int)  (K0 : Str → Option Str) : Nat → Str → Option Str
  | 0, _ => none
  | m + 1, x3 =>
    (bif (decide ((x3.length : Int) < a1)) then ((cat x3 (Go.AE.strB ([a2] : List Int))).bind fun o5 =>
          (ref24_filled_L1 a1 a2 K0 m o5)) else
        (K0 x3))
def ref24_filled : Nat → (Str) → (Int) → (Int) → Option Str
  | 0, _, _, _ => none
  | k + 1, a0, a1, a2 =>
    (ref24_filled_L1 a1 a2 (fun y6 =>
      ((cut y6 0 a1).bind fun o8 =>
        (some o8))) k a0)
def ref24_laid : Nat → ((List Str)) → (Int) → (Int) → (Str) → Option (List Str)
  | 0, _, _, _, _ => none
  | k + 1, a0, a1, a2, a3 =>
    ((app ([] : List Str) a0).bind fun o2 =>
      (((inB o2.length a1).bind fun v3 => ((o2[0 + a1.toNat]?).bind fun v4 => ((cut v4 0 a2).bind fun v5 => ((cat v5 a3).bind fun v6 => ((inB o2.length a1).bind fun v7 => ((o2[0 + a1.toNat]?).bind fun v8 => ((cut v8 (Go.IntKind.wrap .i64 (a2 + (a3.length : Int))) (v8.length : Int)).bind fun v9 => ((cat v6 v9).bind fun v10 => ((inB o2.length a1).bind fun v11 => ((o2[0 + a1.toNat]?).bind fun v12 => (some ((o2.set (0 + a1.toNat) v10))))))))))))).bind fun o13 =>
      (some o13)))
def ref24_marked_L1 (k : Nat) (a0 : T_api_Form)  (K0 : (List Str) → Int → Option (List Str)) : Nat → (List Str) → Int → Option (List Str)
  | 0, _, _ => none
  | m + 1, x4, x5 =>
    (bif (decide (x5 < a0.fRows)) then (((ref24_filled k ([] : Str) a0.fColumns 32).bind fun v6 => (app x4 ([v6] : List Str))).bind fun o8 =>
          (ref24_marked_L1 k a0 K0 m o8 (Go.IntKind.wrap .i64 (x5 + 1)))) else
        (K0 x4 x5))
def ref24_marked_L2 (k : Nat) (a0 : T_api_Form)  (K0 : (List Str) → Int → Option (List Str)) : Nat → (List Str) → Int → Option (List Str)
  | 0, _, _ => none
  | m + 1, x16, x17 =>
    (bif (decide (x17 < (a0.fMarks.length : Int))) then (((idx a0.fMarks x17).bind fun v18 => ((idx a0.fMarks x17).bind fun v19 => ((idx a0.fMarks x17).bind fun v20 => (ref24_laid k x16 v18.fRow v19.fColumn v20.fText)))).bind fun o22 =>
          (ref24_marked_L2 k a0 K0 m o22 (Go.IntKind.wrap .i64 (x17 + 1)))) else
        (K0 x16 x17))
def ref24_marked : Nat → (T_api_Form) → Option (List Str)
  | 0, _ => none
  | k + 1, a0 =>
    (ref24_marked_L1 k a0 (fun y9 y10 =>
      (ref24_marked_L2 k a0 (fun y23 y24 =>
        (some y23)) k y9 0)) k ([] : List Str) 0)
def ref24_show_L1 (k : Nat) (a0 : T_api_Form) (a1 : (List Str))  (K0 : (List Str) → Int → Option (List Str)) : Nat → (List Str) → Int → Option (List Str)
  | 0, _, _ => none
  | m + 1, x13, x14 =>
    (bif (decide (x14 < (a0.fFields.length : Int))) then ((idx a0.fFields x14).bind fun o16 =>
          (bif (decide (o16.fOut ≥ 0)) then ((idx a1 o16.fOut).bind fun o18 =>
            (((ref24_filled k o18 o16.fBytes o16.fFill).bind fun v19 => (ref24_laid k x13 o16.fRow o16.fColumn v19)).bind fun o21 =>
            (ref24_show_L1 k a0 a1 K0 m o21 (Go.IntKind.wrap .i64 (x14 + 1))))) else
          (((ref24_filled k ([] : Str) o16.fBytes o16.fFill).bind fun v22 => (ref24_laid k x13 o16.fRow o16.fColumn v22)).bind fun o24 =>
            (ref24_show_L1 k a0 a1 K0 m o24 (Go.IntKind.wrap .i64 (x14 + 1)))))) else
        (K0 x13 x14))
def ref24_show : Nat → (T_api_Form) → ((List Str)) → Option (List Str)
  | 0, _, _ => none
  | k + 1, a0, a1 =>
    ((ref24_marked k a0).bind fun o2 =>
      (ref24_show_L1 k a0 a1 (fun y25 y26 =>
      (some y25)) k o2 0))
def ref24_Pages_L1 (a0 : T_api_Form)  (K0 : Int → Int → Option ((List (List Str)) × Int)) : Nat → Int → Int → Option ((List (List Str)) × Int)
  | 0, _, _ => none
  | m + 1, x7, x8 =>
    (bif (decide (x8 < (a0.fFields.length : Int))) then (((idx a0.fFields x8).bind fun v9 => (some ((v9.fOut == 0)))).bind fun o10 =>
          (bif o10 then (ref24_Pages_L1 a0 K0 m x8 (Go.IntKind.wrap .i64 (x8 + 1))) else
          (ref24_Pages_L1 a0 K0 m x7 (Go.IntKind.wrap .i64 (x8 + 1))))) else
        (K0 x7 x8))
def ref24_Pages_L2 (k : Nat) (a0 : T_api_Form) (a1 : (List Str)) (y11 : Int)   : Nat → Str → (List (List Str)) → Option ((List (List Str)) × Int)
  | 0, _, _ => none
  | m + 1, x25, x26 =>
    (((idx a0.fFields y11).bind fun v27 => (some ((if v27.fBytes < (x25.length : Int) then v27.fBytes else (x25.length : Int))))).bind fun o28 =>
        (((cut x25 0 o28).bind fun v29 => ((cut a1 1 (a1.length : Int)).bind fun v30 => ((app ([v29] : List Str) v30).bind fun v31 => ((ref24_show k a0 v31).bind fun v32 => (app x26 ([v32] : List (List Str))))))).bind fun o34 =>
        ((cut x25 o28 (x25.length : Int)).bind fun o36 =>
        (bif (o36 == ([] : Str)) then (some (o34, 0)) else
        (ref24_Pages_L2 k a0 a1 y11 m o36 o34)))))
def ref24_Pages : Nat → (T_api_Form) → ((List Str)) → Option ((List (List Str)) × Int)
  | 0, _, _ => none
  | k + 1, a0, a1 =>
    (((ref24_Valid k a0).bind fun v1 => (some ((!v1)))).bind fun o2 =>
      (bif o2 then (some (([] : List (List Str)), 220)) else
      (((ref24_isMessage k a0 a1).bind fun v3 => (some ((!v3)))).bind fun o4 =>
        (bif o4 then (some (([] : List (List Str)), 2)) else
        (ref24_Pages_L1 a0 (fun y11 y12 =>
          (bif (decide (y11 < 0)) then (some (([] : List (List Str)), 2)) else
            ((idx a1 0).bind fun o14 =>
              (ref24_Pages_L2 k a0 a1 y11 k o14 ([] : List (List Str)))))) k (-1) 0)))))
def slices_Equal_string_L1 (a0 : (List Str)) (a1 : (List Str))  (K0 : Int → Option Bool) : Nat → Int → Option Bool
  | 0, _ => none
  | m + 1, x4 =>
    (bif (decide (x4 < (a0.length : Int))) then (((idx a0 x4).bind fun v5 => ((idx a1 x4).bind fun v6 => (some ((!(v5 == v6)))))).bind fun o7 =>
          (bif o7 then (some false) else
          (slices_Equal_string_L1 a0 a1 K0 m (Go.IntKind.wrap .i64 (x4 + 1))))) else
        (K0 x4))
def slices_Equal_string : Nat → ((List Str)) → ((List Str)) → Option Bool
  | 0, _, _ => none
  | k + 1, a0, a1 =>
    (bif ((a0.length : Int) != (a1.length : Int)) then (some false) else
      (slices_Equal_string_L1 a0 a1 (fun y8 =>
        (some true)) k 0))
def screen_IsPicture_L1 (k : Nat) (a0 : T_api_Form) (a1 : (List Str))  (K0 : (List Str) → Int → Option (Bool × Int)) : Nat → (List Str) → Int → Option (Bool × Int)
  | 0, _, _ => none
  | m + 1, x16, x17 =>
    (bif (decide (x17 < (a0.fFields.length : Int))) then ((idx a0.fFields x17).bind fun o19 =>
          (((idx a1 o19.fRow).bind fun v20 => ((cut v20 o19.fColumn (Go.IntKind.wrap .i64 (o19.fColumn + o19.fBytes))).bind fun v21 => (screen_laid k x16 o19.fRow o19.fColumn v21))).bind fun o23 =>
          (screen_IsPicture_L1 k a0 a1 K0 m o23 (Go.IntKind.wrap .i64 (x17 + 1))))) else
        (K0 x16 x17))
def screen_IsPicture : Nat → (T_api_Form) → ((List Str)) → Option (Bool × Int)
  | 0, _, _ => none
  | k + 1, a0, a1 =>
    (((screen_Valid k a0).bind fun v1 => (some ((!v1)))).bind fun o2 =>
      (bif o2 then (some (false, 220)) else
      (((screen_fits k a0 a1).bind fun v3 => (some ((!v3)))).bind fun o4 =>
        (bif o4 then (some (false, 0)) else
        (((screen_lengths k a0).bind fun v5 => (some (v5.2))).bind fun o6 =>
          (((mkN [] o6).bind fun v7 => (screen_show k a0 v7)).bind fun o9 =>
          (screen_IsPicture_L1 k a0 a1 (fun y24 y25 =>
          (((slices_Equal_string k y24 a1).bind fun v26 => (some (v26, 0))).bind fun o27 =>
            (some (o27.1, o27.2)))) k o9 0)))))))
def law24_ScreenPages_L1 (k : Nat) (a0 : T_api_Form) (o7 : (List (List Str)) × Int) (o9 : (List (List Str)) × Int)  (K0 : Int → Option Bool) : Nat → Int → Option Bool
  | 0, _ => none
  | m + 1, x19 =>
    (bif (decide (x19 < (o7.1.length : Int))) then (((idx o7.1 x19).bind fun v20 => ((idx o9.1 x19).bind fun v21 => ((ref01_SameTexts k v20 v21).bind fun v22 => (some ((!v22)))))).bind fun o23 =>
          (bif o23 then (some false) else
          (((idx o7.1 x19).bind fun v24 => ((screen_IsPicture k a0 v24).bind fun v25 => (some (v25.1, v25.2)))).bind fun o26 =>
            ((bif (o26.2 != 0) then (some (true)) else (some ((!o26.1)))).bind fun o27 =>
            (bif o27 then (some false) else
            (law24_ScreenPages_L1 k a0 o7 o9 K0 m (Go.IntKind.wrap .i64 (x19 + 1)))))))) else
        (K0 x19))
def law24_ScreenPages : Nat → (T_api_Form) → ((List Str)) → Option Bool
  | 0, _, _ => none
  | k + 1, a0, a1 =>
    (((law24_Large k a0).bind fun v1 => (bif v1 then (some (true)) else (law24_Long k a1))).bind fun o3 =>
      (bif o3 then ((law24_Awake k).bind fun o5 =>
        (some o5)) else
      (((screen_Pages k a0 a1).bind fun v6 => (some (v6.1, v6.2))).bind fun o7 =>
        (((ref24_Pages k a0 a1).bind fun v8 => (some (v8.1, v8.2))).bind fun o9 =>
        ((bif ((o7.1.length : Int) != (o9.1.length : Int)) then (some (true)) else (some ((o7.2 != o9.2)))).bind fun o10 =>
        (bif o10 then (some false) else
        (law24_ScreenPages_L1 k a0 o7 o9 (fun y28 =>
          ((law24_Awake k).bind fun o30 =>
            (some o30))) k 0)))))))
end Go.Sh
namespace Go.Sh
open Go.AE
set_option linter.unusedVariables false
theorem maxLen_eq : maxLen = 9223372036854775807 := rfl
theorem wrap_in {x : Int} (h : -9223372036854775808 ≤ x) (h' : x ≤ 9223372036854775807) : Go.IntKind.wrap .i64 x = x := IntWalk.i64_in x ⟨h, h'⟩
theorem wrap_next {i n : Nat} (h : i < n) (hn : n ≤ maxLen) : Go.IntKind.wrap .i64 ((i : Int) + 1) = ((i + 1 : Nat) : Int) := by
  rw [wrap_in] <;> (try rw [maxLen_eq] at hn) <;> omega
theorem idx_at {α : Type} {l : List α} {i : Nat} (h : i < l.length) : idx l (i : Int) = some l[i] := by
  unfold idx
  rw [if_pos (by omega), Int.toNat_natCast, List.getElem?_eq_getElem h]
theorem idx_of {α : Type} {l : List α} {x : Int} (h0 : 0 ≤ x) (h : x < (l.length : Int)) : idx l x = some (l[x.toNat]'(by omega)) := by
  unfold idx
  rw [if_pos h0, List.getElem?_eq_getElem (by omega)]
theorem idxS_at {l : List UInt8} {i : Nat} (h : i < l.length) : idxS l (i : Int) = some (l[i].toNat : Int) := by
  unfold idxS
  rw [if_pos (by omega), Int.toNat_natCast, List.getElem?_eq_getElem h]
  rfl
theorem cut_take {α : Type} {l : List α} {i : Nat} (h : i ≤ l.length) : cut l 0 (i : Int) = some (l.take i) := by
  unfold cut
  rw [if_pos ⟨by omega, by omega, by omega⟩]
  simp
theorem app_ok {α : Type} {l m : List α} (h : l.length + m.length ≤ maxList) : app l m = some (l ++ m) := by
  unfold app; rw [if_pos h]
def scan {β : Type} (g : Nat → Bool) (r : Nat → β) (z : β) : Nat → Nat → β
  | 0, _ => z
  | d + 1, i => bif g i then r i else scan g r z d (i + 1)
theorem loop_scan {S β : Type} {n : Nat} {L : Nat → Int → S → β} {σ : Nat → S} {g : Nat → Bool} {r : Nat → β} {z : β}
    (hs : ∀ m i, i < n → (∀ j, j < i → g j = false) → L (m + 1) (i : Int) (σ i) = bif g i then r i else L m ((i + 1 : Nat) : Int) (σ (i + 1)))
    (he : ∀ m, (∀ j, j < n → g j = false) → L (m + 1) (n : Int) (σ n) = z) : ∀ d i m, i + d = n → (∀ j, j < i → g j = false) → d < m → L m (i : Int) (σ i) = scan g r z d i
  | 0, i, m, hd, hb, hm => by
    obtain ⟨m, rfl⟩ : ∃ q, m = q + 1 := ⟨m - 1, by omega⟩
    have : i = n := by omega
    subst this
    exact he m hb
  | d + 1, i, m, hd, hb, hm => by
    obtain ⟨m, rfl⟩ : ∃ q, m = q + 1 := ⟨m - 1, by omega⟩
    rw [hs m i (by omega) hb, scan]
    cases hg : g i with
    | true => rfl
    | false =>
      simp only [cond_false]
      refine loop_scan hs he d (i + 1) m (by omega) (fun j hj => ?_) (by omega)
      by_cases e : j = i
      · subst e; exact hg
      · exact hb j (by omega)
theorem loop0 {β : Type} {n : Nat} {L : Nat → Int → β} {g : Nat → Bool} {r : Nat → β} {z : β}
    (hs : ∀ m i, i < n → (∀ j, j < i → g j = false) → L (m + 1) (i : Int) = bif g i then r i else L m ((i + 1 : Nat) : Int))
    (he : ∀ m, (∀ j, j < n → g j = false) → L (m + 1) (n : Int) = z) {m : Nat} (hm : n < m) : L m 0 = scan g r z n 0 :=
  loop_scan (S := Unit) (L := fun m x _ => L m x) (σ := fun _ => ()) hs he n 0 m (by omega) (fun j hj => by omega) hm
theorem loopS {S β : Type} {n : Nat} {L : Nat → Int → S → β} {σ : Nat → S} {g : Nat → Bool} {r : Nat → β} {z : β}
    (hs : ∀ m i, i < n → (∀ j, j < i → g j = false) → L (m + 1) (i : Int) (σ i) = bif g i then r i else L m ((i + 1 : Nat) : Int) (σ (i + 1)))
    (he : ∀ m, (∀ j, j < n → g j = false) → L (m + 1) (n : Int) (σ n) = z) {m : Nat} (hm : n < m) {s0 : S} (h0 : σ 0 = s0) : L m 0 s0 = scan g r z n 0 := by
  subst h0
  exact loop_scan hs he n 0 m (by omega) (fun j hj => by omega) hm
theorem scan_congr {β : Type} {g g' : Nat → Bool} {r r' : Nat → β} {z z' : β} : ∀ d i, (∀ j, i ≤ j → j < i + d → (∀ q, i ≤ q → q < j → g q = false) → g j = g' j ∧ (g j = true → r j = r' j)) → ((∀ q, i ≤ q → q < i + d → g q = false) → z = z') → scan g r z d i = scan g' r' z' d i
  | 0, i, h, hz => hz (fun q h1 h2 => by omega)
  | d + 1, i, h, hz => by
    obtain ⟨h1, h2⟩ := h i (Nat.le_refl i) (by omega) (fun q a b => by omega)
    simp only [scan]
    rw [← h1]
    cases hg : g i with
    | true => simp only [cond_true]; exact h2 hg
    | false =>
      simp only [cond_false]
      refine scan_congr d (i + 1) (fun j a b hq => h j (by omega) (by omega) (fun q c e => ?_)) (fun hq => hz (fun q a b => ?_))
      · by_cases e2 : q = i
        · subst e2; exact hg
        · exact hq q (by omega) e
      · by_cases e2 : q = i
        · subst e2; exact hg
        · exact hq q (by omega) (by omega)
def anyB (g : Nat → Bool) (n : Nat) : Bool := scan g (fun _ => true) false n 0
theorem scan_map {β γ : Type} (f : β → γ) {g : Nat → Bool} {r : Nat → β} {z : β} : ∀ d i, f (scan g r z d i) = scan g (fun i => f (r i)) (f z) d i
  | 0, _ => rfl
  | d + 1, i => by
    simp only [scan]
    cases g i with
    | true => rfl
    | false => exact scan_map f d (i + 1)
theorem scan_const {β : Type} {g : Nat → Bool} {r z : β} (n : Nat) : scan g (fun _ => r) z n 0 = bif anyB g n then r else z := by
  unfold anyB
  have : ∀ d i, scan g (fun _ => r) z d i = bif scan g (fun _ => true) false d i then r else z := by
    intro d
    induction d with
    | zero => intro i; rfl
    | succ d ih =>
      intro i
      simp only [scan]
      cases g i with
      | true => rfl
      | false => exact ih (i + 1)
  exact this n 0
theorem scan_false {β : Type} {g : Nat → Bool} {r : Nat → β} {z : β} : ∀ d i, (∀ q, i ≤ q → q < i + d → g q = false) → scan g r z d i = z
  | 0, _, _ => rfl
  | d + 1, i, h => by
    simp only [scan, h i (Nat.le_refl i) (by omega), cond_false]
    exact scan_false d (i + 1) (fun q a b => h q (by omega) (by omega))
/-- Either the first place where it holds, or nowhere. -/
theorem scan_cases {β : Type} (g : Nat → Bool) (r : Nat → β) (z : β) : ∀ d i, ((∀ q, i ≤ q → q < i + d → g q = false) ∧ scan g r z d i = z) ∨ ∃ j, i ≤ j ∧ j < i + d ∧ g j = true ∧ (∀ q, i ≤ q → q < j → g q = false) ∧ scan g r z d i = r j
  | 0, i => .inl ⟨fun q a b => by omega, rfl⟩
  | d + 1, i => by
    simp only [scan]
    cases hg : g i with
    | true => exact .inr ⟨i, Nat.le_refl i, by omega, hg, fun q a b => by omega, rfl⟩
    | false =>
      simp only [cond_false]
      rcases scan_cases g r z d (i + 1) with ⟨h1, h2⟩ | ⟨j, h1, h2, h3, h4, h5⟩
      · exact .inl ⟨fun q a b => by
          by_cases e : q = i
          · subst e; exact hg
          · exact h1 q (by omega) (by omega), h2⟩
      · exact .inr ⟨j, by omega, by omega, h3, fun q a b => by
          by_cases e : q = i
          · subst e; exact hg
          · exact h4 q (by omega) b, h5⟩
theorem anyB_iff {g : Nat → Bool} {n : Nat} : anyB g n = true ↔ ∃ i, i < n ∧ g i = true := by
  unfold anyB
  rcases scan_cases g (fun _ => true) false n 0 with ⟨h1, h2⟩ | ⟨j, h1, h2, h3, h4, h5⟩
  · rw [h2]
    exact ⟨fun h => absurd h (by simp), fun ⟨i, hi, hg⟩ => absurd hg (by rw [h1 i (by omega) (by omega)]; simp)⟩
  · rw [h5]
    exact ⟨fun _ => ⟨j, by omega, h3⟩, fun _ => rfl⟩
theorem anyB_false {g : Nat → Bool} {n : Nat} : anyB g n = false ↔ ∀ i, i < n → g i = false := by
  constructor
  · intro h i hi
    cases hg : g i with
    | false => rfl
    | true => rw [anyB_iff.2 ⟨i, hi, hg⟩] at h; cases h
  · intro h
    cases ha : anyB g n with
    | false => rfl
    | true =>
      obtain ⟨i, hi, hg⟩ := anyB_iff.1 ha
      rw [h i hi] at hg; cases hg
theorem anyB_congr {g g' : Nat → Bool} {n : Nat} (h : ∀ i, i < n → (∀ j, j < i → g j = false) → g i = g' i) : anyB g n = anyB g' n :=
  scan_congr n 0 (fun j _ hj hq => ⟨h j (by omega) (fun q hq' => hq q (by omega) hq'), fun _ => rfl⟩) (fun _ => rfl)
/-- Places of a list. -/
def at' {α : Type} (l : List α) (p : α → Bool) (i : Nat) : Bool := match l[i]? with | some x => p x | none => false
theorem at'_eq {α : Type} {l : List α} {p : α → Bool} {i : Nat} (h : i < l.length) : at' l p i = p l[i] := by
  unfold at'
  rw [List.getElem?_eq_getElem h]
theorem anyB_any {α : Type} {l : List α} {p : α → Bool} : anyB (at' l p) l.length = l.any p := by
  cases h : l.any p with
  | true =>
    obtain ⟨x, hx, hp⟩ := List.any_eq_true.1 h
    obtain ⟨i, hi, rfl⟩ := List.getElem_of_mem hx
    exact anyB_iff.2 ⟨i, hi, by rw [at'_eq hi]; exact hp⟩
  | false =>
    rw [List.any_eq_false] at h
    refine anyB_false.2 (fun i hi => ?_)
    rw [at'_eq hi]
    have := h _ (List.getElem_mem hi)
    simpa using this
/-- The first place where it holds, or -1. -/
def pos {α : Type} (l : List α) (p : α → Bool) : Int := scan (at' l p) (fun i => (i : Int)) (-1) l.length 0
theorem pos_cases {α : Type} (l : List α) (p : α → Bool) : ((∀ i (h : i < l.length), p l[i] = false) ∧ pos l p = -1) ∨ ∃ j, ∃ h : j < l.length, p l[j] = true ∧ (∀ i (h : i < l.length), i < j → p l[i] = false) ∧ pos l p = (j : Int) := by
  unfold pos
  rcases scan_cases (at' l p) (fun i => (i : Int)) (-1) l.length 0 with ⟨h1, h2⟩ | ⟨j, h1, h2, h3, h4, h5⟩
  · exact .inl ⟨fun i hi => by rw [← at'_eq (p := p) hi]; exact h1 i (by omega) (by omega), h2⟩
  · refine .inr ⟨j, by omega, ?_, fun i hi hij => ?_, h5⟩
    · rw [← at'_eq (p := p) (show j < l.length by omega)]; exact h3
    · rw [← at'_eq (p := p) hi]; exact h4 i (by omega) hij
theorem pos_any {α : Type} (l : List α) (p : α → Bool) : decide (pos l p ≥ 0) = l.any p := by
  rcases pos_cases l p with ⟨h1, h2⟩ | ⟨j, h1, h2, h3, h4⟩
  · rw [h2]
    have : l.any p = false := by
      rw [List.any_eq_false]
      intro x hx
      obtain ⟨i, hi, rfl⟩ := List.getElem_of_mem hx
      rw [h1 i hi]; simp
    rw [this]; rfl
  · rw [h4]
    have : l.any p = true := List.any_eq_true.2 ⟨l[j], List.getElem_mem h1, h2⟩
    rw [this]
    simp
end Go.Sh

namespace Go.Sh
open Go.AE
set_option linter.unusedVariables false
set_option linter.unusedSimpArgs false
theorem succ_of {k c : Nat} (h : c + 1 ≤ k) : ∃ q, k = q + 1 ∧ c ≤ q := ⟨k - 1, by omega, by omega⟩
theorem lt_dec {i n : Nat} (h : i < n) : decide ((i : Int) < (n : Int)) = true := by simp; exact h
theorem lt_self (n : Nat) : decide ((n : Int) < (n : Int)) = false := by simp
theorem anyLoop {γ : Type} {n : Nat} {L : Nat → Int → Option γ} {body : Int → Option Bool} {K : Int → Option γ} {r z : Option γ} {g : Nat → Bool}
    (hL : ∀ m x, L (m + 1) x = bif decide (x < (n : Int)) then ((body x).bind fun o => bif o then r else L m (Go.IntKind.wrap .i64 (x + 1))) else K x)
    (hb : ∀ i, i < n → (∀ j, j < i → g j = false) → body (i : Int) = some (g i)) (hK : (∀ i, i < n → g i = false) → K (n : Int) = z) (hn : n ≤ maxLen) {m : Nat} (hm : n < m) : L m 0 = bif anyB g n then r else z := by
  refine Eq.trans (loop0 (L := L) (n := n) (g := g) (r := fun _ => r) (z := z) ?_ ?_ hm) (scan_const n)
  · intro m i hi hj
    rw [hL, lt_dec hi, cond_true, hb i hi hj, wrap_next hi hn]
    rfl
  · intro m hj
    rw [hL, lt_self, cond_false]
    exact hK hj
theorem foldLoop {α S γ : Type} {l : List α} {L : Nat → Int → S → Option γ} {stp : S → α → S} {K : S → Option γ} (Inv : Nat → S → Prop)
    (hL : ∀ m i (hi : i < l.length) s, Inv i s → L (m + 1) (i : Int) s = L m ((i + 1 : Nat) : Int) (stp s l[i]) ∧ Inv (i + 1) (stp s l[i]))
    (hK : ∀ m s, Inv l.length s → L (m + 1) (l.length : Int) s = K s) {m : Nat} (hm : l.length < m) {s0 : S} (h0 : Inv 0 s0) : L m 0 s0 = K (l.foldl stp s0) ∧ Inv l.length (l.foldl stp s0) := by
  have key : ∀ d i m s, i + d = l.length → d < m → Inv i s → L m (i : Int) s = K ((l.drop i).foldl stp s) ∧ Inv l.length ((l.drop i).foldl stp s) := by
    intro d
    induction d with
    | zero =>
      intro i m s hd hm hi
      obtain ⟨m, rfl⟩ : ∃ q, m = q + 1 := ⟨m - 1, by omega⟩
      have : i = l.length := by omega
      subst this
      rw [List.drop_length]
      exact ⟨hK m s hi, hi⟩
    | succ d ih =>
      intro i m s hd hm hi
      obtain ⟨m, rfl⟩ : ∃ q, m = q + 1 := ⟨m - 1, by omega⟩
      have hil : i < l.length := by omega
      obtain ⟨h1, h2⟩ := hL m i hil s hi
      rw [h1, List.drop_eq_getElem_cons hil]
      exact ih (i + 1) m _ (by omega) (by omega) h2
  simpa using key l.length 0 m s0 (by omega) (by omega) h0
theorem indexFunc_gen {α : Type} {l : List α} {p : α → Bool} {f : α → Option Bool} (hp : ∀ x ∈ l, f x = some (p x)) {L : Nat → Int → Option Int} {K0 : Int → Option Int}
    (hL : ∀ m x, L (m + 1) x = (bif decide (x < (l.length : Int)) then (((idx l x).bind f).bind fun o => (bif o then (some x) else L m (Go.IntKind.wrap .i64 (x + 1)))) else K0 x))
    (hK : K0 (l.length : Int) = some (-1)) (hn : l.length ≤ maxLen) {m : Nat} (hm : l.length < m) : L m 0 = some (pos l p) := by
  refine Eq.trans (loop0 (L := L) (n := l.length) (g := at' l p) (r := fun i => some (i : Int)) (z := some (-1)) ?_ ?_ hm) ?_
  rotate_left 2
  · unfold pos
    rw [scan_map some]
  · intro m i hi _
    rw [hL, at'_eq hi]
    simp only [show decide ((i : Int) < (l.length : Int)) = true by simp; exact hi, cond_true, idx_at hi, Option.bind_some, hp _ (List.getElem_mem hi), wrap_next hi hn]
  · intro m _
    rw [hL]
    simp only [show decide ((l.length : Int) < (l.length : Int)) = false by simp, cond_false, hK]
theorem anyB_take {α : Type} {l : List α} {p : α → Bool} {i : Nat} (h : i ≤ l.length) : anyB (at' l p) i = (l.take i).any p := by
  rw [← anyB_any]
  rw [List.length_take, Nat.min_eq_left h]
  refine anyB_congr (fun j hj _ => ?_)
  rw [at'_eq (by omega), at'_eq (by rw [List.length_take]; omega)]
  congr 1
  simp
def byteOk (c : UInt8) : Bool := decide ((c.toNat : Int) ≥ 32) && decide ((c.toNat : Int) ≤ 126)
def textOk (s : List UInt8) : Bool := s.all byteOk
def badL (s : List UInt8) (i : Nat) : Bool := at' s (fun c => (!(decide ((c.toNat : Int) ≥ 65) && decide ((c.toNat : Int) ≤ 90))) && (((i : Int) == 0) || (decide ((c.toNat : Int) < 48) || decide ((c.toNat : Int) > 57)))) i
def nameOk (s : List UInt8) : Bool := !anyB (badL s) s.length && (decide ((s.length : Int) ≥ 1) && decide ((s.length : Int) ≤ 8))
theorem any_all {α : Type} (l : List α) (p : α → Bool) : (!l.any fun x => !p x) = l.all p := by
  induction l with
  | nil => rfl
  | cons x l ih => simp only [List.any_cons, List.all_cons, Bool.not_or, Bool.not_not, ih]
/-- A text is laid into a row. -/
def layR (r : List UInt8) (c : Nat) (s : List UInt8) : List UInt8 := r.take c ++ s ++ r.drop (c + s.length)
def laidL (p : List (List UInt8)) (row c : Nat) (s : List UInt8) : List (List UInt8) := match p[row]? with
  | some r => p.set row (layR r c s)
  | none => p
theorem length_layR {r s : List UInt8} {c : Nat} (h : c + s.length ≤ r.length) : (layR r c s).length = r.length := by
  unfold layR; simp; omega
theorem getElem?_layR {r s : List UInt8} {c : Nat} (h : c + s.length ≤ r.length) (k : Nat) : (layR r c s)[k]? = if c ≤ k ∧ k < c + s.length then s[k - c]? else r[k]? := by
  unfold layR
  by_cases h1 : k < c
  · rw [if_neg (by omega), List.append_assoc, List.getElem?_append_left (by simp; omega), List.getElem?_take, if_pos h1]
  · rw [List.append_assoc, List.getElem?_append_right (by simp; omega)]
    have e1 : (r.take c).length = c := by simp; omega
    rw [e1]
    by_cases h2 : k < c + s.length
    · rw [if_pos ⟨by omega, h2⟩, List.getElem?_append_left (by omega)]
    · rw [if_neg (by omega), List.getElem?_append_right (by omega), List.getElem?_drop]
      congr 1
      omega
/-- The byte at a place. -/
def cellL (p : List (List UInt8)) (i k : Nat) : Option UInt8 := (p[i]?).bind (·[k]?)
/-- So many rows, of so many bytes each. -/
def Sized (R C : Nat) (p : List (List UInt8)) : Prop := p.length = R ∧ ∀ r ∈ p, r.length = C
theorem Sized.get {R C : Nat} {p : List (List UInt8)} (h : Sized R C p) {i : Nat} (hi : i < R) : ∃ r, p[i]? = some r ∧ r.length = C := by
  have : i < p.length := by rw [h.1]; exact hi
  exact ⟨p[i], List.getElem?_eq_getElem this, h.2 _ (List.getElem_mem this)⟩
theorem Sized.laid {R C : Nat} {p : List (List UInt8)} (h : Sized R C p) {row c : Nat} {s : List UInt8} (hc : c + s.length ≤ C) : Sized R C (laidL p row c s) := by
  unfold laidL
  cases hr : p[row]? with
  | none => exact h
  | some r =>
    have hrl : r.length = C := h.2 r (List.mem_of_getElem? hr)
    refine ⟨by simp [h.1], fun x hx => ?_⟩
    rcases List.mem_or_eq_of_mem_set hx with hx | rfl
    · exact h.2 x hx
    · rw [length_layR (by omega)]; exact hrl
theorem cell_laid {R C : Nat} {p : List (List UInt8)} (h : Sized R C p) {row c : Nat} {s : List UInt8} (hr : row < R) (hc : c + s.length ≤ C) (i k : Nat) :
    cellL (laidL p row c s) i k = if i = row ∧ c ≤ k ∧ k < c + s.length then s[k - c]? else cellL p i k := by
  obtain ⟨r, hr1, hr2⟩ := h.get hr
  have hrl : row < p.length := by rw [h.1]; exact hr
  unfold laidL cellL
  rw [hr1]
  simp only [List.getElem?_set]
  by_cases hi : row = i
  · subst hi
    rw [if_pos rfl, if_pos hrl, hr1]
    simp only [Option.bind_some]
    rw [getElem?_layR (by omega)]
    by_cases hk : c ≤ k ∧ k < c + s.length
    · rw [if_pos hk, if_pos ⟨trivial, hk⟩]
    · rw [if_neg hk, if_neg (fun hh => hk hh.2)]
  · rw [if_neg hi, if_neg (fun hh => hi hh.1.symm)]
theorem Sized.ext {R C : Nat} {p q : List (List UInt8)} (hp : Sized R C p) (hq : Sized R C q) (h : ∀ i k, i < R → k < C → cellL p i k = cellL q i k) : p = q := by
  refine List.ext_getElem? (fun i => ?_)
  by_cases hi : i < R
  · obtain ⟨r, h1, h2⟩ := hp.get hi
    obtain ⟨t, h3, h4⟩ := hq.get hi
    rw [h1, h3]
    congr 1
    refine List.ext_getElem? (fun k => ?_)
    by_cases hk : k < C
    · have := h i k hi hk
      unfold cellL at this
      rw [h1, h3] at this
      exact this
    · rw [List.getElem?_eq_none (by omega), List.getElem?_eq_none (by omega)]
  · rw [List.getElem?_eq_none (by rw [hp.1]; omega), List.getElem?_eq_none (by rw [hq.1]; omega)]
theorem cat_ok {a b : List UInt8} (h : a.length + b.length ≤ maxList) : cat a b = some (a ++ b) := by
  unfold cat; rw [if_pos h]
theorem cut_in {α : Type} {l : List α} {a b : Nat} (h1 : a ≤ b) (h2 : b ≤ l.length) : cut l (a : Int) (b : Int) = some ((l.take b).drop a) := by
  unfold cut
  rw [if_pos ⟨by omega, by omega, by omega⟩]
  simp
/-- What both programs do when a text is laid. -/
theorem lay_body {p : List (List UInt8)} {row c R C : Nat} {s : List UInt8} (h : Sized R C p) (hr : row < R) (hc : c + s.length ≤ C) (hC : C ≤ 1000000) :
    ((inB p.length (row : Int)).bind fun v3 => ((p[0 + (row : Int).toNat]?).bind fun v4 => ((cut v4 0 (c : Int)).bind fun v5 => ((cat v5 s).bind fun v6 => ((inB p.length (row : Int)).bind fun v7 => ((p[0 + (row : Int).toNat]?).bind fun v8 => ((cut v8 (Go.IntKind.wrap .i64 ((c : Int) + (s.length : Int))) (v8.length : Int)).bind fun v9 => ((cat v6 v9).bind fun v10 => ((inB p.length (row : Int)).bind fun v11 => ((p[0 + (row : Int).toNat]?).bind fun v12 => (some ((p.set (0 + (row : Int).toNat) v10))))))))))))) = some (laidL p row c s) := by
  obtain ⟨r, hr1, hr2⟩ := h.get hr
  have hB : inB p.length (row : Int) = some () := by unfold inB; rw [if_pos ⟨by omega, by rw [h.1]; omega⟩]
  have hw : Go.IntKind.wrap .i64 ((c : Int) + (s.length : Int)) = ((c + s.length : Nat) : Int) := by rw [wrap_in] <;> omega
  have h1 : cut r 0 (c : Int) = some (r.take c) := cut_take (by omega)
  have h2 : cut r ((c + s.length : Nat) : Int) (r.length : Int) = some (r.drop (c + s.length)) := by rw [cut_in (by omega) (Nat.le_refl _)]; simp
  have h3 : cat (r.take c) s = some (r.take c ++ s) := cat_ok (by simp; unfold maxList; omega)
  have h4 : cat (r.take c ++ s) (r.drop (c + s.length)) = some (layR r c s) := by rw [cat_ok (by simp; unfold maxList; omega)]; rfl
  simp only [hB, Option.bind_some, Int.toNat_natCast, Nat.zero_add, hr1, h1, h3, hw, h2, h4]
  unfold laidL
  rw [hr1]
end Go.Sh

namespace Go.Sh
open Go.AE
set_option linter.unusedVariables false
set_option linter.unusedSimpArgs false
theorem maxLen_lt : maxLen = 9223372036854775807 := rfl
theorem screen_isByte_ok {k : Nat} (hk : 1 ≤ k) (n : Int) : screen_isByte k n = some (decide (n ≥ 32) && decide (n ≤ 126)) := by
  obtain ⟨k, rfl, _⟩ := succ_of (c := 0) hk
  simp only [screen_isByte]
  cases decide (n ≥ 32) <;> rfl
theorem screen_isText_ok {k : Nat} {s : Str} (hk : maxLen + 4 ≤ k) (hs : wfS s) : screen_isText k s = some (textOk s) := by
  obtain ⟨k, rfl, hq⟩ := succ_of hk
  unfold wfS at hs
  refine Eq.trans (anyLoop (n := s.length) (L := fun m x => screen_isText_L1 k s (fun _ => some true) m x) (body := fun x => ((idxS s x).bind fun v5 => ((screen_isByte k v5).bind fun v6 => (some (!v6))))) (K := fun _ => some true) (r := some false) (z := some true) (g := at' s (fun c => !byteOk c))
    (fun m x => rfl) (fun i hi _ => ?_) (fun _ => rfl) hs (m := k) (by omega)) ?_
  · rw [at'_eq hi]
    simp only [idxS_at hi, Option.bind_some, screen_isByte_ok (show 1 ≤ k by omega), byteOk]
  · unfold textOk
    rw [anyB_any, ← any_all]
    cases s.any fun c => !byteOk c <;> rfl
theorem ref24_IsText_ok {k : Nat} {s : Str} (hk : maxLen + 4 ≤ k) (hs : wfS s) : ref24_IsText k s = some (textOk s) := by
  obtain ⟨k, rfl, hq⟩ := succ_of hk
  unfold wfS at hs
  refine Eq.trans (anyLoop (n := s.length) (L := fun m x => ref24_IsText_L1 s (fun _ => some true) m x) (body := fun x => ((idxS s x).bind fun v5 => (bif (decide (v5 < 32)) then (some (true)) else ((idxS s x).bind fun v6 => (some ((decide (v6 > 126)))))))) (K := fun _ => some true) (r := some false) (z := some true) (g := at' s (fun c => !byteOk c))
    (fun m x => rfl) (fun i hi _ => ?_) (fun _ => rfl) hs (m := k) (by omega)) ?_
  · rw [at'_eq hi]
    simp only [idxS_at hi, Option.bind_some, byteOk]
    by_cases h1 : (s[i].toNat : Int) < 32
    · rw [show decide ((s[i].toNat : Int) < 32) = true by simp; omega, show decide ((s[i].toNat : Int) ≥ 32) = false by simp; omega]
      rfl
    · rw [show decide ((s[i].toNat : Int) < 32) = false by simp; omega, show decide ((s[i].toNat : Int) ≥ 32) = true by simp; omega, cond_false]
      by_cases h2 : (s[i].toNat : Int) ≤ 126
      · rw [show decide ((s[i].toNat : Int) > 126) = false by simp; omega, show decide ((s[i].toNat : Int) ≤ 126) = true by simp; omega]
        rfl
      · rw [show decide ((s[i].toNat : Int) > 126) = true by simp; omega, show decide ((s[i].toNat : Int) ≤ 126) = false by simp; omega]
        rfl
  · unfold textOk
    rw [anyB_any, ← any_all]
    cases s.any fun c => !byteOk c <;> rfl
theorem screen_isName_ok {k : Nat} {s : Str} (hk : maxLen + 2 ≤ k) (hs : wfS s) : screen_isName k s = some (nameOk s) := by
  obtain ⟨k, rfl, hq⟩ := succ_of hk
  unfold screen_isName
  unfold wfS at hs
  refine Eq.trans (loop0 (L := fun m x => screen_isName_L1 s _ m x) (n := s.length) (g := badL s) (r := fun _ => some false) (z := some (decide ((s.length : Int) ≥ 1) && decide ((s.length : Int) ≤ 8))) ?_ ?_ (by omega)) ?_
  rotate_left 2
  · rw [scan_const]
    unfold nameOk
    cases anyB (badL s) s.length <;> rfl
  · intro m i hi _
    simp only [screen_isName_L1, badL, at'_eq hi, idxS_at hi, wrap_next hi hs, Option.bind_some, show decide ((i : Int) < (s.length : Int)) = true by simp; exact hi, cond_true]
    cases decide ((s[i].toNat : Int) ≥ 65) <;> cases decide ((s[i].toNat : Int) ≤ 90) <;> cases ((i : Int) == 0) <;> cases decide ((s[i].toNat : Int) < 48) <;> cases decide ((s[i].toNat : Int) > 57) <;> rfl
  · intro m _
    simp only [screen_isName_L1, show decide ((s.length : Int) < (s.length : Int)) = false by simp, cond_false]
    cases decide ((s.length : Int) ≥ 1) <;> cases decide ((s.length : Int) ≤ 8) <;> rfl
theorem ref11_IsName_L1_eq (a : Str) (K : Int → Option Bool) : ∀ m x, ref11_IsName_L1 a K m x = screen_isName_L1 a K m x := by
  intro m
  induction m with
  | zero => intro x; rfl
  | succ m ih => intro x; simp only [ref11_IsName_L1, screen_isName_L1, ih]
theorem ref11_IsName_ok {k : Nat} {s : Str} (hk : maxLen + 2 ≤ k) (hs : wfS s) : ref11_IsName k s = some (nameOk s) := by
  rw [← screen_isName_ok hk hs]
  cases k with
  | zero => rfl
  | succ k => simp only [ref11_IsName, screen_isName, ref11_IsName_L1_eq]
theorem indexFunc_Slot {k : Nat} {l : List T_api_Slot} {p : T_api_Slot → Bool} {f : Nat → T_api_Slot → Option Bool} (hk : l.length + 2 ≤ k) (hn : l.length ≤ maxLen) (hp : ∀ k', k' + 1 = k → ∀ x ∈ l, f k' x = some (p x)) : slices_IndexFunc_Slot k l f = some (pos l p) := by
  obtain ⟨k, rfl, hq⟩ := succ_of hk
  exact indexFunc_gen (hp k rfl) (L := fun m x => slices_IndexFunc_Slot_L1 k l f _ m x) (fun m x => rfl) rfl hn (by omega)
theorem containsFunc_Slot {k : Nat} {l : List T_api_Slot} {p : T_api_Slot → Bool} {f : Nat → T_api_Slot → Option Bool} (hk : l.length + 3 ≤ k) (hn : l.length ≤ maxLen) (hp : ∀ k', k' + 2 = k → ∀ x ∈ l, f k' x = some (p x)) : slices_ContainsFunc_Slot k l f = some (l.any p) := by
  obtain ⟨k, rfl, hq⟩ := succ_of hk
  simp only [slices_ContainsFunc_Slot, indexFunc_Slot hq hn (fun k' e => hp k' (by omega)), Option.bind_some, pos_any]
theorem indexFunc_part {k : Nat} {l : List T_screen_part} {p : T_screen_part → Bool} {f : Nat → T_screen_part → Option Bool} (hk : l.length + 2 ≤ k) (hn : l.length ≤ maxLen) (hp : ∀ k', k' + 1 = k → ∀ x ∈ l, f k' x = some (p x)) : slices_IndexFunc_part_v10s75 k l f = some (pos l p) := by
  obtain ⟨k, rfl, hq⟩ := succ_of hk
  exact indexFunc_gen (hp k rfl) (L := fun m x => slices_IndexFunc_part_v10s75_L1 k l f _ m x) (fun m x => rfl) rfl hn (by omega)
theorem containsFunc_part {k : Nat} {l : List T_screen_part} {p : T_screen_part → Bool} {f : Nat → T_screen_part → Option Bool} (hk : l.length + 3 ≤ k) (hn : l.length ≤ maxLen) (hp : ∀ k', k' + 2 = k → ∀ x ∈ l, f k' x = some (p x)) : slices_ContainsFunc_part_v10s75 k l f = some (l.any p) := by
  obtain ⟨k, rfl, hq⟩ := succ_of hk
  simp only [slices_ContainsFunc_part_v10s75, indexFunc_part hq hn (fun k' e => hp k' (by omega)), Option.bind_some, pos_any]
def clashB (x t : T_api_Slot) : Bool := (t.fName == x.fName) || ((decide (x.fIn ≥ 0) && (t.fIn == x.fIn)) || (decide (x.fOut ≥ 0) && (t.fOut == x.fOut)))
def placeB (n : Int) : Bool := decide (n ≥ -1) && decide (n < 4)
def slotB (x : T_api_Slot) : Bool := nameOk x.fName && (placeB x.fIn && (placeB x.fOut && (decide (x.fFill ≥ 32) && decide (x.fFill ≤ 126))))
def badSlot (l : List T_api_Slot) (i : Nat) : Bool := at' l (fun x => (!slotB x) || (l.take i).any (clashB x)) i
theorem screen_isPlace_ok {k : Nat} (hk : 1 ≤ k) (n : Int) : screen_isPlace k n = some (placeB n) := by
  obtain ⟨k, rfl, _⟩ := succ_of (c := 0) hk
  simp only [screen_isPlace, placeB]
  cases decide (n ≥ -1) <;> rfl
theorem clash_ok {k : Nat} (hk : 1 ≤ k) (x t : T_api_Slot) : screen_areSlots_1 k t x = some (clashB x t) := by
  obtain ⟨k, rfl, _⟩ := succ_of (c := 0) hk
  simp only [screen_areSlots_1, clashB]
  cases t.fName == x.fName <;> cases decide (x.fIn ≥ 0) <;> cases t.fIn == x.fIn <;> cases decide (x.fOut ≥ 0) <;> rfl
theorem screen_areSlots_ok {k : Nat} {l : List T_api_Slot} (hk : maxLen + 8 ≤ k) (hw : wfL wf_T_api_Slot l) : screen_areSlots k l = some (!anyB (badSlot l) l.length && decide ((l.length : Int) ≤ 10)) := by
  obtain ⟨k, rfl, hq⟩ := succ_of hk
  obtain ⟨hl, hw⟩ := hw
  unfold screen_areSlots
  refine Eq.trans (loop0 (L := fun m x => screen_areSlots_L1 k l _ m x) (n := l.length) (g := badSlot l) (r := fun _ => some false) (z := some (decide ((l.length : Int) ≤ 10))) ?_ ?_ (by omega)) ?_
  rotate_left 2
  · rw [scan_const]
    cases anyB (badSlot l) l.length <;> rfl
  · intro m i hi _
    have h1 := hw _ (List.getElem_mem hi)
    have hc : slices_ContainsFunc_Slot k (l.take i) (fun j x0 => screen_areSlots_1 j x0 l[i]) = some ((l.take i).any (clashB l[i])) :=
      containsFunc_Slot (by rw [List.length_take]; omega) (by rw [List.length_take]; omega) (fun k' e x hx => clash_ok (by omega) _ _)
    simp only [screen_areSlots_L1, lt_dec hi, cond_true, idx_at hi, Option.bind_some, screen_isName_ok (show maxLen + 2 ≤ k by omega) h1.1, screen_isPlace_ok (show 1 ≤ k by omega), screen_isByte_ok (show 1 ≤ k by omega), cut_take (show i ≤ l.length by omega), hc, wrap_next hi hl, badSlot, at'_eq hi, slotB]
    cases nameOk l[i].fName <;> cases placeB l[i].fIn <;> cases placeB l[i].fOut <;> cases (decide (l[i].fFill ≥ 32) && decide (l[i].fFill ≤ 126)) <;> rfl
  · intro m _
    simp only [screen_areSlots_L1, lt_self, cond_false]
theorem ref24_isField_ok {k : Nat} {l : List T_api_Slot} {x : T_api_Slot} (hk : maxLen + 4 ≤ k) (hl : l.length ≤ maxLen) (hx : wf_T_api_Slot x) : ref24_isField k l x = some (slotB x && !l.any (clashB x)) := by
  obtain ⟨k, rfl, hq⟩ := succ_of hk
  have hL : ref24_isField_L1 l x (fun _ => some true) k 0 = bif anyB (at' l (clashB x)) l.length then some false else some true := by
    refine anyLoop (n := l.length) (L := fun m y => ref24_isField_L1 l x (fun _ => some true) m y) (body := fun y => ((idx l y).bind fun v9 => (bif (v9.fName == x.fName) then (some (true)) else (bif (decide (x.fIn ≥ 0)) then ((idx l y).bind fun v10 => (bif (v10.fIn == x.fIn) then (some (true)) else (bif (decide (x.fOut ≥ 0)) then ((idx l y).bind fun v11 => (some ((v11.fOut == x.fOut)))) else (some (false))))) else (bif (decide (x.fOut ≥ 0)) then ((idx l y).bind fun v12 => (some ((v12.fOut == x.fOut)))) else (some (false))))))) (K := fun _ => some true)
      (fun m y => rfl) (fun i hi _ => ?_) (fun _ => rfl) hl (m := k) (by omega)
    rw [at'_eq hi]
    simp only [idx_at hi, Option.bind_some, clashB]
    cases l[i].fName == x.fName <;> cases decide (x.fIn ≥ 0) <;> cases l[i].fIn == x.fIn <;> cases decide (x.fOut ≥ 0) <;> rfl
  simp only [ref24_isField, ref11_IsName_ok (show maxLen + 2 ≤ k by omega) hx.1, Option.bind_some, hL, anyB_any, slotB, placeB]
  have e1 : decide (x.fIn < -1) = !decide (x.fIn ≥ -1) := by by_cases h : x.fIn < -1 <;> simp [h] <;> omega
  have e2 : decide (x.fIn > 3) = !decide (x.fIn < 4) := by by_cases h : x.fIn > 3 <;> simp [h] <;> omega
  have e3 : decide (x.fOut < -1) = !decide (x.fOut ≥ -1) := by by_cases h : x.fOut < -1 <;> simp [h] <;> omega
  have e4 : decide (x.fOut > 3) = !decide (x.fOut < 4) := by by_cases h : x.fOut > 3 <;> simp [h] <;> omega
  have e5 : decide (x.fFill < 32) = !decide (x.fFill ≥ 32) := by by_cases h : x.fFill < 32 <;> simp [h] <;> omega
  have e6 : decide (x.fFill > 126) = !decide (x.fFill ≤ 126) := by by_cases h : x.fFill > 126 <;> simp [h] <;> omega
  rw [e1, e2, e3, e4, e5, e6]
  cases nameOk x.fName <;> cases decide (x.fIn ≥ -1) <;> cases decide (x.fIn < 4) <;> cases decide (x.fOut ≥ -1) <;> cases decide (x.fOut < 4) <;> cases decide (x.fFill ≥ 32) <;> cases decide (x.fFill ≤ 126) <;> cases l.any (clashB x) <;> rfl
end Go.Sh

namespace Go.Sh
open Go.AE
set_option linter.unusedVariables false
set_option linter.unusedSimpArgs false
def partM (m : T_api_Mark) : T_screen_part := ⟨m.fRow, m.fColumn, (m.fText.length : Int)⟩
def partF (s : T_api_Slot) : T_screen_part := ⟨s.fRow, s.fColumn, s.fBytes⟩
def partsF (f : T_api_Form) : List T_screen_part := f.fMarks.map partM ++ f.fFields.map partF
def liesB (f : T_api_Form) (p : T_screen_part) : Bool := decide (p.frow ≥ 0) && (decide (p.frow < f.fRows) && (decide (p.fcolumn ≥ 0) && (decide (p.fcolumn < f.fColumns) && (decide (p.fn ≥ 1) && decide (p.fn ≤ Go.IntKind.wrap .i64 (f.fColumns - p.fcolumn))))))
def meetsB (x y : T_screen_part) : Bool := (x.frow == y.frow) && (decide (x.fcolumn < Go.IntKind.wrap .i64 (y.fcolumn + y.fn)) && decide (y.fcolumn < Go.IntKind.wrap .i64 (x.fcolumn + x.fn)))
def badPart (l : List T_screen_part) (i : Nat) : Bool := at' l (fun x => (l.take i).any (meetsB x)) i
def hdrBad (f : T_api_Form) : Bool := decide (f.fRows < 1) || (decide (f.fRows > 12) || (decide (f.fColumns < 10) || (decide (f.fColumns > 40) || decide ((f.fMarks.length : Int) > 8))))
def badM (f : T_api_Form) (m : T_api_Mark) : Bool := decide ((m.fText.length : Int) > 40) || ((!textOk m.fText) || !liesB f (partM m))
def okF (f : T_api_Form) : Bool := !hdrBad f && (!anyB (badSlot f.fFields) f.fFields.length && (decide ((f.fFields.length : Int) ≤ 10) && (!f.fMarks.any (badM f) && (!f.fFields.any (fun s => !liesB f (partF s)) && !anyB (badPart (partsF f)) (partsF f).length))))
theorem screen_lies_ok {k : Nat} (hk : 1 ≤ k) (f : T_api_Form) (r c n : Int) : screen_lies k f r c n = some (liesB f ⟨r, c, n⟩) := by
  obtain ⟨k, rfl, _⟩ := succ_of (c := 0) hk
  simp only [screen_lies, liesB]
  cases decide (r ≥ 0) <;> cases decide (r < f.fRows) <;> cases decide (c ≥ 0) <;> cases decide (c < f.fColumns) <;> cases decide (n ≥ 1) <;> rfl
theorem screen_meets_ok {k : Nat} (hk : 1 ≤ k) (x y : T_screen_part) : screen_part_meets k x y = some (meetsB x y) := by
  obtain ⟨k, rfl, _⟩ := succ_of (c := 0) hk
  simp only [screen_part_meets, meetsB]
  cases x.frow == y.frow <;> cases decide (x.fcolumn < Go.IntKind.wrap .i64 (y.fcolumn + y.fn)) <;> rfl
theorem wf_mark {m : T_api_Mark} (h : wf_T_api_Mark m) : wfS m.fText := h.2.2.1
theorem maxList_eq : maxList = 4294967296 := rfl
theorem take_map_succ {α β : Type} (g : α → β) {l : List α} {i : Nat} (h : i < l.length) : (l.take (i + 1)).map g = (l.take i).map g ++ [g l[i]] := by
  have e : l.take (i + 1) = l.take i ++ [l[i]] := by rw [List.take_add_one, List.getElem?_eq_getElem h]; rfl
  rw [e, List.map_append]
  rfl
theorem screen_Valid_ok {k : Nat} {f : T_api_Form} (hk : maxLen + 20 ≤ k) (hw : wf_T_api_Form f) : screen_Valid k f = some (okF f) := by
  obtain ⟨k, rfl, hq⟩ := succ_of hk
  obtain ⟨w1, w2, w3, w4, _⟩ := hw
  have hsl := screen_areSlots_ok (show maxLen + 8 ≤ k by omega) w4
  have hmm := maxLen_lt
  simp only [screen_Valid, hsl, Option.bind_some]
  -- the head
  by_cases hh : hdrBad f = true
  · have e : okF f = false := by unfold okF; rw [hh]; rfl
    rw [e]
    unfold hdrBad at hh
    revert hh
    cases decide (f.fRows < 1) <;> cases decide (f.fRows > 12) <;> cases decide (f.fColumns < 10) <;> cases decide (f.fColumns > 40) <;> cases decide ((f.fMarks.length : Int) > 8) <;> intro hh <;> first | rfl | cases hh
  · have hh2 := hh
    unfold hdrBad at hh
    simp only [Bool.or_eq_true, decide_eq_true_eq, not_or] at hh
    obtain ⟨g1, g2, g3, g4, g5⟩ := hh
    rw [show decide (f.fRows < 1) = false by simp; omega, show decide (f.fRows > 12) = false by simp; omega, show decide (f.fColumns < 10) = false by simp; omega, show decide (f.fColumns > 40) = false by simp; omega, show decide ((f.fMarks.length : Int) > 8) = false by simp; omega]
    simp only [cond_false, Option.bind_some]
    have hm8 : f.fMarks.length ≤ 8 := by omega
    have hhb : hdrBad f = false := by simpa using hh2
    unfold okF
    rw [hhb]
    cases hA : anyB (badSlot f.fFields) f.fFields.length with
    | true => rfl
    | false =>
      cases hB : decide ((f.fFields.length : Int) ≤ 10) with
      | false => rfl
      | true =>
        have hf10 : f.fFields.length ≤ 10 := by simp at hB; omega
        simp only [Bool.not_false, Bool.and_self, Bool.not_true, cond_false, Bool.true_and]
        -- the marks
        refine Eq.trans (loopS (L := fun m x s => screen_Valid_L1 k f _ m s x) (n := f.fMarks.length) (σ := fun i => (f.fMarks.take i).map partM) (g := at' f.fMarks (badM f)) (r := fun _ => some false) (z := some (!f.fFields.any (fun s => !liesB f (partF s)) && !anyB (badPart (partsF f)) (partsF f).length)) ?_ ?_ (by omega) rfl) ?_
        rotate_left 2
        · rw [scan_const, anyB_any]
          cases f.fMarks.any (badM f) <;> rfl
        · intro m i hi _
          have h1 := w3.2 _ (List.getElem_mem hi)
          have hap : app ((f.fMarks.take i).map partM) [({ frow := f.fMarks[i].fRow, fcolumn := f.fMarks[i].fColumn, fn := (f.fMarks[i].fText.length : Int) } : T_screen_part)] = some ((f.fMarks.take (i + 1)).map partM) := by
            rw [app_ok (by simp; rw [maxList_eq]; omega), take_map_succ partM hi]
            rfl
          simp only [screen_Valid_L1, lt_dec hi, cond_true, idx_at hi, Option.bind_some, screen_isText_ok (show maxLen + 4 ≤ k by omega) (wf_mark h1), screen_lies_ok (show 1 ≤ k by omega), hap, wrap_next hi (by omega), at'_eq hi, badM, partM]
          cases decide ((f.fMarks[i].fText.length : Int) > 40) <;> cases textOk f.fMarks[i].fText <;> rfl
        · intro m _
          simp only [screen_Valid_L1, lt_self, cond_false, List.take_length]
          -- the fields
          refine Eq.trans (loopS (L := fun m x s => screen_Valid_L2 k f _ m s x) (n := f.fFields.length) (σ := fun i => f.fMarks.map partM ++ (f.fFields.take i).map partF) (g := at' f.fFields (fun s => !liesB f (partF s))) (r := fun _ => some false) (z := some (!anyB (badPart (partsF f)) (partsF f).length)) ?_ ?_ (by omega) (by simp)) ?_
          rotate_left 2
          · rw [scan_const, anyB_any]
            cases f.fFields.any (fun s => !liesB f (partF s)) <;> rfl
          · intro m i hi _
            have hap : app (f.fMarks.map partM ++ (f.fFields.take i).map partF) [({ frow := f.fFields[i].fRow, fcolumn := f.fFields[i].fColumn, fn := f.fFields[i].fBytes } : T_screen_part)] = some (f.fMarks.map partM ++ (f.fFields.take (i + 1)).map partF) := by
              rw [app_ok (by simp; rw [maxList_eq]; omega), take_map_succ partF hi, List.append_assoc]
              rfl
            simp only [screen_Valid_L2, lt_dec hi, cond_true, idx_at hi, Option.bind_some, screen_lies_ok (show 1 ≤ k by omega), hap, wrap_next hi (show f.fFields.length ≤ maxLen by omega), at'_eq hi, partF]
          · intro m _
            simp only [screen_Valid_L2, lt_self, cond_false, List.take_length]
            have hpl : (partsF f).length ≤ 18 := by unfold partsF; simp; omega
            change screen_Valid_L3 k (partsF f) _ k 0 = _
            refine Eq.trans (loop0 (L := fun m x => screen_Valid_L3 k (partsF f) _ m x) (n := (partsF f).length) (g := badPart (partsF f)) (r := fun _ => some false) (z := some true) ?_ ?_ (by omega)) ?_
            rotate_left 2
            · rw [scan_const]
              cases anyB (badPart (partsF f)) (partsF f).length <;> rfl
            · intro m i hi _
              have hc : slices_ContainsFunc_part_v10s75 k ((partsF f).take i) (fun j x0 => screen_part_meets j (partsF f)[i] x0) = some (((partsF f).take i).any (meetsB (partsF f)[i])) :=
                containsFunc_part (by rw [List.length_take]; omega) (by rw [List.length_take]; omega) (fun k' e x hx => screen_meets_ok (by omega) _ _)
              simp only [screen_Valid_L3, lt_dec hi, cond_true, idx_at hi, Option.bind_some, cut_take (show i ≤ (partsF f).length by omega), hc, wrap_next hi (show (partsF f).length ≤ maxLen by omega), badPart, at'_eq hi]
            · intro m _
              simp only [screen_Valid_L3, lt_self, cond_false]
def spanOf (p : T_screen_part) : T_progenyref24_span := ⟨p.frow, p.fcolumn, p.fn⟩
theorem ref24_spans_ok {k : Nat} {f : T_api_Form} (hk : maxLen + 4 ≤ k) (h1 : f.fMarks.length ≤ 8) (h2 : f.fFields.length ≤ 10) : ref24_spans k f = some ((partsF f).map spanOf) := by
  obtain ⟨k, rfl, hq⟩ := succ_of hk
  have hmm := maxLen_lt
  simp only [ref24_spans]
  refine Eq.trans (loopS (L := fun m x s => ref24_spans_L1 f _ m x s) (n := f.fMarks.length) (σ := fun i => (f.fMarks.take i).map (fun m => spanOf (partM m))) (g := fun _ => false) (r := fun _ => none) (z := some ((partsF f).map spanOf)) ?_ ?_ (by omega) rfl) (scan_false _ _ (fun _ _ _ => rfl))
  · intro m i hi _
    have hap : app ((f.fMarks.take i).map (fun m => spanOf (partM m))) [({ frow := f.fMarks[i].fRow, fcolumn := f.fMarks[i].fColumn, fbytes := (f.fMarks[i].fText.length : Int) } : T_progenyref24_span)] = some ((f.fMarks.take (i + 1)).map (fun m => spanOf (partM m))) := by
      rw [app_ok (by simp; rw [maxList_eq]; omega), take_map_succ _ hi]
      rfl
    simp only [ref24_spans_L1, lt_dec hi, cond_true, idx_at hi, Option.bind_some, hap, wrap_next hi (show f.fMarks.length ≤ maxLen by omega), cond_false]
  · intro m _
    simp only [ref24_spans_L1, lt_self, cond_false, List.take_length]
    refine Eq.trans (loopS (L := fun m x s => ref24_spans_L2 f _ m x s) (n := f.fFields.length) (σ := fun i => f.fMarks.map (fun m => spanOf (partM m)) ++ (f.fFields.take i).map (fun m => spanOf (partF m))) (g := fun _ => false) (r := fun _ => none) (z := some ((partsF f).map spanOf)) ?_ ?_ (by omega) (by simp)) (scan_false _ _ (fun _ _ _ => rfl))
    · intro m i hi _
      have hap : app (f.fMarks.map (fun m => spanOf (partM m)) ++ (f.fFields.take i).map (fun m => spanOf (partF m))) [({ frow := f.fFields[i].fRow, fcolumn := f.fFields[i].fColumn, fbytes := f.fFields[i].fBytes } : T_progenyref24_span)] = some (f.fMarks.map (fun m => spanOf (partM m)) ++ (f.fFields.take (i + 1)).map (fun m => spanOf (partF m))) := by
        rw [app_ok (by simp; rw [maxList_eq]; omega), take_map_succ _ hi, List.append_assoc]
        rfl
      simp only [ref24_spans_L2, lt_dec hi, cond_true, idx_at hi, Option.bind_some, hap, wrap_next hi (show f.fFields.length ≤ maxLen by omega), cond_false]
    · intro m _
      simp only [ref24_spans_L2, lt_self, cond_false, List.take_length]
      unfold partsF
      rw [List.map_append, List.map_map, List.map_map]
      rfl
def meetsR (x y : T_screen_part) : Bool := (y.frow == x.frow) && (decide (y.fcolumn < Go.IntKind.wrap .i64 (x.fcolumn + x.fn)) && decide (x.fcolumn < Go.IntKind.wrap .i64 (y.fcolumn + y.fn)))
theorem meets_same (x y : T_screen_part) : meetsR x y = meetsB x y := by
  unfold meetsR meetsB
  rw [Bool.eq_iff_iff]
  simp only [Bool.and_eq_true, beq_iff_eq]
  exact ⟨fun ⟨h1, h2, h3⟩ => ⟨h1.symm, h3, h2⟩, fun ⟨h1, h2, h3⟩ => ⟨h1.symm, h3, h2⟩⟩
def okR (f : T_api_Form) : Bool := !hdrBad f && (decide ((f.fFields.length : Int) ≤ 10) && (!f.fMarks.any (fun m => !textOk m.fText) && (!anyB (badSlot f.fFields) f.fFields.length && !anyB (fun i => at' (partsF f) (fun x => !liesB f x) i || badPart (partsF f) i) (partsF f).length)))
theorem lies_ref (f : T_api_Form) (p : T_screen_part) : (bif decide (p.frow < 0) then some true else (bif decide (p.frow ≥ f.fRows) then some true else (bif decide (p.fcolumn < 0) then some true else (bif decide (p.fcolumn ≥ f.fColumns) then some true else (bif decide (p.fn < 1) then some true else some (decide (p.fn > Go.IntKind.wrap .i64 (f.fColumns - p.fcolumn)))))))) = some (!liesB f p) := by
  unfold liesB
  have e1 : decide (p.frow < 0) = !decide (p.frow ≥ 0) := by by_cases h : p.frow < 0 <;> simp [h] <;> omega
  have e2 : decide (p.frow ≥ f.fRows) = !decide (p.frow < f.fRows) := by by_cases h : p.frow ≥ f.fRows <;> simp [h] <;> omega
  have e3 : decide (p.fcolumn < 0) = !decide (p.fcolumn ≥ 0) := by by_cases h : p.fcolumn < 0 <;> simp [h] <;> omega
  have e4 : decide (p.fcolumn ≥ f.fColumns) = !decide (p.fcolumn < f.fColumns) := by by_cases h : p.fcolumn ≥ f.fColumns <;> simp [h] <;> omega
  have e5 : decide (p.fn < 1) = !decide (p.fn ≥ 1) := by by_cases h : p.fn < 1 <;> simp [h] <;> omega
  have e6 : decide (p.fn > Go.IntKind.wrap .i64 (f.fColumns - p.fcolumn)) = !decide (p.fn ≤ Go.IntKind.wrap .i64 (f.fColumns - p.fcolumn)) := by by_cases h : p.fn > Go.IntKind.wrap .i64 (f.fColumns - p.fcolumn) <;> simp [h] <;> omega
  rw [e1, e2, e3, e4, e5, e6]
  cases decide (p.frow ≥ 0) <;> cases decide (p.frow < f.fRows) <;> cases decide (p.fcolumn ≥ 0) <;> cases decide (p.fcolumn < f.fColumns) <;> cases decide (p.fn ≥ 1) <;> rfl
theorem lies_refS (f : T_api_Form) (p : T_screen_part) : (bif decide ((spanOf p).frow < 0) then some true else (bif decide ((spanOf p).frow ≥ f.fRows) then some true else (bif decide ((spanOf p).fcolumn < 0) then some true else (bif decide ((spanOf p).fcolumn ≥ f.fColumns) then some true else (bif decide ((spanOf p).fbytes < 1) then some true else some (decide ((spanOf p).fbytes > Go.IntKind.wrap .i64 (f.fColumns - (spanOf p).fcolumn)))))))) = some (!liesB f p) := lies_ref f p
theorem ref24_Valid_okR {k : Nat} {f : T_api_Form} (hk : maxLen + 20 ≤ k) (hw : wf_T_api_Form f) : ref24_Valid k f = some (okR f) := by
  obtain ⟨k, rfl, hq⟩ := succ_of hk
  obtain ⟨w1, w2, w3, w4, _⟩ := hw
  have hmm := maxLen_lt
  simp only [ref24_Valid]
  by_cases hh : hdrBad f = true
  · have e : okR f = false := by unfold okR; rw [hh]; rfl
    rw [e]
    unfold hdrBad at hh
    revert hh
    cases decide (f.fRows < 1) <;> cases decide (f.fRows > 12) <;> cases decide (f.fColumns < 10) <;> cases decide (f.fColumns > 40) <;> cases decide ((f.fMarks.length : Int) > 8) <;> intro hh <;> first | rfl | cases hh
  · have hh2 := hh
    unfold hdrBad at hh
    simp only [Bool.or_eq_true, decide_eq_true_eq, not_or] at hh
    obtain ⟨g1, g2, g3, g4, g5⟩ := hh
    rw [show decide (f.fRows < 1) = false by simp; omega, show decide (f.fRows > 12) = false by simp; omega, show decide (f.fColumns < 10) = false by simp; omega, show decide (f.fColumns > 40) = false by simp; omega, show decide ((f.fMarks.length : Int) > 8) = false by simp; omega]
    simp only [cond_false, Option.bind_some]
    have hm8 : f.fMarks.length ≤ 8 := by omega
    have hhb : hdrBad f = false := by simpa using hh2
    unfold okR
    rw [hhb]
    by_cases hB : (f.fFields.length : Int) ≤ 10
    · have hf10 : f.fFields.length ≤ 10 := by omega
      rw [show decide ((f.fFields.length : Int) > 10) = false by simp; omega, show decide ((f.fFields.length : Int) ≤ 10) = true by simp; omega]
      simp only [cond_false, Bool.not_false, Bool.true_and]
      have hpl : (partsF f).length ≤ 18 := by unfold partsF; simp; omega
      refine Eq.trans (anyLoop (n := f.fMarks.length) (L := fun m x => ref24_Valid_L1 k f _ m x) (body := fun x => ((idx f.fMarks x).bind fun v6 => ((ref24_IsText k v6.fText).bind fun v7 => (some ((!v7)))))) (r := some false) (z := some (!anyB (badSlot f.fFields) f.fFields.length && !anyB (fun i => at' (partsF f) (fun x => !liesB f x) i || badPart (partsF f) i) (partsF f).length)) (g := at' f.fMarks (fun m => !textOk m.fText))
        (fun m x => rfl) (fun i hi _ => ?_) (fun _ => ?_) (by omega) (m := k) (by omega)) ?_
      · rw [at'_eq hi]
        simp only [idx_at hi, Option.bind_some, ref24_IsText_ok (show maxLen + 4 ≤ k by omega) (wf_mark (w3.2 _ (List.getElem_mem hi)))]
      · refine Eq.trans (anyLoop (n := f.fFields.length) (L := fun m x => ref24_Valid_L2 k f _ m x) (body := fun x => ((cut f.fFields 0 x).bind fun v15 => ((idx f.fFields x).bind fun v16 => ((ref24_isField k v15 v16).bind fun v17 => (some ((!v17))))))) (r := some false) (z := some (!anyB (fun i => at' (partsF f) (fun x => !liesB f x) i || badPart (partsF f) i) (partsF f).length)) (g := badSlot f.fFields)
          (fun m x => rfl) (fun i hi _ => ?_) (fun _ => ?_) (by omega) (m := k) (by omega)) ?_
        · unfold badSlot
          rw [at'_eq hi]
          simp only [cut_take (show i ≤ f.fFields.length by omega), idx_at hi, Option.bind_some, ref24_isField_ok (show maxLen + 4 ≤ k by omega) (show (f.fFields.take i).length ≤ maxLen by rw [List.length_take]; omega) (w4.2 _ (List.getElem_mem hi))]
          cases slotB f.fFields[i] <;> cases (f.fFields.take i).any (clashB f.fFields[i]) <;> rfl
        · rw [ref24_spans_ok (show maxLen + 4 ≤ k by omega) hm8 hf10]
          simp only [Option.bind_some]
          refine Eq.trans (loop0 (L := fun m x => ref24_Valid_L3 k f ((partsF f).map spanOf) _ m x) (n := (partsF f).length) (g := fun i => at' (partsF f) (fun x => !liesB f x) i || badPart (partsF f) i) (r := fun _ => some false) (z := some true) ?_ ?_ (by omega)) ?_
          rotate_left 2
          · rw [scan_const]
            cases anyB (fun i => at' (partsF f) (fun x => !liesB f x) i || badPart (partsF f) i) (partsF f).length <;> rfl
          · intro m i hi _
            have hix : ∀ j (hj : j < (partsF f).length), idx ((partsF f).map spanOf) (j : Int) = some (spanOf (partsF f)[j]) := by
              intro j hj
              rw [idx_at (by simpa using hj)]
              simp
            have h4 : ∀ K : Int → Option Bool, ref24_Valid_L4 ((partsF f).map spanOf) (i : Int) K k 0 = bif ((partsF f).take i).any (meetsB (partsF f)[i]) then some false else K (i : Int) := by
              intro K
              rw [← anyB_take (show i ≤ (partsF f).length by omega)]
              refine anyLoop (n := i) (L := fun m x => ref24_Valid_L4 ((partsF f).map spanOf) (i : Int) K m x) (body := fun x68 => ((idx ((partsF f).map spanOf) x68).bind fun v69 => ((idx ((partsF f).map spanOf) (i : Int)).bind fun v70 => (bif (v69.frow == v70.frow) then ((idx ((partsF f).map spanOf) x68).bind fun v71 => ((idx ((partsF f).map spanOf) (i : Int)).bind fun v72 => ((idx ((partsF f).map spanOf) (i : Int)).bind fun v73 => (bif (decide (v71.fcolumn < (Go.IntKind.wrap .i64 (v72.fcolumn + v73.fbytes)))) then ((idx ((partsF f).map spanOf) (i : Int)).bind fun v74 => ((idx ((partsF f).map spanOf) x68).bind fun v75 => ((idx ((partsF f).map spanOf) x68).bind fun v76 => (some ((decide (v74.fcolumn < (Go.IntKind.wrap .i64 (v75.fcolumn + v76.fbytes))))))))) else (some (false)))))) else (some (false)))))) (K := K)
                (fun m x => rfl) (fun j hj _ => ?_) (fun _ => rfl) (by omega) (m := k) (by omega)
              rw [at'_eq (show j < (partsF f).length by omega), ← meets_same]
              simp only [hix j (by omega), hix i hi, Option.bind_some, meetsR, spanOf]
              cases (partsF f)[j].frow == (partsF f)[i].frow <;> cases decide ((partsF f)[j].fcolumn < Go.IntKind.wrap .i64 ((partsF f)[i].fcolumn + (partsF f)[i].fn)) <;> rfl
            have hlr := lies_refS f (partsF f)[i]
            simp only [ref24_Valid_L3, List.length_map, lt_dec hi, cond_true, hix i hi, Option.bind_some, h4, wrap_next hi (show (partsF f).length ≤ maxLen by omega), badPart, at'_eq hi]
            rw [hlr]
            cases liesB f (partsF f)[i] <;> rfl
          · intro m _
            simp only [ref24_Valid_L3, List.length_map, lt_self, cond_false]
        · cases anyB (badSlot f.fFields) f.fFields.length <;> rfl
      · rw [anyB_any]
        cases f.fMarks.any (fun m => !textOk m.fText) <;> rfl
    · rw [show decide ((f.fFields.length : Int) > 10) = true by simp; omega, show decide ((f.fFields.length : Int) ≤ 10) = false by simp; omega]
      rfl
theorem anyB_or {g h : Nat → Bool} {n : Nat} : anyB (fun i => g i || h i) n = (anyB g n || anyB h n) := by
  rw [Bool.eq_iff_iff, anyB_iff, Bool.or_eq_true, anyB_iff, anyB_iff]
  constructor
  · rintro ⟨i, hi, h⟩
    rcases Bool.or_eq_true _ _ ▸ h with h | h
    · exact .inl ⟨i, hi, h⟩
    · exact .inr ⟨i, hi, h⟩
  · rintro (⟨i, hi, h⟩ | ⟨i, hi, h⟩)
    · exact ⟨i, hi, by rw [h]; rfl⟩
    · exact ⟨i, hi, by simp [h]⟩
theorem okR_ok (f : T_api_Form) : okR f = okF f := by
  unfold okR okF
  cases hh : hdrBad f with
  | true => rfl
  | false =>
    have hcol : f.fColumns ≤ 40 := by
      unfold hdrBad at hh
      simp only [Bool.or_eq_false_iff, decide_eq_false_iff_not] at hh
      omega
    have hcol10 : f.fColumns ≥ 10 := by
      unfold hdrBad at hh
      simp only [Bool.or_eq_false_iff, decide_eq_false_iff_not] at hh
      omega
    rw [anyB_or, anyB_any]
    have hp : (partsF f).any (fun x => !liesB f x) = (f.fMarks.any (fun m => !liesB f (partM m)) || f.fFields.any (fun s => !liesB f (partF s))) := by
      unfold partsF
      rw [List.any_append, List.any_map, List.any_map]
      rfl
    have hm : f.fMarks.any (badM f) = (f.fMarks.any (fun m => !textOk m.fText) || f.fMarks.any (fun m => !liesB f (partM m))) := by
      rw [Bool.eq_iff_iff]
      simp only [Bool.or_eq_true, List.any_eq_true, badM, decide_eq_true_eq, Bool.not_eq_true']
      constructor
      · rintro ⟨m, hm, h | h | h⟩
        · refine .inr ⟨m, hm, ?_⟩
          cases hl : liesB f (partM m) with
          | false => rfl
          | true =>
            exfalso
            unfold liesB partM at hl
            simp only [Bool.and_eq_true, decide_eq_true_eq] at hl
            obtain ⟨_, _, a3, a4, _, a6⟩ := hl
            rw [wrap_in (by omega) (by omega)] at a6
            omega
        · exact .inl ⟨m, hm, h⟩
        · exact .inr ⟨m, hm, h⟩
      · rintro (⟨m, hm, h⟩ | ⟨m, hm, h⟩)
        · exact ⟨m, hm, .inr (.inl h)⟩
        · exact ⟨m, hm, .inr (.inr h)⟩
    rw [hp, hm]
    cases decide ((f.fFields.length : Int) ≤ 10) <;> cases anyB (badSlot f.fFields) f.fFields.length <;> cases f.fMarks.any (fun m => !textOk m.fText) <;> cases f.fMarks.any (fun m => !liesB f (partM m)) <;> cases f.fFields.any (fun s => !liesB f (partF s)) <;> cases anyB (badPart (partsF f)) (partsF f).length <;> rfl
theorem ref24_Valid_ok {k : Nat} {f : T_api_Form} (hk : maxLen + 20 ≤ k) (hw : wf_T_api_Form f) : ref24_Valid k f = some (okF f) := by
  rw [ref24_Valid_okR hk hw, okR_ok]
end Go.Sh

namespace Go.Sh
open Go.AE
set_option linter.unusedVariables false
set_option linter.unusedSimpArgs false
def Meets (x y : T_screen_part) : Prop := x.frow = y.frow ∧ x.fcolumn < y.fcolumn + y.fn ∧ y.fcolumn < x.fcolumn + x.fn
def InF (f : T_api_Form) (p : T_screen_part) : Prop := 0 ≤ p.frow ∧ p.frow < f.fRows ∧ 0 ≤ p.fcolumn ∧ 1 ≤ p.fn ∧ p.fcolumn + p.fn ≤ f.fColumns
structure OkForm (f : T_api_Form) : Prop where
  r1 : 1 ≤ f.fRows
  r2 : f.fRows ≤ 12
  c1 : 10 ≤ f.fColumns
  c2 : f.fColumns ≤ 40
  m8 : f.fMarks.length ≤ 8
  f10 : f.fFields.length ≤ 10
  mark : ∀ m ∈ f.fMarks, textOk m.fText = true ∧ InF f (partM m)
  fd : ∀ s ∈ f.fFields, slotB s = true ∧ InF f (partF s)
  sl : f.fFields.Pairwise (fun x y => clashB y x = false)
  pt : (partsF f).Pairwise (fun x y => ¬ Meets y x)
theorem liesB_in {f : T_api_Form} {p : T_screen_part} (h1 : 10 ≤ f.fColumns) (h2 : f.fColumns ≤ 40) (h : liesB f p = true) : InF f p := by
  unfold liesB at h
  simp only [Bool.and_eq_true, decide_eq_true_eq] at h
  obtain ⟨a1, a2, a3, a4, a5, a6⟩ := h
  rw [wrap_in (by omega) (by omega)] at a6
  exact ⟨a1, a2, a3, a5, by omega⟩
theorem meets_in {f : T_api_Form} {x y : T_screen_part} (h2 : f.fColumns ≤ 40) (hx : InF f x) (hy : InF f y) : meetsB x y = true ↔ Meets x y := by
  obtain ⟨a1, a2, a3, a5, a6⟩ := hx
  obtain ⟨b1, b2, b3, b5, b6⟩ := hy
  unfold meetsB Meets
  rw [wrap_in (by omega) (by omega), wrap_in (by omega) (by omega)]
  simp only [Bool.and_eq_true, decide_eq_true_eq, beq_iff_eq]
theorem pairs_of {α : Type} {l : List α} {r : α → α → Bool} (h : anyB (at' l fun x => false) l.length = false → True) (hb : ∀ j (hj : j < l.length), (l.take j).any (r l[j]) = false) : l.Pairwise (fun x y => r y x = false) := by
  rw [List.pairwise_iff_getElem]
  intro i j hi hj hij
  have h1 := hb j hj
  rw [List.any_eq_false] at h1
  have h2 := h1 l[i] (by
    rw [List.mem_take_iff_getElem]
    exact ⟨i, by omega, rfl⟩)
  simpa using h2
theorem okF_form {f : T_api_Form} (h : okF f = true) : OkForm f := by
  unfold okF at h
  simp only [Bool.and_eq_true, Bool.not_eq_true', decide_eq_true_eq] at h
  obtain ⟨h1, h2, h3, h4, h5, h6⟩ := h
  unfold hdrBad at h1
  simp only [Bool.or_eq_false_iff, decide_eq_false_iff_not] at h1
  obtain ⟨g1, g2, g3, g4, g5⟩ := h1
  have hc1 : 10 ≤ f.fColumns := by omega
  have hc2 : f.fColumns ≤ 40 := by omega
  have hm : ∀ m ∈ f.fMarks, textOk m.fText = true ∧ InF f (partM m) := by
    intro m hm
    rw [List.any_eq_false] at h4
    have := h4 m hm
    unfold badM at this
    simp only [Bool.or_eq_true, decide_eq_true_eq, Bool.not_eq_true', not_or, Bool.not_eq_false] at this
    exact ⟨this.2.1, liesB_in hc1 hc2 this.2.2⟩
  have hs : ∀ j (hj : j < f.fFields.length), slotB f.fFields[j] = true ∧ (f.fFields.take j).any (clashB f.fFields[j]) = false := by
    intro j hj
    have := anyB_false.1 h2 j hj
    unfold badSlot at this
    rw [at'_eq hj] at this
    simp only [Bool.or_eq_false_iff, Bool.not_eq_false'] at this
    exact this
  have hf : ∀ s ∈ f.fFields, slotB s = true ∧ InF f (partF s) := by
    intro s hss
    rw [List.any_eq_false] at h5
    have := h5 s hss
    simp only [Bool.not_eq_true', Bool.not_eq_false] at this
    obtain ⟨j, hj, rfl⟩ := List.getElem_of_mem hss
    exact ⟨(hs j hj).1, liesB_in hc1 hc2 this⟩
  have hin : ∀ p ∈ partsF f, InF f p := by
    intro p hp
    unfold partsF at hp
    rw [List.mem_append, List.mem_map, List.mem_map] at hp
    rcases hp with ⟨m, hm', rfl⟩ | ⟨s, hs', rfl⟩
    · exact (hm m hm').2
    · exact (hf s hs').2
  refine ⟨by omega, by omega, hc1, hc2, by omega, by omega, hm, hf, pairs_of (fun _ => trivial) (fun j hj => (hs j hj).2), ?_⟩
  rw [List.pairwise_iff_getElem]
  intro i j hi hj hij hM
  have := anyB_false.1 h6 j hj
  unfold badPart at this
  rw [at'_eq hj, List.any_eq_false] at this
  refine this (partsF f)[i] ?_ ((meets_in hc2 (hin _ (List.getElem_mem hj)) (hin _ (List.getElem_mem hi))).2 hM)
  rw [List.mem_take_iff_getElem]
  exact ⟨i, by omega, rfl⟩
def fillL (s : Str) (n : Nat) (c : UInt8) : Str := s.take n ++ List.replicate (n - s.length) c
def fillC (s : T_api_Slot) : UInt8 := UInt8.ofNat s.fFill.toNat
theorem length_fillL (s : Str) (n : Nat) (c : UInt8) : (fillL s n c).length = n := by
  unfold fillL; simp; try omega
theorem strB_one (n : Int) : strB [n] = [UInt8.ofNat n.toNat] := rfl
theorem flatten_one (n : Nat) (c : UInt8) : (List.replicate n [c]).flatten = List.replicate n c := by
  induction n with
  | zero => rfl
  | succ n ih => rw [List.replicate_succ, List.flatten_cons, ih, List.replicate_succ]; rfl
theorem repS_one {n : Nat} (h : n ≤ 1000000) (c : UInt8) : repS [c] (n : Int) = some (List.replicate n c) := by
  unfold repS
  rw [if_pos ⟨by omega, by omega, by simp⟩]
  simp [flatten_one]
theorem screen_filled_ok {k n : Nat} (hk : 2 ≤ k) {s : T_api_Slot} {t : Str} (hn : s.fBytes = (n : Int)) (h : n ≤ 40) : screen_filled k s t = some (fillL t n (fillC s)) := by
  obtain ⟨k, rfl, hq⟩ := succ_of (c := 1) hk
  obtain ⟨k, rfl, _⟩ := succ_of (c := 0) hq
  simp only [screen_filled, hn]
  by_cases hc : n ≤ t.length
  · rw [show decide ((t.length : Int) ≥ (n : Int)) = true by simp; omega, cond_true, cut_take hc]
    unfold fillL
    rw [show n - t.length = 0 by omega]
    simp
  · rw [show decide ((t.length : Int) ≥ (n : Int)) = false by simp; omega, cond_false, strings_Repeat, strB_one, wrap_in (by omega) (by omega), show (n : Int) - (t.length : Int) = ((n - t.length : Nat) : Int) by omega, repS_one (by omega)]
    simp only [Option.bind_some]
    rw [cat_ok (by simp; unfold maxList; omega)]
    unfold fillL
    rw [List.take_of_length_le (by omega)]
    rfl
theorem ref24_filled_L1_ok {n c : Int} {N : Nat} (hn : n = (N : Int)) (hN : N ≤ 1000) {K : Str → Option Str} : ∀ d m (s : Str), s.length + d = N → d < m → ref24_filled_L1 n c K m s = K (s ++ List.replicate d (UInt8.ofNat c.toNat))
  | 0, m, s, hd, hm => by
    obtain ⟨m, rfl⟩ : ∃ q, m = q + 1 := ⟨m - 1, by omega⟩
    simp only [ref24_filled_L1, show decide ((s.length : Int) < n) = false by simp; omega, cond_false, List.replicate_zero, List.append_nil]
  | d + 1, m, s, hd, hm => by
    obtain ⟨m, rfl⟩ : ∃ q, m = q + 1 := ⟨m - 1, by omega⟩
    simp only [ref24_filled_L1, show decide ((s.length : Int) < n) = true by simp; omega, cond_true, strB_one]
    rw [cat_ok (by simp; unfold maxList; omega), Option.bind_some, ref24_filled_L1_ok hn hN d m _ (by simp; omega) (by omega), List.append_assoc, List.replicate_succ]
    rfl
theorem ref24_filled_ok {k n : Nat} (hk : 1002 ≤ k) {t : Str} {c b : Int} (hn : b = (n : Int)) (h : n ≤ 1000) : ref24_filled k t b c = some (fillL t n (UInt8.ofNat c.toNat)) := by
  obtain ⟨k, rfl, hq⟩ := succ_of hk
  simp only [ref24_filled]
  subst hn
  by_cases hc : n ≤ t.length
  · obtain ⟨k, rfl, _⟩ := succ_of (c := 0) (show 0 + 1 ≤ k by omega)
    simp only [ref24_filled_L1, show decide ((t.length : Int) < (n : Int)) = false by simp; omega, cond_false, cut_take hc]
    unfold fillL
    rw [show n - t.length = 0 by omega]
    simp
  · rw [ref24_filled_L1_ok (N := n) rfl h (n - t.length) k t (by omega) (by omega), cut_take (by simp; omega), Option.bind_some]
    unfold fillL
    rw [List.take_of_length_le (by simp; omega), List.take_of_length_le (by omega)]
theorem clone_string_ok {k : Nat} (hk : 2 ≤ k) {p : List Str} (h0 : p ≠ []) (hp : p.length ≤ maxList) : slices_Clone_string k p = some p := by
  obtain ⟨k, rfl, hq⟩ := succ_of (c := 1) hk
  cases p with
  | nil => exact absurd rfl h0
  | cons y l =>
    simp only [slices_Clone_string, slices_Clone_string_c]
    rw [app_ok (by simpa using hp)]
    rfl
theorem screen_laid_ok {k R C row c : Nat} (hk : 3 ≤ k) {p : List Str} {s : Str} {a b : Int} (ha : a = (row : Int)) (hb : b = (c : Int)) (h : Sized R C p) (hR : R ≤ 12) (hr : row < R) (hc : c + s.length ≤ C) (hC : C ≤ 1000000) : screen_laid k p a b s = some (laidL p row c s) := by
  obtain ⟨k, rfl, hq⟩ := succ_of (c := 2) hk
  subst ha; subst hb
  simp only [screen_laid]
  rw [clone_string_ok (by omega) (by intro e; rw [e] at h; have := h.1; simp at this; omega) (by rw [h.1]; unfold maxList; omega), Option.bind_some]
  have := lay_body h hr hc hC
  rw [this]
  rfl
theorem ref24_laid_ok {k R C row c : Nat} (hk : 1 ≤ k) {p : List Str} {s : Str} {a b : Int} (ha : a = (row : Int)) (hb : b = (c : Int)) (h : Sized R C p) (hR : R ≤ 12) (hr : row < R) (hc : c + s.length ≤ C) (hC : C ≤ 1000000) : ref24_laid k p a b s = some (laidL p row c s) := by
  obtain ⟨k, rfl, hq⟩ := succ_of (c := 0) hk
  subst ha; subst hb
  simp only [ref24_laid]
  rw [app_ok (by rw [h.1]; simp [maxList]; omega), Option.bind_some, List.nil_append]
  have := lay_body h hr hc hC
  rw [this]
  rfl
def mx (a b : Int) : Int := if b > a then b else a
def lensF (f : T_api_Form) : Int × Int := f.fFields.foldl (fun s x => (mx s.1 (Go.IntKind.wrap .i64 (x.fIn + 1)), mx s.2 (Go.IntKind.wrap .i64 (x.fOut + 1)))) (0, 0)
theorem screen_lengths_ok {k : Nat} (hk : maxLen + 2 ≤ k) {f : T_api_Form} (hf : f.fFields.length ≤ maxLen) : screen_lengths k f = some (lensF f) := by
  obtain ⟨k, rfl, hq⟩ := succ_of hk
  simp only [screen_lengths]
  refine (foldLoop (l := f.fFields) (L := fun m i (s : Int × Int) => screen_lengths_L1 f (fun y8 y9 y10 => some (y8, y9)) m s.1 s.2 i) (stp := fun s x => (mx s.1 (Go.IntKind.wrap .i64 (x.fIn + 1)), mx s.2 (Go.IntKind.wrap .i64 (x.fOut + 1)))) (K := fun s => some s) (fun _ _ => True) ?_ ?_ (m := k) (by omega) (s0 := (0, 0)) trivial).1
  · intro m i hi s _
    refine ⟨?_, trivial⟩
    simp only [screen_lengths_L1, lt_dec hi, cond_true, idx_at hi, Option.bind_some, wrap_next hi hf]
    rfl
  · intro m s _
    simp only [screen_lengths_L1, lt_self, cond_false]
theorem ref24_lengths_ok {k : Nat} (hk : maxLen + 2 ≤ k) {f : T_api_Form} (hf : f.fFields.length ≤ maxLen) : ref24_lengths k f = some (lensF f) := by
  obtain ⟨k, rfl, hq⟩ := succ_of hk
  simp only [ref24_lengths]
  refine (foldLoop (l := f.fFields) (L := fun m i (s : Int × Int) => ref24_lengths_L1 f (fun y8 y9 y10 => some (y8, y9)) m s.1 s.2 i) (stp := fun s x => (mx s.1 (Go.IntKind.wrap .i64 (x.fIn + 1)), mx s.2 (Go.IntKind.wrap .i64 (x.fOut + 1)))) (K := fun s => some s) (fun _ _ => True) ?_ ?_ (m := k) (by omega) (s0 := (0, 0)) trivial).1
  · intro m i hi s _
    refine ⟨?_, trivial⟩
    simp only [ref24_lengths_L1, lt_dec hi, cond_true, idx_at hi, Option.bind_some, wrap_next hi hf]
    rfl
  · intro m s _
    simp only [ref24_lengths_L1, lt_self, cond_false]
theorem placeB_in {n : Int} (h : placeB n = true) : -1 ≤ n ∧ n < 4 := by
  unfold placeB at h
  simp only [Bool.and_eq_true, decide_eq_true_eq] at h
  exact h
theorem slotB_in {s : T_api_Slot} (h : slotB s = true) : nameOk s.fName = true ∧ (-1 ≤ s.fIn ∧ s.fIn < 4) ∧ (-1 ≤ s.fOut ∧ s.fOut < 4) ∧ (32 ≤ s.fFill ∧ s.fFill ≤ 126) := by
  unfold slotB at h
  simp only [Bool.and_eq_true, decide_eq_true_eq] at h
  exact ⟨h.1, placeB_in h.2.1, placeB_in h.2.2.1, h.2.2.2.1, h.2.2.2.2⟩
theorem lens_fold : ∀ (l : List T_api_Slot) (a : Int × Int), (∀ s ∈ l, slotB s = true) → 0 ≤ a.1 → a.1 ≤ 4 → 0 ≤ a.2 → a.2 ≤ 4 →
    let r := l.foldl (fun s x => (mx s.1 (Go.IntKind.wrap .i64 (x.fIn + 1)), mx s.2 (Go.IntKind.wrap .i64 (x.fOut + 1)))) a
    a.1 ≤ r.1 ∧ a.2 ≤ r.2 ∧ r.1 ≤ 4 ∧ r.2 ≤ 4 ∧ ∀ s ∈ l, s.fIn + 1 ≤ r.1 ∧ s.fOut + 1 ≤ r.2
  | [], a, _, h1, h2, h3, h4 => ⟨Int.le_refl _, Int.le_refl _, h2, h4, fun s hs => by cases hs⟩
  | x :: l, a, h, h1, h2, h3, h4 => by
    obtain ⟨_, ⟨i1, i2⟩, ⟨o1, o2⟩, _⟩ := slotB_in (h x (List.mem_cons_self ..))
    have e1 : Go.IntKind.wrap .i64 (x.fIn + 1) = x.fIn + 1 := wrap_in (by omega) (by omega)
    have e2 : Go.IntKind.wrap .i64 (x.fOut + 1) = x.fOut + 1 := wrap_in (by omega) (by omega)
    simp only [List.foldl_cons, e1, e2]
    have m1 : a.1 ≤ mx a.1 (x.fIn + 1) ∧ x.fIn + 1 ≤ mx a.1 (x.fIn + 1) ∧ mx a.1 (x.fIn + 1) ≤ 4 := by unfold mx; split <;> omega
    have m2 : a.2 ≤ mx a.2 (x.fOut + 1) ∧ x.fOut + 1 ≤ mx a.2 (x.fOut + 1) ∧ mx a.2 (x.fOut + 1) ≤ 4 := by unfold mx; split <;> omega
    obtain ⟨r1, r2, r3, r4, r5⟩ := lens_fold l (mx a.1 (x.fIn + 1), mx a.2 (x.fOut + 1)) (fun s hs => h s (List.mem_cons_of_mem _ hs)) (by omega) m1.2.2 (by omega) m2.2.2
    refine ⟨by omega, by omega, r3, r4, fun s hs => ?_⟩
    rcases List.mem_cons.1 hs with rfl | hs
    · constructor <;> omega
    · exact r5 s hs
theorem OkForm.lens {f : T_api_Form} (h : OkForm f) : 0 ≤ (lensF f).1 ∧ (lensF f).1 ≤ 4 ∧ 0 ≤ (lensF f).2 ∧ (lensF f).2 ≤ 4 ∧ ∀ s ∈ f.fFields, s.fIn < (lensF f).1 ∧ s.fOut < (lensF f).2 := by
  obtain ⟨r1, r2, r3, r4, r5⟩ := lens_fold f.fFields (0, 0) (fun s hs => (h.fd s hs).1) (by simp) (by simp) (by simp) (by simp)
  exact ⟨r1, r3, r2, r4, fun s hs => by have := r5 s hs; unfold lensF; omega⟩
def layP (p : List Str) (x : T_screen_part) (s : Str) : List Str := laidL p x.frow.toNat x.fcolumn.toNat s
def textOf (s : T_api_Slot) (l : List Str) : Str := if 0 ≤ s.fOut then l.getD s.fOut.toNat [] else []
def fldT (s : T_api_Slot) (l : List Str) : Str := fillL (textOf s l) s.fBytes.toNat (fillC s)
def baseL (f : T_api_Form) : List Str := List.replicate f.fRows.toNat (List.replicate f.fColumns.toNat 32)
def markedL (f : T_api_Form) : List Str := f.fMarks.foldl (fun p m => layP p (partM m) m.fText) (baseL f)
def showL (f : T_api_Form) (l : List Str) : List Str := f.fFields.foldl (fun p s => layP p (partF s) (fldT s l)) (markedL f)
def SizedF (f : T_api_Form) (p : List Str) : Prop := Sized f.fRows.toNat f.fColumns.toNat p
theorem sized_base (f : T_api_Form) : SizedF f (baseL f) := by
  refine ⟨by unfold baseL; simp, fun r hr => ?_⟩
  unfold baseL at hr
  rw [List.eq_of_mem_replicate hr]
  simp
theorem SizedF.lay {f : T_api_Form} {p : List Str} (h : SizedF f p) {x : T_screen_part} {s : Str} (hx : InF f x) (hs : (s.length : Int) = x.fn) : SizedF f (layP p x s) := by
  obtain ⟨a1, a2, a3, a5, a6⟩ := hx
  exact Sized.laid h (by omega)
theorem fold_sized {α : Type} {f : T_api_Form} (g : α → T_screen_part) (t : α → Str) : ∀ (l : List α) (p : List Str), SizedF f p → (∀ a ∈ l, InF f (g a) ∧ ((t a).length : Int) = (g a).fn) → SizedF f (l.foldl (fun p a => layP p (g a) (t a)) p)
  | [], p, h, _ => h
  | a :: l, p, h, ha => by
    rw [List.foldl_cons]
    exact fold_sized g t l _ (h.lay (ha a (List.mem_cons_self ..)).1 (ha a (List.mem_cons_self ..)).2) (fun b hb => ha b (List.mem_cons_of_mem _ hb))
theorem length_fldT {f : T_api_Form} (h : OkForm f) {s : T_api_Slot} (hs : s ∈ f.fFields) (l : List Str) : ((fldT s l).length : Int) = (partF s).fn := by
  obtain ⟨_, a1, a2, a3, a5, a6⟩ := h.fd s hs
  unfold fldT
  rw [length_fillL]
  simp only [partF] at *
  omega
theorem sized_marked {f : T_api_Form} (h : OkForm f) : SizedF f (markedL f) :=
  fold_sized partM (fun m => m.fText) f.fMarks _ (sized_base f) (fun m hm => ⟨(h.mark m hm).2, rfl⟩)
theorem sized_show {f : T_api_Form} (h : OkForm f) (l : List Str) : SizedF f (showL f l) :=
  fold_sized partF (fun s => fldT s l) f.fFields _ (sized_marked h) (fun s hs => ⟨(h.fd s hs).2, length_fldT h hs l⟩)
theorem lays_ok {f : T_api_Form} (h : OkForm f) {p : List Str} (hp : SizedF f p) {x : T_screen_part} {s : Str} (hx : InF f x) (hs : (s.length : Int) = x.fn) {k : Nat} (hk : 3 ≤ k) : screen_laid k p x.frow x.fcolumn s = some (layP p x s) := by
  obtain ⟨a1, a2, a3, a5, a6⟩ := hx
  have := h.r2
  have := h.c2
  exact screen_laid_ok hk (by omega) (by omega) hp (by omega) (by omega) (by omega) (by omega)
theorem refLays_ok {f : T_api_Form} (h : OkForm f) {p : List Str} (hp : SizedF f p) {x : T_screen_part} {s : Str} (hx : InF f x) (hs : (s.length : Int) = x.fn) {k : Nat} (hk : 3 ≤ k) : ref24_laid k p x.frow x.fcolumn s = some (layP p x s) := by
  obtain ⟨a1, a2, a3, a5, a6⟩ := hx
  have := h.r2
  have := h.c2
  exact ref24_laid_ok (by omega) (by omega) (by omega) hp (by omega) (by omega) (by omega) (by omega)
theorem fields_len {f : T_api_Form} (h : OkForm f) : f.fFields.length ≤ maxLen ∧ f.fMarks.length ≤ maxLen := by
  have := h.f10; have := h.m8; have := maxLen_lt; omega
/-- A message as long as the form wants it. -/
theorem idx_text {f : T_api_Form} (h : OkForm f) {l : List Str} (hl : (l.length : Int) = (lensF f).2) {s : T_api_Slot} (hs : s ∈ f.fFields) (h0 : 0 ≤ s.fOut) : idx l s.fOut = some (textOf s l) := by
  obtain ⟨_, _, _, _, hh⟩ := h.lens
  have := (hh s hs).2
  rw [idx_of h0 (by omega)]
  unfold textOf
  rw [if_pos h0, List.getD_eq_getElem?_getD, List.getElem?_eq_getElem (by omega)]
  rfl
theorem screen_show_ok {k : Nat} (hk : maxLen + 4 ≤ k) {f : T_api_Form} (h : OkForm f) {l : List Str} (hl : (l.length : Int) = (lensF f).2) : screen_show k f l = some (showL f l) := by
  obtain ⟨k, rfl, hq⟩ := succ_of hk
  obtain ⟨hf, hm⟩ := fields_len h
  have hmm := maxLen_lt
  have := h.r1; have := h.r2; have := h.c1; have := h.c2
  simp only [screen_show]
  have e1 : strings_Repeat k ([32] : Str) f.fColumns = some (List.replicate f.fColumns.toNat 32) := by
    obtain ⟨k, rfl, _⟩ := succ_of (c := 0) (show 0 + 1 ≤ k by omega)
    rw [strings_Repeat]
    have := repS_one (n := f.fColumns.toNat) (by omega) 32
    rw [show ((f.fColumns.toNat : Nat) : Int) = f.fColumns by omega] at this
    exact this
  have e2 : slices_Repeat_string k ([List.replicate f.fColumns.toNat 32] : List Str) f.fRows = some (baseL f) := by
    obtain ⟨k, rfl, _⟩ := succ_of (c := 0) (show 0 + 1 ≤ k by omega)
    rw [slices_Repeat_string]
    unfold repL
    simp only
    rw [if_pos ⟨by omega, by omega⟩]
    rfl
  simp only [e1, e2, Option.bind_some]
  refine Eq.trans (foldLoop (l := f.fMarks) (L := fun m i (s : List Str) => screen_show_L1 k f _ m s i) (stp := fun p m => layP p (partM m) m.fText) (K := fun s => screen_show_L2 k f l (fun y38 y39 => some y38) k s 0) (fun _ p => SizedF f p) ?_ ?_ (m := k) (by omega) (s0 := baseL f) (sized_base f)).1 ?_
  · intro m i hi s hs
    have hmi := h.mark _ (List.getElem_mem hi)
    have hlay := lays_ok h hs hmi.2 rfl (show 3 ≤ k by omega)
    refine ⟨?_, hs.lay hmi.2 rfl⟩
    simp only [screen_show_L1, lt_dec hi, cond_true, idx_at hi, Option.bind_some, wrap_next hi hm]
    simp only [partM] at hlay
    rw [hlay]
    rfl
  · intro m s hs
    simp only [screen_show_L1, lt_self, cond_false]
  · refine (foldLoop (l := f.fFields) (L := fun m i (s : List Str) => screen_show_L2 k f l _ m s i) (stp := fun p s => layP p (partF s) (fldT s l)) (K := fun s => some s) (fun _ p => SizedF f p) ?_ ?_ (m := k) (by omega) (s0 := markedL f) (sized_marked h)).1
    · intro m i hi s hs
      have hmem := List.getElem_mem hi
      have hfi := h.fd _ hmem
      have hln := length_fldT h hmem l
      have hlay := lays_ok h hs hfi.2 hln (show 3 ≤ k by omega)
      refine ⟨?_, hs.lay hfi.2 hln⟩
      obtain ⟨_, a1, a2, a3, a5, a6⟩ := hfi
      simp only [partF] at a1 a2 a3 a5 a6 hlay
      simp only [screen_show_L2, lt_dec hi, cond_true, idx_at hi, Option.bind_some, wrap_next hi hf]
      have hfl : ∀ t, screen_filled k f.fFields[i] t = some (fillL t f.fFields[i].fBytes.toNat (fillC f.fFields[i])) := fun t => screen_filled_ok (by omega) (by omega) (by omega)
      by_cases h0 : 0 ≤ f.fFields[i].fOut
      · rw [show decide (f.fFields[i].fOut ≥ 0) = true by simp; omega, cond_true, idx_text h hl hmem h0]
        simp only [Option.bind_some, hfl]
        unfold fldT at hlay ⊢
        rw [hlay]
        rfl
      · rw [show decide (f.fFields[i].fOut ≥ 0) = false by simp; omega, cond_false]
        simp only [Option.bind_some, hfl]
        unfold fldT textOf at hlay ⊢
        rw [if_neg h0] at hlay ⊢
        rw [hlay]
        rfl
    · intro m s hs
      simp only [screen_show_L2, lt_self, cond_false]
theorem ref24_marked_ok {k : Nat} (hk : maxLen + 4 ≤ k) {f : T_api_Form} (h : OkForm f) : ref24_marked k f = some (markedL f) := by
  obtain ⟨k, rfl, hq⟩ := succ_of hk
  obtain ⟨hf, hm⟩ := fields_len h
  have hmm := maxLen_lt
  have r1 := h.r1; have r2 := h.r2; have := h.c1; have := h.c2
  simp only [ref24_marked]
  have hrow : ref24_filled k ([] : Str) f.fColumns 32 = some (List.replicate f.fColumns.toNat 32) := by
    rw [ref24_filled_ok (n := f.fColumns.toNat) (by omega) (by omega) (by omega)]
    unfold fillL
    simp
  have hbase : ∀ (K : List Str → Int → Option (List Str)) (d m i : Nat), (i : Int) + d = f.fRows → d < m → ref24_marked_L1 k f K m (List.replicate i (List.replicate f.fColumns.toNat 32)) (i : Int) = K (baseL f) f.fRows := by
    intro K d
    induction d with
    | zero =>
      intro m i hd hm'
      obtain ⟨m, rfl⟩ : ∃ q, m = q + 1 := ⟨m - 1, by omega⟩
      simp only [ref24_marked_L1, show decide ((i : Int) < f.fRows) = false by simp; omega, cond_false]
      unfold baseL
      rw [show i = f.fRows.toNat by omega, show ((f.fRows.toNat : Nat) : Int) = f.fRows by omega]
    | succ d ih =>
      intro m i hd hm'
      obtain ⟨m, rfl⟩ : ∃ q, m = q + 1 := ⟨m - 1, by omega⟩
      simp only [ref24_marked_L1, show decide ((i : Int) < f.fRows) = true by simp; omega, cond_true, hrow, Option.bind_some]
      rw [app_ok (by simp; unfold maxList; omega), Option.bind_some, wrap_in (by omega) (by omega), show (i : Int) + 1 = ((i + 1 : Nat) : Int) by omega, ← ih m (i + 1) (by omega) (by omega), List.replicate_succ']
  have := hbase (fun y9 y10 => ref24_marked_L2 k f (fun y23 y24 => some y23) k y9 0) f.fRows.toNat k 0 (by omega) (by omega)
  simp only [List.replicate_zero] at this
  refine Eq.trans this ?_
  refine (foldLoop (l := f.fMarks) (L := fun m i (s : List Str) => ref24_marked_L2 k f _ m s i) (stp := fun p m => layP p (partM m) m.fText) (K := fun s => some s) (fun _ p => SizedF f p) ?_ ?_ (m := k) (by omega) (s0 := baseL f) (sized_base f)).1
  · intro m i hi s hs
    have hmi := h.mark _ (List.getElem_mem hi)
    have hlay := refLays_ok h hs hmi.2 rfl (show 3 ≤ k by omega)
    refine ⟨?_, hs.lay hmi.2 rfl⟩
    simp only [ref24_marked_L2, lt_dec hi, cond_true, idx_at hi, Option.bind_some, wrap_next hi hm]
    simp only [partM] at hlay
    rw [hlay]
    rfl
  · intro m s hs
    simp only [ref24_marked_L2, lt_self, cond_false]
theorem ref24_show_ok {k : Nat} (hk : maxLen + 6 ≤ k) {f : T_api_Form} (h : OkForm f) {l : List Str} (hl : (l.length : Int) = (lensF f).2) : ref24_show k f l = some (showL f l) := by
  obtain ⟨k, rfl, hq⟩ := succ_of hk
  obtain ⟨hf, hm⟩ := fields_len h
  have hmm := maxLen_lt
  have := h.c2
  simp only [ref24_show, ref24_marked_ok (show maxLen + 4 ≤ k by omega) h, Option.bind_some]
  refine (foldLoop (l := f.fFields) (L := fun m i (s : List Str) => ref24_show_L1 k f l _ m s i) (stp := fun p s => layP p (partF s) (fldT s l)) (K := fun s => some s) (fun _ p => SizedF f p) ?_ ?_ (m := k) (by omega) (s0 := markedL f) (sized_marked h)).1
  · intro m i hi s hs
    have hmem := List.getElem_mem hi
    have hfi := h.fd _ hmem
    have hln := length_fldT h hmem l
    have hlay := refLays_ok h hs hfi.2 hln (show 3 ≤ k by omega)
    refine ⟨?_, hs.lay hfi.2 hln⟩
    obtain ⟨_, a1, a2, a3, a5, a6⟩ := hfi
    simp only [partF] at a1 a2 a3 a5 a6 hlay
    simp only [ref24_show_L1, lt_dec hi, cond_true, idx_at hi, Option.bind_some, wrap_next hi hf]
    have hfl : ∀ t, ref24_filled k t f.fFields[i].fBytes f.fFields[i].fFill = some (fillL t f.fFields[i].fBytes.toNat (fillC f.fFields[i])) := fun t => ref24_filled_ok (by omega) (by omega) (by omega)
    by_cases h0 : 0 ≤ f.fFields[i].fOut
    · rw [show decide (f.fFields[i].fOut ≥ 0) = true by simp; omega, cond_true, idx_text h hl hmem h0]
      simp only [Option.bind_some, hfl]
      unfold fldT at hlay ⊢
      rw [hlay]
      rfl
    · rw [show decide (f.fFields[i].fOut ≥ 0) = false by simp; omega, cond_false]
      simp only [Option.bind_some, hfl]
      unfold fldT textOf at hlay ⊢
      rw [if_neg h0] at hlay ⊢
      rw [hlay]
      rfl
  · intro m s hs
    simp only [ref24_show_L1, lt_self, cond_false]
end Go.Sh

namespace Go.Sh
open Go.AE
set_option linter.unusedVariables false
set_option linter.unusedSimpArgs false
theorem indexFunc_stringv {k : Nat} {l : List Str} {p : Str → Bool} {f : Nat → Str → Option Bool} (hk : l.length + 2 ≤ k) (hn : l.length ≤ maxLen) (hp : ∀ k', k' + 1 = k → ∀ x ∈ l, f k' x = some (p x)) : slices_IndexFunc_string_v10 k l f = some (pos l p) := by
  obtain ⟨k, rfl, hq⟩ := succ_of hk
  exact indexFunc_gen (hp k rfl) (L := fun m x => slices_IndexFunc_string_v10_L1 k l f _ m x) (fun m x => rfl) rfl hn (by omega)
theorem containsFunc_stringv {k : Nat} {l : List Str} {p : Str → Bool} {f : Nat → Str → Option Bool} (hk : l.length + 3 ≤ k) (hn : l.length ≤ maxLen) (hp : ∀ k', k' + 2 = k → ∀ x ∈ l, f k' x = some (p x)) : slices_ContainsFunc_string_v10 k l f = some (l.any p) := by
  obtain ⟨k, rfl, hq⟩ := succ_of hk
  simp only [slices_ContainsFunc_string_v10, indexFunc_stringv hq hn (fun k' e => hp k' (by omega)), Option.bind_some, pos_any]
theorem indexFunc_string {k : Nat} {l : List Str} {p : Str → Bool} {f : Nat → Str → Option Bool} (hk : l.length + 2 ≤ k) (hn : l.length ≤ maxLen) (hp : ∀ k', k' + 1 = k → ∀ x ∈ l, f k' x = some (p x)) : slices_IndexFunc_string k l f = some (pos l p) := by
  obtain ⟨k, rfl, hq⟩ := succ_of hk
  exact indexFunc_gen (hp k rfl) (L := fun m x => slices_IndexFunc_string_L1 k l f _ m x) (fun m x => rfl) rfl hn (by omega)
theorem containsFunc_string {k : Nat} {l : List Str} {p : Str → Bool} {f : Nat → Str → Option Bool} (hk : l.length + 3 ≤ k) (hn : l.length ≤ maxLen) (hp : ∀ k', k' + 2 = k → ∀ x ∈ l, f k' x = some (p x)) : slices_ContainsFunc_string k l f = some (l.any p) := by
  obtain ⟨k, rfl, hq⟩ := succ_of hk
  simp only [slices_ContainsFunc_string, indexFunc_string hq hn (fun k' e => hp k' (by omega)), Option.bind_some, pos_any]
theorem wf_fields {f : T_api_Form} (h : wf_T_api_Form f) : f.fFields.length ≤ maxLen := h.2.2.2.1.1
def badT (s : Str) : Bool := decide ((s.length : Int) > 200) || !textOk s
def msgOk (f : T_api_Form) (l : List Str) : Bool := ((l.length : Int) == (lensF f).2) && !l.any badT
theorem shows1_ok {k : Nat} (hk : maxLen + 5 ≤ k) {s : Str} (hs : wfS s) : screen_shows_1 k s = some (badT s) := by
  obtain ⟨k, rfl, hq⟩ := succ_of hk
  simp only [screen_shows_1, screen_isText_ok (show maxLen + 4 ≤ k by omega) hs, Option.bind_some, badT]
  cases decide ((s.length : Int) > 200) <;> rfl
theorem screen_shows_ok {k : Nat} (hk : maxLen + 24 ≤ k) {f : T_api_Form} (hw : wf_T_api_Form f) {l : List Str} (hl : wfL wfS l) : screen_shows k f l = some (bif okF f then (bif msgOk f l then 0 else 2) else 220) := by
  obtain ⟨k, rfl, hq⟩ := succ_of hk
  have hl1 := hl.1
  have hc : slices_ContainsFunc_string_v10 k l (fun j x0 => screen_shows_1 j x0) = some (l.any badT) := containsFunc_stringv (by omega) hl1 (fun k' e x hx => shows1_ok (by omega) (hl.2 x hx))
  simp only [screen_shows, screen_Valid_ok (show maxLen + 20 ≤ k by omega) hw, screen_lengths_ok (show maxLen + 2 ≤ k by omega) (wf_fields hw), hc, Option.bind_some, msgOk]
  have e : ((l.length : Int) != (lensF f).2) = !((l.length : Int) == (lensF f).2) := rfl
  rw [e]
  cases okF f <;> cases ((l.length : Int) == (lensF f).2) <;> cases l.any badT <;> rfl
theorem ref24_isMessage_ok {k : Nat} (hk : maxLen + 24 ≤ k) {f : T_api_Form} (hw : wf_T_api_Form f) {l : List Str} (hl : wfL wfS l) : ref24_isMessage k f l = some (msgOk f l) := by
  obtain ⟨k, rfl, hq⟩ := succ_of hk
  simp only [ref24_isMessage, ref24_lengths_ok (show maxLen + 2 ≤ k by omega) (wf_fields hw), Option.bind_some]
  refine Eq.trans (anyLoop (n := l.length) (L := fun m x => ref24_isMessage_L1 k l (fun y10 => some ((l.length : Int) == (lensF f).2)) m x) (body := fun x5 => ((idx l x5).bind fun v6 => (bif (decide ((v6.length : Int) > 200)) then (some (true)) else ((idx l x5).bind fun v7 => ((ref24_IsText k v7).bind fun v8 => (some ((!v8)))))))) (K := fun _ => some ((l.length : Int) == (lensF f).2)) (r := some false) (z := some ((l.length : Int) == (lensF f).2)) (g := at' l badT)
    (fun m x => rfl) (fun i hi _ => ?_) (fun _ => rfl) hl.1 (m := k) (by have := hl.1; omega)) ?_
  · rw [at'_eq hi]
    simp only [idx_at hi, Option.bind_some, ref24_IsText_ok (show maxLen + 4 ≤ k by omega) (hl.2 _ (List.getElem_mem hi)), badT]
    cases decide ((l[i].length : Int) > 200) <;> rfl
  · rw [anyB_any]
    unfold msgOk
    cases l.any badT <;> cases ((l.length : Int) == (lensF f).2) <;> rfl
def ShowS (f : T_api_Form) (l : List Str) : List Str × Int := bif okF f then (bif msgOk f l then (showL f l, 0) else ([], 2)) else ([], 220)
theorem msg_len {f : T_api_Form} {l : List Str} (h : msgOk f l = true) : (l.length : Int) = (lensF f).2 := by
  unfold msgOk at h
  simp only [Bool.and_eq_true, beq_iff_eq] at h
  exact h.1
theorem screen_Show_ok {k : Nat} (hk : maxLen + 26 ≤ k) {f : T_api_Form} (hw : wf_T_api_Form f) {l : List Str} (hl : wfL wfS l) : screen_Show k f l = some (ShowS f l) := by
  obtain ⟨k, rfl, hq⟩ := succ_of hk
  simp only [screen_Show, screen_shows_ok (show maxLen + 24 ≤ k by omega) hw hl, Option.bind_some, ShowS]
  cases ho : okF f with
  | false => rfl
  | true =>
    cases hm : msgOk f l with
    | false => rfl
    | true =>
      simp only [cond_true, screen_show_ok (show maxLen + 4 ≤ k by omega) (okF_form ho) (msg_len hm)]
      rfl
def badR (f : T_api_Form) (s : Str) : Bool := ((s.length : Int) != f.fColumns) || !textOk s
def sizedB (f : T_api_Form) (p : List Str) : Bool := ((p.length : Int) == f.fRows) && !p.any (badR f)
theorem fits1_ok {k : Nat} (hk : maxLen + 5 ≤ k) {s : Str} (hs : wfS s) (f : T_api_Form) : screen_fits_1 k s f = some (badR f s) := by
  obtain ⟨k, rfl, hq⟩ := succ_of hk
  simp only [screen_fits_1, screen_isText_ok (show maxLen + 4 ≤ k by omega) hs, Option.bind_some, badR]
  cases ((s.length : Int) != f.fColumns) <;> rfl
theorem screen_fits_ok {k : Nat} (hk : maxLen + 10 ≤ k) {f : T_api_Form} {p : List Str} (hp : wfL wfS p) : screen_fits k f p = some (sizedB f p) := by
  obtain ⟨k, rfl, hq⟩ := succ_of hk
  have hp1 := hp.1
  have hc : slices_ContainsFunc_string k p (fun j x0 => screen_fits_1 j x0 f) = some (p.any (badR f)) := containsFunc_string (by omega) hp1 (fun k' e x hx => fits1_ok (by omega) (hp.2 x hx) f)
  simp only [screen_fits, hc, Option.bind_some, sizedB]
  cases ((p.length : Int) == f.fRows) <;> rfl
theorem screen_pictured_ok {k : Nat} (hk : maxLen + 24 ≤ k) {f : T_api_Form} (hw : wf_T_api_Form f) {p : List Str} (hp : wfL wfS p) : screen_pictured k f p = some (bif okF f then (bif sizedB f p then 0 else 2) else 220) := by
  obtain ⟨k, rfl, hq⟩ := succ_of hk
  simp only [screen_pictured, screen_Valid_ok (show maxLen + 20 ≤ k by omega) hw, screen_fits_ok (show maxLen + 10 ≤ k by omega) hp, Option.bind_some]
  cases okF f <;> cases sizedB f p <;> rfl
theorem sizedB_sized {f : T_api_Form} {p : List Str} (h : sizedB f p = true) : SizedF f p ∧ ∀ r ∈ p, textOk r = true := by
  unfold sizedB at h
  simp only [Bool.and_eq_true, beq_iff_eq, Bool.not_eq_true', List.any_eq_false] at h
  have h2 : ∀ r ∈ p, (r.length : Int) = f.fColumns ∧ textOk r = true := by
    intro r hr
    have := h.2 r hr
    unfold badR at this
    simp only [Bool.or_eq_true, bne_iff_ne, ne_eq, Bool.not_eq_true', not_or, Decidable.not_not, Bool.not_eq_false] at this
    exact this
  exact ⟨⟨by omega, fun r hr => by have := (h2 r hr).1; omega⟩, fun r hr => (h2 r hr).2⟩
def stripR (s : Str) (c : Int) : Str := (s.reverse.dropWhile (fun b => (b.toNat : Int) == c)).reverse
theorem screen_Take_L2_ok {o : T_api_Slot} {K : Str → Option (List Str × Int)} : ∀ (n : Nat) (s : Str) (m : Nat), s.length = n → n ≤ 1000 → n < m → screen_Take_L2 o K m s = K (stripR s o.fFill)
  | 0, s, m, hn, _, hm => by
    obtain ⟨m, rfl⟩ : ∃ q, m = q + 1 := ⟨m - 1, by omega⟩
    obtain rfl := List.eq_nil_of_length_eq_zero hn
    rfl
  | n + 1, s, m, hn, hb, hm => by
    obtain ⟨m, rfl⟩ : ∃ q, m = q + 1 := ⟨m - 1, by omega⟩
    rcases List.eq_nil_or_concat s with rfl | ⟨t, b, rfl⟩
    · simp at hn
    · rw [List.concat_eq_append] at hn ⊢
      have hl : (t ++ [b]).length = t.length + 1 := by simp
      have ht : t.length = n := by omega
      have e1 : Go.IntKind.wrap .i64 (((t ++ [b]).length : Int) - 1) = (t.length : Int) := by rw [wrap_in] <;> omega
      have e2 : idxS (t ++ [b]) (t.length : Int) = some (b.toNat : Int) := by rw [idxS_at (by omega)]; simp
      have e3 : cut (t ++ [b]) 0 (t.length : Int) = some t := by rw [cut_take (by omega)]; simp
      simp only [screen_Take_L2, show decide (((t ++ [b]).length : Int) > 0) = true by simp, cond_true, e1, e2, e3, Option.bind_some]
      unfold stripR
      rw [List.reverse_append]
      show _ = K (List.dropWhile _ (b :: t.reverse)).reverse
      rw [List.dropWhile_cons]
      cases hc : ((b.toNat : Int) == o.fFill) with
      | true =>
        simp only [cond_true, if_true]
        exact screen_Take_L2_ok n t m ht (by omega) (by omega)
      | false => simp
def cutF (p : List Str) (s : T_api_Slot) : Str := (((p.getD s.fRow.toNat []).take (s.fColumn.toNat + s.fBytes.toNat)).drop s.fColumn.toNat)
def takeStep (p : List Str) (out : List Str) (s : T_api_Slot) : List Str := if s.fIn < 0 then out else out.set s.fIn.toNat (stripR (cutF p s) s.fFill)
def takeL (f : T_api_Form) (p : List Str) : List Str := f.fFields.foldl (takeStep p) (List.replicate (lensF f).1.toNat [])
theorem cutF_ok {f : T_api_Form} (h : OkForm f) {p : List Str} (hp : SizedF f p) {s : T_api_Slot} (hs : s ∈ f.fFields) : ((idx p s.fRow).bind fun v29 => (cut v29 s.fColumn (Go.IntKind.wrap .i64 (s.fColumn + s.fBytes)))) = some (cutF p s) ∧ ((cutF p s).length : Int) = s.fBytes := by
  obtain ⟨_, a1, a2, a3, a5, a6⟩ := h.fd s hs
  simp only [partF] at a1 a2 a3 a5 a6
  have := h.c2
  obtain ⟨r, hr1, hr2⟩ := Sized.get hp (i := s.fRow.toNat) (by omega)
  have hri : s.fRow.toNat < p.length := by rw [hp.1]; omega
  have e : idx p s.fRow = some r := by unfold idx; rw [if_pos a1, hr1]
  have eg : p.getD s.fRow.toNat [] = r := by rw [List.getD_eq_getElem?_getD, hr1]; rfl
  rw [e, Option.bind_some, wrap_in (by omega) (by omega)]
  unfold cutF
  rw [eg]
  constructor
  · have e1 : s.fColumn = ((s.fColumn.toNat : Nat) : Int) := by omega
    have e2 : s.fColumn + s.fBytes = ((s.fColumn.toNat + s.fBytes.toNat : Nat) : Int) := by omega
    rw [e2]
    conv => lhs; rw [e1]
    exact cut_in (by omega) (by omega)
  · simp; omega
theorem screen_Take_loop {k : Nat} (hk : 1002 ≤ k) {f : T_api_Form} (h : OkForm f) {p : List Str} (hp : SizedF f p) : screen_Take_L1 k f p (fun y45 y46 => some (y46, 0)) k 0 (List.replicate (lensF f).1.toNat []) = some (takeL f p, 0) := by
  obtain ⟨hf, hm⟩ := fields_len h
  have hf10 := h.f10
  obtain ⟨l1, l2, _, _, l5⟩ := h.lens
  refine (foldLoop (l := f.fFields) (L := fun m i (s : List Str) => screen_Take_L1 k f p (fun y45 y46 => some (y46, 0)) m i s) (stp := takeStep p) (K := fun s => some (s, 0)) (fun _ s => s.length = (lensF f).1.toNat) ?_ ?_ (m := k) (by omega) (s0 := List.replicate (lensF f).1.toNat []) (by simp)).1
  · intro m i hi s hs
    have hmem := List.getElem_mem hi
    obtain ⟨c1, c2⟩ := cutF_ok h hp hmem
    obtain ⟨_, a1, a2, a3, a5, a6⟩ := h.fd _ hmem
    simp only [partF] at a1 a2 a3 a5 a6
    have := h.c2
    have := (l5 _ hmem).1
    simp only [screen_Take_L1, lt_dec hi, cond_true, idx_at hi, Option.bind_some, wrap_next hi hf]
    unfold takeStep
    by_cases h0 : f.fFields[i].fIn < 0
    · rw [show decide (f.fFields[i].fIn < 0) = true by simp; omega, cond_true, if_pos h0]
      exact ⟨rfl, hs⟩
    · rw [show decide (f.fFields[i].fIn < 0) = false by simp; omega, cond_false, if_neg h0, c1, Option.bind_some, screen_Take_L2_ok (cutF p f.fFields[i]).length _ _ rfl (by omega) (by omega)]
      have hB : inB s.length f.fFields[i].fIn = some () := by unfold inB; rw [if_pos ⟨by omega, by omega⟩]
      have hg : s[0 + f.fFields[i].fIn.toNat]? = some (s[f.fFields[i].fIn.toNat]'(by omega)) := by rw [Nat.zero_add, List.getElem?_eq_getElem]
      rw [Nat.zero_add] at hg
      simp only [hB, Option.bind_some, Nat.zero_add, hg]
      exact ⟨trivial, by simp [hs]⟩
  · intro m s hs
    simp only [screen_Take_L1, lt_self, cond_false]
def TakeS (f : T_api_Form) (p : List Str) : List Str × Int := bif okF f then (bif sizedB f p then (takeL f p, 0) else ([], 2)) else ([], 220)
theorem mkN_ok {α : Type} (z : α) {n : Int} (h0 : 0 ≤ n) (h : n ≤ 1000000) : mkN z n = some (List.replicate n.toNat z) := by
  unfold mkN
  rw [if_pos ⟨h0, by unfold maxList; omega⟩]
theorem screen_Take_ok {k : Nat} (hk : maxLen + 26 ≤ k) {f : T_api_Form} (hw : wf_T_api_Form f) {p : List Str} (hp : wfL wfS p) : screen_Take k f p = some (TakeS f p) := by
  obtain ⟨k, rfl, hq⟩ := succ_of hk
  have hmm := maxLen_lt
  simp only [screen_Take, screen_pictured_ok (show maxLen + 24 ≤ k by omega) hw hp, Option.bind_some, TakeS]
  cases ho : okF f with
  | false => rfl
  | true =>
    cases hs : sizedB f p with
    | false => rfl
    | true =>
      have h := okF_form ho
      obtain ⟨l1, l2, _, _, _⟩ := h.lens
      simp only [cond_true, screen_lengths_ok (show maxLen + 2 ≤ k by omega) (wf_fields hw), Option.bind_some, mkN_ok ([] : Str) l1 (by omega), screen_Take_loop (show 1002 ≤ k by omega) h (sizedB_sized hs).1]
      rfl
theorem eqB {α : Type} [DecidableEq α] {a b : List α} (hl : a.length = b.length) : anyB (fun i => !(decide (a[i]? = b[i]?))) a.length = !decide (a = b) := by
  by_cases h : a = b
  · subst h
    rw [anyB_false.2 (fun i _ => by simp)]
    simp
  · have : ∃ i, i < a.length ∧ a[i]? ≠ b[i]? := by
      refine Classical.byContradiction fun hn => h ?_
      refine List.ext_getElem? fun i => ?_
      refine Classical.byContradiction fun hc => ?_
      by_cases hi : i < a.length
      · exact hn ⟨i, hi, hc⟩
      · exact hc (by rw [List.getElem?_eq_none (by omega), List.getElem?_eq_none (by omega)])
    obtain ⟨i, hi, hne⟩ := this
    rw [anyB_iff.2 ⟨i, hi, by simp [hne]⟩]
    simp [h]
theorem sameTexts_ok {k : Nat} {a b : List Str} (hk : maxLen + 2 ≤ k) (ha : a.length ≤ maxLen) : ref01_SameTexts k a b = some (decide (a = b)) := by
  obtain ⟨k, rfl, hq⟩ := succ_of hk
  simp only [ref01_SameTexts]
  by_cases hl : a.length = b.length
  · rw [show ((a.length : Int) != (b.length : Int)) = false by simp; omega, cond_false]
    refine Eq.trans (anyLoop (n := a.length) (L := fun m x => ref01_SameTexts_L1 a b (fun y8 => some true) m x) (body := fun x4 => ((idx a x4).bind fun v5 => ((idx b x4).bind fun v6 => (some ((!(v5 == v6))))))) (K := fun _ => some true) (r := some false) (z := some true) (g := fun i => !(decide (a[i]? = b[i]?)))
      (fun m x => rfl) (fun i hi _ => ?_) (fun _ => rfl) ha (m := k) (by omega)) ?_
    · rw [idx_at hi, Option.bind_some, idx_at (show i < b.length by omega), Option.bind_some, List.getElem?_eq_getElem hi, List.getElem?_eq_getElem (show i < b.length by omega)]
      congr 2
      by_cases e : a[i] = b[i] <;> simp [e]
    · rw [eqB hl]
      cases decide (a = b) <;> rfl
  · rw [show ((a.length : Int) != (b.length : Int)) = true by simp; omega, cond_true]
    have : a ≠ b := fun e => hl (by rw [e])
    simp [this]
def awF : T_api_Form := { fRows := 2, fColumns := 20, fMarks := ([({ fRow := 0, fColumn := 0, fText := ([78, 65, 77, 69, 58] : Str) } : T_api_Mark)] : List T_api_Mark), fFields := ([({ fName := ([65] : Str), fRow := 0, fColumn := 6, fBytes := 5, fIn := 0, fOut := 0, fFill := 95 } : T_api_Slot)] : List T_api_Slot) }
theorem wfS_small {s : Str} (h : s.length ≤ 1000) : wfS s := by
  unfold wfS
  rw [maxLen_lt]
  omega
theorem wf_awF : wf_T_api_Form awF := by
  refine ⟨by unfold wfI; decide, by unfold wfI; decide, ⟨by simp [awF, maxLen_lt], fun m hm => ?_⟩, ⟨by simp [awF, maxLen_lt], fun s hs => ?_⟩, trivial⟩
  · simp only [awF, List.mem_cons, List.not_mem_nil, or_false] at hm
    subst hm
    exact ⟨by unfold wfI; decide, by unfold wfI; decide, wfS_small (by simp), trivial⟩
  · simp only [awF, List.mem_cons, List.not_mem_nil, or_false] at hs
    subst hs
    exact ⟨wfS_small (by simp), by unfold wfI; decide, by unfold wfI; decide, by unfold wfI; decide, by unfold wfI; decide, by unfold wfI; decide, by unfold wfI; decide, trivial⟩
theorem awake_ok {k : Nat} (hk : maxLen + 30 ≤ k) : law24_Awake k = some true := by
  obtain ⟨k, rfl, hq⟩ := succ_of hk
  have h1 : screen_Show k awF [[65, 66]] = some ([[78, 65, 77, 69, 58, 32, 65, 66, 95, 95, 95, 32, 32, 32, 32, 32, 32, 32, 32, 32], List.replicate 20 32], 0) := by
    rw [screen_Show_ok (by omega) wf_awF ⟨by simp [maxLen_lt], fun s hs => by simp at hs; subst hs; exact wfS_small (by simp)⟩]
    decide +kernel
  have h2 : screen_Take k awF [[78, 65, 77, 69, 58, 32, 65, 66, 95, 95, 95, 32, 32, 32, 32, 32, 32, 32, 32, 32], List.replicate 20 32] = some ([[65, 66]], 0) := by
    rw [screen_Take_ok (by omega) wf_awF ⟨by simp [maxLen_lt], fun s hs => by simp at hs; rcases hs with rfl | rfl <;> exact wfS_small (by simp)⟩]
    decide +kernel
  have h3 : ref01_SameTexts k [[65, 66]] [[65, 66]] = some true := by
    rw [sameTexts_ok (by omega) (by simp [maxLen_lt])]
    rfl
  unfold awF at h1 h2
  simp only [law24_Awake, h1, Option.bind_some, h2, h3]
  rfl
theorem large_ok {k : Nat} (hk : maxLen + 3 ≤ k) {f : T_api_Form} (hw : wf_T_api_Form f) : ∃ b, law24_Large k f = some b := by
  obtain ⟨k, rfl, hq⟩ := succ_of hk
  simp only [law24_Large]
  have h2 : ∃ b, law24_Large_L2 f (fun y13 => some false) k 0 = some b := by
    refine ⟨bif anyB (at' f.fFields (fun s => decide ((s.fName.length : Int) > 100))) f.fFields.length then true else false, ?_⟩
    refine Eq.trans (anyLoop (n := f.fFields.length) (L := fun m x => law24_Large_L2 f (fun y13 => some false) m x) (body := fun x10 => ((idx f.fFields x10).bind fun v11 => (some ((decide ((v11.fName.length : Int) > 100)))))) (K := fun _ => some false) (r := some true) (z := some false) (g := at' f.fFields (fun s => decide ((s.fName.length : Int) > 100)))
      (fun m x => rfl) (fun i hi _ => by rw [at'_eq hi, idx_at hi]; rfl) (fun _ => rfl) hw.2.2.2.1.1 (m := k) (by have := hw.2.2.2.1.1; omega)) ?_
    cases anyB (at' f.fFields (fun s => decide ((s.fName.length : Int) > 100))) f.fFields.length <;> rfl
  obtain ⟨b2, h2⟩ := h2
  have h1 : ∃ b, law24_Large_L1 f (fun y7 => law24_Large_L2 f (fun y13 => some false) k 0) k 0 = some b := by
    refine ⟨bif anyB (at' f.fMarks (fun s => decide ((s.fText.length : Int) > 100))) f.fMarks.length then true else b2, ?_⟩
    refine Eq.trans (anyLoop (n := f.fMarks.length) (L := fun m x => law24_Large_L1 f (fun y7 => law24_Large_L2 f (fun y13 => some false) k 0) m x) (body := fun x10 => ((idx f.fMarks x10).bind fun v11 => (some ((decide ((v11.fText.length : Int) > 100)))))) (K := fun _ => law24_Large_L2 f (fun y13 => some false) k 0) (r := some true) (z := some b2) (g := at' f.fMarks (fun s => decide ((s.fText.length : Int) > 100)))
      (fun m x => rfl) (fun i hi _ => by rw [at'_eq hi, idx_at hi]; rfl) (fun _ => h2) hw.2.2.1.1 (m := k) (by have := hw.2.2.1.1; omega)) ?_
    cases anyB (at' f.fMarks (fun s => decide ((s.fText.length : Int) > 100))) f.fMarks.length <;> rfl
  obtain ⟨b1, h1⟩ := h1
  rw [h1]
  cases decide ((f.fMarks.length : Int) > 20) <;> cases decide ((f.fFields.length : Int) > 20) <;> exact ⟨_, rfl⟩
theorem long_ok {k : Nat} (hk : maxLen + 3 ≤ k) {l : List Str} (hw : wfL wfS l) : ∃ b, law24_Long k l = some b := by
  obtain ⟨k, rfl, hq⟩ := succ_of hk
  simp only [law24_Long]
  refine ⟨bif anyB (at' l (fun s => decide ((s.length : Int) > 300))) l.length then true else decide ((l.length : Int) > 20), ?_⟩
  refine Eq.trans (anyLoop (n := l.length) (L := fun m x => law24_Long_L1 l (fun y6 => some (decide ((l.length : Int) > 20))) m x) (body := fun x3 => ((idx l x3).bind fun v4 => (some ((decide ((v4.length : Int) > 300)))))) (K := fun _ => some (decide ((l.length : Int) > 20))) (r := some true) (z := some (decide ((l.length : Int) > 20))) (g := at' l (fun s => decide ((s.length : Int) > 300)))
    (fun m x => rfl) (fun i hi _ => by rw [at'_eq hi, idx_at hi]; rfl) (fun _ => rfl) hw.1 (m := k) (by have := hw.1; omega)) ?_
  cases anyB (at' l (fun s => decide ((s.length : Int) > 300))) l.length <;> rfl
end Go.Sh

namespace Go.Sh
open Go.AE
set_option linter.unusedVariables false
set_option linter.unusedSimpArgs false
def Cov (x : T_screen_part) (i k : Nat) : Prop := x.frow = (i : Int) ∧ x.fcolumn ≤ (k : Int) ∧ (k : Int) < x.fcolumn + x.fn
theorem Cov.meets {x y : T_screen_part} {i k : Nat} (hx : Cov x i k) (hy : Cov y i k) : Meets x y := by
  obtain ⟨a1, a2, a3⟩ := hx
  obtain ⟨b1, b2, b3⟩ := hy
  exact ⟨by omega, by omega, by omega⟩
theorem cell_lay {f : T_api_Form} {p : List Str} (hp : SizedF f p) {x : T_screen_part} {s : Str} (hx : InF f x) (hs : (s.length : Int) = x.fn) (i k : Nat) :
    cellL (layP p x s) i k = if i = x.frow.toNat ∧ x.fcolumn.toNat ≤ k ∧ k < x.fcolumn.toNat + s.length then s[k - x.fcolumn.toNat]? else cellL p i k := by
  obtain ⟨a1, a2, a3, a5, a6⟩ := hx
  exact cell_laid hp (by omega) (by omega) i k
theorem cell_in {f : T_api_Form} {p : List Str} (hp : SizedF f p) {x : T_screen_part} {s : Str} (hx : InF f x) (hs : (s.length : Int) = x.fn) {i k : Nat} (hc : Cov x i k) : cellL (layP p x s) i k = s[k - x.fcolumn.toNat]? := by
  obtain ⟨c1, c2, c3⟩ := hc
  obtain ⟨a1, a2, a3, a5, a6⟩ := id hx
  rw [cell_lay hp hx hs, if_pos ⟨by omega, by omega, by omega⟩]
theorem cell_out {f : T_api_Form} {p : List Str} (hp : SizedF f p) {x : T_screen_part} {s : Str} (hx : InF f x) (hs : (s.length : Int) = x.fn) {i k : Nat} (hc : ¬ Cov x i k) : cellL (layP p x s) i k = cellL p i k := by
  obtain ⟨a1, a2, a3, a5, a6⟩ := id hx
  rw [cell_lay hp hx hs, if_neg (fun h => hc ⟨by omega, by omega, by omega⟩)]
section
variable {α : Type} {f : T_api_Form} (g : α → T_screen_part) (t : α → Str)
theorem cell_fold_out : ∀ (l : List α) (p : List Str), SizedF f p → (∀ a ∈ l, InF f (g a) ∧ ((t a).length : Int) = (g a).fn) → ∀ {i k : Nat}, (∀ a ∈ l, ¬ Cov (g a) i k) → cellL (l.foldl (fun p a => layP p (g a) (t a)) p) i k = cellL p i k
  | [], p, _, _, _, _, _ => rfl
  | a :: l, p, hp, ha, i, k, hc => by
    obtain ⟨h1, h2⟩ := ha a (List.mem_cons_self ..)
    rw [List.foldl_cons, cell_fold_out l _ (hp.lay h1 h2) (fun b hb => ha b (List.mem_cons_of_mem _ hb)) (fun b hb => hc b (List.mem_cons_of_mem _ hb)), cell_out hp h1 h2 (hc a (List.mem_cons_self ..))]
theorem cell_fold_in : ∀ (l : List α) (p : List Str), SizedF f p → (∀ a ∈ l, InF f (g a) ∧ ((t a).length : Int) = (g a).fn) → l.Pairwise (fun x y => ¬ Meets (g y) (g x)) → ∀ {i k : Nat} {a : α}, a ∈ l → Cov (g a) i k → cellL (l.foldl (fun p a => layP p (g a) (t a)) p) i k = (t a)[k - (g a).fcolumn.toNat]?
  | [], p, _, _, _, _, _, a, ha, _ => by cases ha
  | b :: l, p, hp, hb, hw, i, k, a, ha, hc => by
    obtain ⟨h1, h2⟩ := hb b (List.mem_cons_self ..)
    rw [List.pairwise_cons] at hw
    rw [List.foldl_cons]
    rcases List.mem_cons.1 ha with rfl | ha
    · rw [cell_fold_out g t l _ (hp.lay h1 h2) (fun b hb' => hb b (List.mem_cons_of_mem _ hb')) (fun b hb' hcb => hw.1 b hb' (hcb.meets hc)), cell_in hp h1 h2 hc]
    · exact cell_fold_in l _ (hp.lay h1 h2) (fun b hb' => hb b (List.mem_cons_of_mem _ hb')) hw.2 ha hc
end
theorem OkForm.fields_pair {f : T_api_Form} (h : OkForm f) : f.fFields.Pairwise (fun x y => ¬ Meets (partF y) (partF x)) := by
  have := h.pt
  unfold partsF at this
  rw [List.pairwise_append, List.pairwise_map, List.pairwise_map] at this
  exact this.2.1
theorem fields_fit {f : T_api_Form} (h : OkForm f) (l : List Str) : ∀ s ∈ f.fFields, InF f (partF s) ∧ ((fldT s l).length : Int) = (partF s).fn := fun s hs => ⟨(h.fd s hs).2, length_fldT h hs l⟩
def covB (i k : Int) (s : T_api_Slot) : Bool := (s.fRow == i) && (decide (s.fColumn ≤ k) && decide (k < Go.IntKind.wrap .i64 (s.fColumn + s.fBytes)))
theorem covB_iff {f : T_api_Form} (h : OkForm f) {s : T_api_Slot} (hs : s ∈ f.fFields) {i k : Nat} : covB i k s = true ↔ Cov (partF s) i k := by
  obtain ⟨_, a1, a2, a3, a5, a6⟩ := h.fd s hs
  simp only [partF] at a1 a2 a3 a5 a6
  have := h.c2
  unfold covB Cov
  rw [wrap_in (by omega) (by omega)]
  simp only [Bool.and_eq_true, beq_iff_eq, decide_eq_true_eq, partF]
def wantL (f : T_api_Form) (p : List Str) : List Str := f.fFields.foldl (fun w s => layP w (partF s) (cutF p s)) (showL f (List.replicate (lensF f).2.toNat []))
theorem cut_fit {f : T_api_Form} (h : OkForm f) {p : List Str} (hp : SizedF f p) : ∀ s ∈ f.fFields, InF f (partF s) ∧ ((cutF p s).length : Int) = (partF s).fn := fun s hs => ⟨(h.fd s hs).2, (cutF_ok h hp hs).2⟩
theorem sized_want {f : T_api_Form} (h : OkForm f) {p : List Str} (hp : SizedF f p) : SizedF f (wantL f p) :=
  fold_sized partF (fun s => cutF p s) f.fFields _ (sized_show h _) (cut_fit h hp)
def diffB (f : T_api_Form) (p : List Str) (i k : Nat) : Bool := (!f.fFields.any (covB i k)) && decide (cellL p i k ≠ cellL (markedL f) i k)
def picB (f : T_api_Form) (p : List Str) : Bool := !anyB (fun i => anyB (diffB f p i) f.fColumns.toNat) f.fRows.toNat
theorem cell_show_out {f : T_api_Form} (h : OkForm f) (l : List Str) {i k : Nat} (hc : f.fFields.any (covB i k) = false) : cellL (showL f l) i k = cellL (markedL f) i k := by
  refine cell_fold_out partF (fun s => fldT s l) f.fFields _ (sized_marked h) (fields_fit h l) (fun s hs hcv => ?_)
  rw [List.any_eq_false] at hc
  exact hc s hs ((covB_iff h hs).2 hcv)
theorem cell_cut {f : T_api_Form} (h : OkForm f) {p : List Str} (hp : SizedF f p) {s : T_api_Slot} (hs : s ∈ f.fFields) {i k : Nat} (hc : Cov (partF s) i k) : (cutF p s)[k - (partF s).fcolumn.toNat]? = cellL p i k := by
  obtain ⟨_, a1, a2, a3, a5, a6⟩ := h.fd s hs
  obtain ⟨c1, c2, c3⟩ := hc
  simp only [partF] at a1 a2 a3 a5 a6 c1 c2 c3 ⊢
  obtain ⟨r, hr1, hr2⟩ := Sized.get hp (i := i) (by omega)
  have hi : s.fRow.toNat = i := by omega
  unfold cutF cellL
  rw [hi, List.getD_eq_getElem?_getD, hr1]
  simp only [Option.getD_some, Option.bind_some]
  rw [List.getElem?_drop, List.getElem?_take, if_pos (by omega)]
  congr 1
  omega
theorem want_iff {f : T_api_Form} (h : OkForm f) {p : List Str} (hp : SizedF f p) : wantL f p = p ↔ picB f p = true := by
  have hcell : ∀ i k, i < f.fRows.toNat → k < f.fColumns.toNat → (cellL (wantL f p) i k = cellL p i k ↔ diffB f p i k = false) := by
    intro i k hi hk
    unfold diffB
    cases hc : f.fFields.any (covB i k) with
    | true =>
      obtain ⟨s, hs, hcv⟩ := List.any_eq_true.1 hc
      have hcv := (covB_iff h hs).1 hcv
      have h1 := cell_fold_in partF (fun s => cutF p s) f.fFields _ (sized_show h (List.replicate (lensF f).2.toNat [])) (cut_fit h hp) h.fields_pair hs hcv
      have h2 := cell_cut h hp hs hcv
      unfold wantL
      rw [h1, h2]
      simp
    | false =>
      have h1 := cell_fold_out partF (fun s => cutF p s) f.fFields _ (sized_show h (List.replicate (lensF f).2.toNat [])) (cut_fit h hp) (i := i) (k := k) (fun s hs hcv => by
        rw [List.any_eq_false] at hc
        exact hc s hs ((covB_iff h hs).2 hcv))
      unfold wantL
      rw [h1, cell_show_out h _ hc]
      simp only [Bool.not_false, Bool.true_and, decide_eq_false_iff_not, ne_eq, Decidable.not_not]
      exact eq_comm
  unfold picB
  rw [Bool.not_eq_true', anyB_false]
  constructor
  · intro e i hi
    rw [anyB_false]
    intro k hk
    rw [← hcell i k hi hk, e]
  · intro hd
    refine Sized.ext (sized_want h hp) hp (fun i k hi hk => ?_)
    rw [hcell i k hi hk]
    exact anyB_false.1 (hd i hi) k hk
def IsPicS (f : T_api_Form) (p : List Str) : Bool × Int := bif okF f then (bif sizedB f p then (picB f p, 0) else (false, 0)) else (false, 220)
theorem equal_string_ok {k : Nat} {a b : List Str} (hk : maxLen + 2 ≤ k) (ha : a.length ≤ maxLen) : slices_Equal_string k a b = some (decide (a = b)) := by
  have : ∀ (K : Int → Option Bool) m x, slices_Equal_string_L1 a b K m x = ref01_SameTexts_L1 a b K m x := by
    intro K m
    induction m with
    | zero => intro x; rfl
    | succ m ih => intro x; simp only [slices_Equal_string_L1, ref01_SameTexts_L1, ih]
  rw [← sameTexts_ok (b := b) hk ha]
  cases k with
  | zero => rfl
  | succ k => simp only [slices_Equal_string, ref01_SameTexts, this]
theorem sized_len {f : T_api_Form} (h : OkForm f) {p : List Str} (hp : SizedF f p) : p.length ≤ maxLen := by
  have := hp.1; have := h.r2; have := maxLen_lt; omega
theorem screen_IsPicture_ok {k : Nat} (hk : maxLen + 26 ≤ k) {f : T_api_Form} (hw : wf_T_api_Form f) {p : List Str} (hp : wfL wfS p) : screen_IsPicture k f p = some (IsPicS f p) := by
  obtain ⟨k, rfl, hq⟩ := succ_of hk
  have hmm := maxLen_lt
  simp only [screen_IsPicture, screen_Valid_ok (show maxLen + 20 ≤ k by omega) hw, screen_fits_ok (show maxLen + 10 ≤ k by omega) hp, Option.bind_some, IsPicS]
  cases ho : okF f with
  | false => rfl
  | true =>
    cases hs : sizedB f p with
    | false => rfl
    | true =>
      have h := okF_form ho
      obtain ⟨hf, hm⟩ := fields_len h
      obtain ⟨_, _, l1, l2, _⟩ := h.lens
      have hsz := (sizedB_sized hs).1
      simp only [cond_true, Bool.not_true, cond_false, screen_lengths_ok (show maxLen + 2 ≤ k by omega) (wf_fields hw), Option.bind_some, mkN_ok ([] : Str) l1 (by omega), screen_show_ok (show maxLen + 4 ≤ k by omega) h (l := List.replicate (lensF f).2.toNat []) (by simp; omega)]
      refine Eq.trans (foldLoop (l := f.fFields) (L := fun m i (s : List Str) => screen_IsPicture_L1 k f p _ m s i) (stp := fun w s => layP w (partF s) (cutF p s)) (K := fun s => ((slices_Equal_string k s p).bind fun v26 => (some (v26, 0))).bind fun o27 => some (o27.1, o27.2)) (fun _ p => SizedF f p) ?_ ?_ (m := k) (by omega) (s0 := showL f (List.replicate (lensF f).2.toNat [])) (sized_show h _)).1 ?_
      · intro m i hi s hss
        have hmem := List.getElem_mem hi
        obtain ⟨c1, c2⟩ := cutF_ok h hsz hmem
        have hlay := lays_ok h hss (h.fd _ hmem).2 (s := cutF p f.fFields[i]) c2 (show 3 ≤ k by omega)
        refine ⟨?_, hss.lay (h.fd _ hmem).2 c2⟩
        simp only [screen_IsPicture_L1, lt_dec hi, cond_true, idx_at hi, Option.bind_some, wrap_next hi hf]
        simp only [partF] at hlay
        rw [← Option.bind_assoc, c1, Option.bind_some, hlay]
        rfl
      · intro m s hss
        simp only [screen_IsPicture_L1, lt_self, cond_false]
      · have e : List.foldl (fun w s => layP w (partF s) (cutF p s)) (showL f (List.replicate (lensF f).2.toNat [])) f.fFields = wantL f p := rfl
        rw [e, equal_string_ok (by omega) (sized_len h (sized_want h hsz))]
        have : decide (wantL f p = p) = picB f p := by
          rw [Bool.eq_iff_iff, decide_eq_true_iff]
          exact want_iff h hsz
        rw [this]
        rfl
end Go.Sh

namespace Go.Sh
open Go.AE
set_option linter.unusedVariables false
set_option linter.unusedSimpArgs false
theorem textOk_append {a b : Str} : textOk (a ++ b) = (textOk a && textOk b) := by unfold textOk; rw [List.all_append]
theorem textOk_take {a : Str} (n : Nat) (h : textOk a = true) : textOk (a.take n) = true := by
  unfold textOk at *
  rw [List.all_eq_true] at *
  exact fun x hx => h x (List.mem_of_mem_take hx)
theorem textOk_drop {a : Str} (n : Nat) (h : textOk a = true) : textOk (a.drop n) = true := by
  unfold textOk at *
  rw [List.all_eq_true] at *
  exact fun x hx => h x (List.mem_of_mem_drop hx)
theorem textOk_replicate {c : UInt8} (n : Nat) (h : byteOk c = true) : textOk (List.replicate n c) = true := by
  unfold textOk
  rw [List.all_eq_true]
  intro x hx
  rw [List.eq_of_mem_replicate hx]
  exact h
def AllText (p : List Str) : Prop := ∀ r ∈ p, textOk r = true
theorem allText_lay {p : List Str} (hp : AllText p) (x : T_screen_part) {s : Str} (hs : textOk s = true) : AllText (layP p x s) := by
  unfold layP laidL
  cases hr : p[x.frow.toNat]? with
  | none => exact hp
  | some r =>
    intro q hq
    rcases List.mem_or_eq_of_mem_set hq with hq | rfl
    · exact hp q hq
    · unfold layR
      have := hp r (List.mem_of_getElem? hr)
      simp only [textOk_append, textOk_take _ this, textOk_drop _ this, hs, Bool.and_self]
theorem allText_fold {α : Type} (g : α → T_screen_part) (t : α → Str) : ∀ (l : List α) (p : List Str), AllText p → (∀ a ∈ l, textOk (t a) = true) → AllText (l.foldl (fun p a => layP p (g a) (t a)) p)
  | [], p, h, _ => h
  | a :: l, p, h, ha => allText_fold g t l _ (allText_lay h _ (ha a (List.mem_cons_self ..))) (fun b hb => ha b (List.mem_cons_of_mem _ hb))
theorem fillC_ok {s : T_api_Slot} (h : slotB s = true) : byteOk (fillC s) = true := by
  obtain ⟨_, _, _, h1, h2⟩ := slotB_in h
  unfold byteOk fillC
  simp only [Bool.and_eq_true, decide_eq_true_eq]
  rw [UInt8.toNat_ofNat', Nat.mod_eq_of_lt (by omega)]
  omega
theorem allText_show {f : T_api_Form} (h : OkForm f) {l : List Str} (hl : AllText l) : AllText (showL f l) := by
  refine allText_fold partF (fun s => fldT s l) f.fFields _ (allText_fold partM (fun m => m.fText) f.fMarks _ ?_ (fun m hm => (h.mark m hm).1)) (fun s hs => ?_)
  · intro r hr
    unfold baseL at hr
    rw [List.eq_of_mem_replicate hr]
    exact textOk_replicate _ (by decide)
  · unfold fldT fillL textOf
    rw [textOk_append]
    have hx : textOk (if 0 ≤ s.fOut then l.getD s.fOut.toNat [] else []) = true := by
      split
      · rw [List.getD_eq_getElem?_getD]
        cases hq : l[s.fOut.toNat]? with
        | none => rfl
        | some q => exact hl q (List.mem_of_getElem? hq)
      · rfl
    rw [textOk_take _ hx, textOk_replicate _ (fillC_ok (h.fd s hs).1)]
    rfl
theorem isPic_show {f : T_api_Form} (ho : okF f = true) {l : List Str} (hl : AllText l) : IsPicS f (showL f l) = (true, 0) := by
  have h := okF_form ho
  have hsz := sized_show h l
  have hsb : sizedB f (showL f l) = true := by
    unfold sizedB
    have := h.r1; have := h.c1
    simp only [Bool.and_eq_true, beq_iff_eq, Bool.not_eq_true', List.any_eq_false]
    refine ⟨by have := hsz.1; omega, fun r hr => ?_⟩
    have h1 := hsz.2 r hr
    unfold badR
    rw [allText_show h hl r hr]
    simp
    omega
  have hpb : picB f (showL f l) = true := by
    unfold picB
    rw [Bool.not_eq_true', anyB_false]
    intro i hi
    rw [anyB_false]
    intro k hk
    unfold diffB
    cases hc : f.fFields.any (covB i k) with
    | true => rfl
    | false => simp [cell_show_out h l hc]
  unfold IsPicS
  rw [ho, hsb, hpb]
  rfl
def pagesF (f : T_api_Form) (l : List Str) (n : Nat) : Nat → Str → List (List Str)
  | 0, _ => []
  | d + 1, s => showL f (s.take n :: l.drop 1) :: (if s.drop n = [] then [] else pagesF f l n d (s.drop n))
theorem pages_all {f : T_api_Form} {l : List Str} (hl : AllText l) {n : Nat} : ∀ (d : Nat) (s : Str), textOk s = true → ∀ pg ∈ pagesF f l n d s, ∃ m, pg = showL f m ∧ AllText m
  | 0, _, _, pg, h => by cases h
  | d + 1, s, hs, pg, h => by
    unfold pagesF at h
    rcases List.mem_cons.1 h with rfl | h
    · refine ⟨_, rfl, fun t ht => ?_⟩
      rcases List.mem_cons.1 ht with rfl | ht
      · exact textOk_take n hs
      · exact hl t (List.mem_of_mem_drop ht)
    · split at h
      · cases h
      · exact pages_all hl d _ (textOk_drop n hs) pg h
theorem pages_len (f : T_api_Form) (l : List Str) (n : Nat) : ∀ (d : Nat) (s : Str), (pagesF f l n d s).length ≤ d
  | 0, _ => Nat.le_refl _
  | d + 1, s => by
    unfold pagesF
    split
    · simp
    · simp only [List.length_cons]
      have := pages_len f l n d (s.drop n)
      omega
section
variable {k : Nat} {f : T_api_Form} {l : List Str} {n : Nat}
theorem piece_len (hl : (l.length : Int) = (lensF f).2) (h0 : l ≠ []) (s : Str) : (((s.take n :: l.drop 1) : List Str).length : Int) = (lensF f).2 := by
  rw [← hl]
  cases l with
  | nil => exact absurd rfl h0
  | cons a l => simp
theorem set0 (h0 : l ≠ []) (x : Str) : l.set (0 + (0 : Int).toNat) x = x :: l.drop 1 := by
  cases l with
  | nil => exact absurd rfl h0
  | cons a l => rfl
theorem min_take (s : Str) (n : Nat) : cut s 0 (if (s.length : Int) < (n : Int) then (s.length : Int) else (n : Int)) = some (s.take n) := by
  split
  · rw [cut_take (Nat.le_refl _), List.take_of_length_le (Nat.le_refl _), List.take_of_length_le (by omega)]
  · rw [cut_take (by omega)]
theorem min_take2 (s : Str) (n : Nat) : cut s 0 (if (n : Int) < (s.length : Int) then (n : Int) else (s.length : Int)) = some (s.take n) := by
  split
  · rw [cut_take (by omega)]
  · rw [cut_take (Nat.le_refl _), List.take_of_length_le (Nat.le_refl _), List.take_of_length_le (by omega)]
theorem cut_rest (s : Str) (n : Nat) : cut s ((s.take n).length : Int) (s.length : Int) = some (s.drop n) := by
  rw [cut_in (by simp; omega) (Nat.le_refl _), List.take_of_length_le (Nat.le_refl _), List.length_take]
  congr 1
  by_cases h : n ≤ s.length
  · rw [Nat.min_eq_left h]
  · rw [Nat.min_eq_right (by omega), List.drop_of_length_le (Nat.le_refl _), List.drop_of_length_le (by omega)]
theorem cut_rest2 (s : Str) (n : Nat) : cut s (if (n : Int) < (s.length : Int) then (n : Int) else (s.length : Int)) (s.length : Int) = some (s.drop n) := by
  rw [← cut_rest]
  congr 1
  rw [List.length_take]
  split <;> omega
theorem screen_Pages_loop (hk : maxLen + 4 ≤ k) (h : OkForm f) (hl : (l.length : Int) = (lensF f).2) (h0 : l ≠ []) (hn : 1 ≤ n) : ∀ (d : Nat) (s : Str) (pg : List (List Str)) (m : Nat), s.length ≤ d → d + 1 < m → (pg = [] ∨ s ≠ []) → pg.length + d + 1 ≤ 1000 →
    screen_Pages_L1 k f l (n : Int) (fun y39 y40 => some (y39, 0)) m pg s = some (pg ++ pagesF f l n (d + 1) s, 0) := by
  intro d
  induction d with
  | zero =>
    intro s pg m hs hm hp hb
    obtain ⟨m, rfl⟩ : ∃ q, m = q + 1 := ⟨m - 1, by omega⟩
    obtain ⟨m, rfl⟩ : ∃ q, m = q + 1 := ⟨m - 1, by omega⟩
    obtain rfl := List.eq_nil_of_length_eq_zero (show s.length = 0 by omega)
    rcases hp with rfl | hp
    · have hll : 1 ≤ l.length := by cases l with | nil => exact absurd rfl h0 | cons a l => simp
      have hl12 : l.length ≤ 4 := by obtain ⟨_, _, _, l2, _⟩ := h.lens; omega
      have hB : ∀ q, 1 ≤ q → inB q 0 = some () := fun q hq => by unfold inB; rw [if_pos ⟨by omega, by omega⟩]
      have hg : l[0 + (0 : Int).toNat]? = some (l[0]'(by omega)) := by simp [List.getElem?_eq_getElem]
      have e1 := min_take [] n
      have e2 := cut_rest [] n
      simp only [List.length_nil] at e1 e2
      have hsh := screen_show_ok hk h (piece_len (n := n) hl h0 [])
      have hg2 : (([] : Str).take n :: l.drop 1)[0 + (0 : Int).toNat]? = some (([] : Str).take n) := rfl
      simp only [screen_Pages_L1, List.length_nil, show (((0 : Nat) : Int) == 0) = true by decide, cond_true, Option.bind_some, clone_string_ok (show 2 ≤ k by have := maxLen_lt; omega) h0 (by unfold maxList; omega), e1, hB _ hll, hg, set0 h0, hB ((([] : Str).take n :: l.drop 1).length) (by simp), hg2, e2, hsh, app_ok (show ([] : List (List Str)).length + [showL f (([] : Str).take n :: l.drop 1)].length ≤ maxList by simp [maxList])]
      simp [pagesF]
    · exact absurd rfl hp
  | succ d ih =>
    intro s pg m hs hm hp hb
    obtain ⟨m, rfl⟩ : ∃ q, m = q + 1 := ⟨m - 1, by omega⟩
    have hll : 1 ≤ l.length := by cases l with | nil => exact absurd rfl h0 | cons a l => simp
    have hl12 : l.length ≤ 4 := by obtain ⟨_, _, _, l2, _⟩ := h.lens; omega
    have hB : ∀ q, 1 ≤ q → inB q 0 = some () := fun q hq => by unfold inB; rw [if_pos ⟨by omega, by omega⟩]
    have hg : l[0 + (0 : Int).toNat]? = some (l[0]'(by omega)) := by simp [List.getElem?_eq_getElem]
    have hsh := screen_show_ok hk h (piece_len (n := n) hl h0 s)
    have hg2 : (s.take n :: l.drop 1)[0 + (0 : Int).toNat]? = some (s.take n) := rfl
    have hgo : (bif ((pg.length : Int) == 0) then (some (true)) else (some ((!(s == ([] : Str)))))) = some true := by
      rcases hp with rfl | hp
      · rfl
      · have : (s == ([] : Str)) = false := by simpa using hp
        rw [this]
        cases ((pg.length : Int) == 0) <;> rfl
    simp only [screen_Pages_L1, hgo, cond_true, Option.bind_some, clone_string_ok (show 2 ≤ k by have := maxLen_lt; omega) h0 (by unfold maxList; omega), min_take, hB _ hll, hg, set0 h0, hB ((s.take n :: l.drop 1).length) (by simp), hg2, cut_rest, hsh, app_ok (show pg.length + [showL f (s.take n :: l.drop 1)].length ≤ maxList by simp [maxList]; omega)]
    by_cases he : s.drop n = []
    · obtain ⟨m, rfl⟩ : ∃ q, m = q + 1 := ⟨m - 1, by omega⟩
      rw [he]
      have : (((pg ++ [showL f (s.take n :: l.drop 1)]).length : Int) == 0) = false := by simp; omega
      simp only [screen_Pages_L1, this, cond_false]
      unfold pagesF
      rw [if_pos he]
      simp
    · have hlen : (s.drop n).length ≤ d := by simp; omega
      rw [ih (s.drop n) _ m hlen (by omega) (.inr he) (by simp; omega)]
      conv => rhs; unfold pagesF
      rw [if_neg he]
      simp
theorem ref24_Pages_loop (hk : maxLen + 6 ≤ k) (h : OkForm f) (hl : (l.length : Int) = (lensF f).2) (h0 : l ≠ []) (hn : 1 ≤ n) {y : Int} {x : T_api_Slot} (hy : idx f.fFields y = some x) (hx : x.fBytes = (n : Int)) : ∀ (d : Nat) (s : Str) (pg : List (List Str)) (m : Nat), s.length ≤ d → d < m → pg.length + d + 1 ≤ 1000 →
    ref24_Pages_L2 k f l y m s pg = some (pg ++ pagesF f l n (d + 1) s, 0) := by
  have hll : 1 ≤ l.length := by cases l with | nil => exact absurd rfl h0 | cons a l => simp
  have hl12 : l.length ≤ 4 := by obtain ⟨_, _, _, l2, _⟩ := h.lens; omega
  have hc1 : cut l 1 (l.length : Int) = some (l.drop 1) := by
    have := cut_in (l := l) (a := 1) (b := l.length) hll (Nat.le_refl _)
    rw [List.take_of_length_le (Nat.le_refl _)] at this
    exact this
  intro d
  induction d with
  | zero =>
    intro s pg m hs hm hb
    obtain ⟨m, rfl⟩ : ∃ q, m = q + 1 := ⟨m - 1, by omega⟩
    obtain rfl := List.eq_nil_of_length_eq_zero (show s.length = 0 by omega)
    have hsh := ref24_show_ok hk h (piece_len (n := n) hl h0 [])
    have e1 := min_take2 [] n
    have e2 := cut_rest2 [] n
    simp only [ref24_Pages_L2, hy, Option.bind_some, hx, e1, hc1, app_ok (show [([] : Str).take n].length + (l.drop 1).length ≤ maxList by simp [maxList]; omega), List.singleton_append, hsh, app_ok (show pg.length + [showL f (([] : Str).take n :: l.drop 1)].length ≤ maxList by simp [maxList]; omega), e2]
    simp [pagesF]
  | succ d ih =>
    intro s pg m hs hm hb
    obtain ⟨m, rfl⟩ : ∃ q, m = q + 1 := ⟨m - 1, by omega⟩
    have hsh := ref24_show_ok hk h (piece_len (n := n) hl h0 s)
    simp only [ref24_Pages_L2, hy, Option.bind_some, hx, min_take2, hc1, app_ok (show [s.take n].length + (l.drop 1).length ≤ maxList by simp [maxList]; omega), List.singleton_append, hsh, app_ok (show pg.length + [showL f (s.take n :: l.drop 1)].length ≤ maxList by simp [maxList]; omega), cut_rest2]
    by_cases he : s.drop n = []
    · rw [he]
      unfold pagesF
      rw [if_pos he]
      simp
    · have hlen : (s.drop n).length ≤ d := by simp; omega
      rw [show (s.drop n == ([] : Str)) = false by simpa using he, cond_false, ih (s.drop n) _ m hlen (by omega) (by simp; omega)]
      conv => rhs; unfold pagesF
      rw [if_neg he]
      simp
end
def isFirst (s : T_api_Slot) : Bool := s.fOut == 0
def firstP (f : T_api_Form) : Int := pos f.fFields isFirst
theorem indexFunc_Slot10 {k : Nat} {l : List T_api_Slot} {p : T_api_Slot → Bool} {f : Nat → T_api_Slot → Option Bool} (hk : l.length + 2 ≤ k) (hn : l.length ≤ maxLen) (hp : ∀ k', k' + 1 = k → ∀ x ∈ l, f k' x = some (p x)) : slices_IndexFunc_Slot_v10 k l f = some (pos l p) := by
  obtain ⟨k, rfl, hq⟩ := succ_of hk
  exact indexFunc_gen (hp k rfl) (L := fun m x => slices_IndexFunc_Slot_v10_L1 k l f _ m x) (fun m x => rfl) rfl hn (by omega)
def lastI (l : List T_api_Slot) : Nat → Int
  | 0 => -1
  | i + 1 => if at' l isFirst i = true then (i : Int) else lastI l i
theorem last_first {f : T_api_Form} (h : OkForm f) : lastI f.fFields f.fFields.length = firstP f := by
  have huniq : ∀ i j (hi : i < f.fFields.length) (hj : j < f.fFields.length), isFirst f.fFields[i] = true → isFirst f.fFields[j] = true → i = j := by
    intro i j hi hj h1 h2
    unfold isFirst at h1 h2
    simp only [beq_iff_eq] at h1 h2
    have hp := List.pairwise_iff_getElem.1 h.sl
    have key : ∀ a b (ha : a < f.fFields.length) (hb : b < f.fFields.length), f.fFields[a].fOut = 0 → f.fFields[b].fOut = 0 → ¬ a < b := by
      intro a b ha hb h3 h4 hab
      have := hp a b ha hb hab
      unfold clashB at this
      rw [h3, h4] at this
      simp at this
    have a1 := key i j hi hj h1 h2
    have a2 := key j i hj hi h2 h1
    omega
  unfold firstP
  rcases pos_cases f.fFields isFirst with ⟨h1, h2⟩ | ⟨j, hj, h1, _, h2⟩
  · rw [h2]
    have : ∀ n, n ≤ f.fFields.length → lastI f.fFields n = -1 := by
      intro n
      induction n with
      | zero => intro _; rfl
      | succ n ih =>
        intro hn
        unfold lastI
        rw [at'_eq (by omega), h1 n (by omega)]
        exact ih (by omega)
    exact this _ (Nat.le_refl _)
  · rw [h2]
    have : ∀ n, j < n → n ≤ f.fFields.length → lastI f.fFields n = (j : Int) := by
      intro n
      induction n with
      | zero => intro h; omega
      | succ n ih =>
        intro hjn hn
        unfold lastI
        rw [at'_eq (show n < f.fFields.length by omega)]
        by_cases e : isFirst f.fFields[n] = true
        · rw [if_pos e, huniq n j (by omega) hj e h1]
        · rw [if_neg e]
          have : n ≠ j := fun e2 => by subst e2; exact e h1
          exact ih (by omega) (by omega)
    exact this _ hj (Nat.le_refl _)
def PagesS (f : T_api_Form) (l : List Str) : List (List Str) × Int :=
  bif okF f then (bif msgOk f l then (bif decide (firstP f < 0) then ([], 2) else
    match f.fFields[(firstP f).toNat]?, l[0]? with
    | some x, some s => (pagesF f l x.fBytes.toNat (s.length + 1) s, 0)
    | _, _ => ([], 2)) else ([], 2)) else ([], 220)
theorem pages_first {f : T_api_Form} (h : OkForm f) {l : List Str} (hm : msgOk f l = true) (h0 : ¬ firstP f < 0) : ∃ j, ∃ hj : j < f.fFields.length, firstP f = (j : Int) ∧ ∃ s, l[0]? = some s ∧ l ≠ [] ∧ s.length ≤ 200 ∧ AllText l ∧ textOk s = true ∧ 1 ≤ f.fFields[j].fBytes := by
  rcases pos_cases f.fFields isFirst with ⟨_, h2⟩ | ⟨j, hj, h1, _, h2⟩
  · unfold firstP at h0
    rw [h2] at h0
    omega
  · refine ⟨j, hj, h2, ?_⟩
    obtain ⟨_, _, _, _, hh⟩ := h.lens
    have hout := (hh _ (List.getElem_mem hj)).2
    unfold isFirst at h1
    rw [beq_iff_eq] at h1
    have hlen := msg_len hm
    obtain ⟨_, a1, a2, a3, a5, a6⟩ := h.fd _ (List.getElem_mem hj)
    simp only [partF] at a5
    have hall : ∀ t ∈ l, badT t = false := by
      unfold msgOk at hm
      simp only [Bool.and_eq_true, Bool.not_eq_true', List.any_eq_false] at hm
      intro t ht
      simpa using hm.2 t ht
    cases l with
    | nil => simp at hlen; omega
    | cons s l =>
      have hs := hall s (List.mem_cons_self ..)
      unfold badT at hs
      simp only [Bool.or_eq_false_iff, decide_eq_false_iff_not, Bool.not_eq_false'] at hs
      refine ⟨s, rfl, by simp, by omega, fun t ht => ?_, hs.2, a5⟩
      have ht := hall t ht
      unfold badT at ht
      simp only [Bool.or_eq_false_iff, decide_eq_false_iff_not, Bool.not_eq_false'] at ht
      exact ht.2
theorem screen_Pages_ok {k : Nat} (hk : maxLen + 30 ≤ k) {f : T_api_Form} (hw : wf_T_api_Form f) {l : List Str} (hl : wfL wfS l) : screen_Pages k f l = some (PagesS f l) := by
  obtain ⟨k, rfl, hq⟩ := succ_of hk
  have hmm := maxLen_lt
  have hix : slices_IndexFunc_Slot_v10 k f.fFields (fun j x0 => screen_Pages_1 j x0) = some (firstP f) := indexFunc_Slot10 (by have := wf_fields hw; omega) (wf_fields hw) (fun k' e x hx => by
    obtain ⟨k', rfl, _⟩ := succ_of (c := 0) (show 0 + 1 ≤ k' by have := wf_fields hw; omega)
    rfl)
  simp only [screen_Pages, screen_shows_ok (show maxLen + 24 ≤ k by omega) hw hl, hix, Option.bind_some, PagesS]
  cases ho : okF f with
  | false => rfl
  | true =>
    cases hm : msgOk f l with
    | false => rfl
    | true =>
      have h := okF_form ho
      by_cases h0 : firstP f < 0
      · simp [h0]
      · obtain ⟨j, hj, e1, s, e2, e3, e4, e5, e6, e7⟩ := pages_first h hm h0
        have hl0 : idx l 0 = some s := by unfold idx; rw [if_pos (by omega)]; exact e2
        rw [e1, show decide ((j : Int) < 0) = false by simp]
        simp only [cond_true, show ((0 : Int) != 0) = false by decide, cond_false, idx_at hj, Option.bind_some, hl0, e2, Int.toNat_natCast, List.getElem?_eq_getElem hj]
        have := screen_Pages_loop (n := f.fFields[j].fBytes.toNat) (show maxLen + 4 ≤ k by omega) h (msg_len hm) e3 (by omega) s.length s [] k (Nat.le_refl _) (by omega) (.inl rfl) (by simp; omega)
        rw [show ((f.fFields[j].fBytes.toNat : Nat) : Int) = f.fFields[j].fBytes by omega] at this
        rw [this]
        rfl
theorem ref24_Pages_ok {k : Nat} (hk : maxLen + 30 ≤ k) {f : T_api_Form} (hw : wf_T_api_Form f) {l : List Str} (hl : wfL wfS l) : ref24_Pages k f l = some (PagesS f l) := by
  obtain ⟨k, rfl, hq⟩ := succ_of hk
  have hmm := maxLen_lt
  simp only [ref24_Pages, ref24_Valid_ok (show maxLen + 20 ≤ k by omega) hw, ref24_isMessage_ok (show maxLen + 24 ≤ k by omega) hw hl, Option.bind_some, PagesS]
  cases ho : okF f with
  | false => rfl
  | true =>
    cases hm : msgOk f l with
    | false => rfl
    | true =>
      have h := okF_form ho
      obtain ⟨hf, _⟩ := fields_len h
      simp only [cond_true, Bool.not_true, cond_false]
      refine Eq.trans (loopS (n := f.fFields.length) (L := fun m x (s : Int) => ref24_Pages_L1 f _ m s x) (σ := fun i => lastI f.fFields i) (g := fun _ => false) (r := fun _ => none) (z := bif decide (firstP f < 0) then some ([], 2) else ((idx l 0).bind fun o14 => ref24_Pages_L2 k f l (firstP f) k o14 [])) ?_ ?_ (m := k) (by omega) rfl) ?_
      · intro m i hi _
        simp only [ref24_Pages_L1, lt_dec hi, cond_true, idx_at hi, Option.bind_some, wrap_next hi hf, cond_false, lastI, at'_eq hi, isFirst]
        cases (f.fFields[i].fOut == 0) <;> rfl
      · intro m _
        simp only [ref24_Pages_L1, lt_self, cond_false, last_first h]
      · rw [scan_false _ _ (fun _ _ _ => rfl)]
        by_cases h0 : firstP f < 0
        · simp [h0]
        · obtain ⟨j, hj, e1, s, e2, e3, e4, e5, e6, e7⟩ := pages_first h hm h0
          have hl0 : idx l 0 = some s := by unfold idx; rw [if_pos (by omega)]; exact e2
          rw [e1, show decide ((j : Int) < 0) = false by simp]
          simp only [cond_false, hl0, Option.bind_some, e2, Int.toNat_natCast, List.getElem?_eq_getElem hj]
          rw [ref24_Pages_loop (n := f.fFields[j].fBytes.toNat) (show maxLen + 6 ≤ k by omega) h (msg_len hm) e3 (by omega) (idx_at hj) (by omega) s.length s [] k (Nat.le_refl _) (by omega) (by simp; omega)]
          rfl
theorem pagesS_cases {f : T_api_Form} {l : List Str} : (PagesS f l).1 = [] ∨ (okF f = true ∧ (PagesS f l).1.length ≤ 201 ∧ ∀ pg ∈ (PagesS f l).1, ∃ m, pg = showL f m ∧ AllText m) := by
  unfold PagesS
  cases ho : okF f with
  | false => exact .inl rfl
  | true =>
    cases hm : msgOk f l with
    | false => exact .inl rfl
    | true =>
      have h := okF_form ho
      by_cases h0 : firstP f < 0
      · left; simp [h0]
      · obtain ⟨j, hj, e1, s, e2, e3, e4, e5, e6, e7⟩ := pages_first h hm h0
        rw [e1, show decide ((j : Int) < 0) = false by simp]
        simp only [cond_true, cond_false, e2, Int.toNat_natCast, List.getElem?_eq_getElem hj]
        refine .inr ⟨trivial, ?_, fun pg hp => pages_all e5 _ _ e6 pg hp⟩
        have := pages_len f l f.fFields[j].fBytes.toNat (s.length + 1) s
        omega
theorem law_law24_ScreenPages (f : T_api_Form) (l : List Str) (hw : wf_T_api_Form f) (hl : wfL wfS l) : ∃ k, law24_ScreenPages k f l = some true := by
  refine ⟨maxLen + 40 + 1, ?_⟩
  obtain ⟨k, hk⟩ : ∃ k, k = maxLen + 40 := ⟨_, rfl⟩
  rw [← hk]
  have hmm := maxLen_lt
  obtain ⟨b1, e1⟩ := large_ok (k := k) (by omega) hw
  obtain ⟨b2, e2⟩ := long_ok (k := k) (by omega) hl
  simp only [law24_ScreenPages, e1, e2, Option.bind_some, awake_ok (show maxLen + 30 ≤ k by omega), screen_Pages_ok (show maxLen + 30 ≤ k by omega) hw hl, ref24_Pages_ok (show maxLen + 30 ≤ k by omega) hw hl, bne_self_eq_false, cond_false]
  have hloop : law24_ScreenPages_L1 k f ((PagesS f l).1, (PagesS f l).2) ((PagesS f l).1, (PagesS f l).2) (fun y28 => some true) k 0 = some true := by
    have hlen : (PagesS f l).1.length ≤ 201 := by
      rcases pagesS_cases (f := f) (l := l) with h | ⟨_, h, _⟩
      · rw [h]; simp
      · exact h
    refine Eq.trans (loop0 (L := fun m x => law24_ScreenPages_L1 k f ((PagesS f l).1, (PagesS f l).2) ((PagesS f l).1, (PagesS f l).2) (fun y28 => some true) m x) (n := (PagesS f l).1.length) (g := fun _ => false) (r := fun _ => none) (z := some true) ?_ ?_ (m := k) (by omega)) (scan_false _ _ (fun _ _ _ => rfl))
    · intro m i hi _
      rcases pagesS_cases (f := f) (l := l) with h | ⟨ho, _, h⟩
      · rw [h] at hi; simp at hi
      · obtain ⟨q, hq1, hq2⟩ := h _ (List.getElem_mem hi)
        have hsz := sized_show (okF_form ho) q
        have hwq : wfL wfS (showL f q) := by
          refine ⟨sized_len (okF_form ho) hsz, fun r hr => ?_⟩
          have := hsz.2 r hr
          have := (okF_form ho).c2
          exact wfS_small (by omega)
        simp only [law24_ScreenPages_L1, lt_dec hi, cond_true, idx_at hi, Option.bind_some, hq1, sameTexts_ok (show maxLen + 2 ≤ k by omega) hwq.1, screen_IsPicture_ok (show maxLen + 26 ≤ k by omega) hw hwq, isPic_show ho hq2, wrap_next hi (show (PagesS f l).1.length ≤ maxLen by omega)]
        simp
    · intro m _
      simp only [law24_ScreenPages_L1, lt_self, cond_false]
  rw [hloop]
  cases b1 <;> cases b2 <;> rfl
end Go.Sh

