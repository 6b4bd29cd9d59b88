/- The functions as functions on lists, and what they come to: no program in sight. Conditions: those that each theorem names. -/
import Derived.Test.YtnpeekncggidcaaA3
import Derived.IntWalk
namespace Go.Sh
open Go.AE (idx idxS cut cat app upTo inB sameLen revInt wfI wfS wfL wfT mkN repS repL joinS cmpB idxB quoI remE shlI shrI andI orI xorI catL)
set_option linter.unusedVariables false
abbrev Str := List UInt8
structure T_api_Field where
  fName : Str
  fAt : Int
  fBytes : Int
  deriving DecidableEq
structure T_api_Type where
  fName : Str
  fParent : Int
  fMin : Int
  fSize : Int
  fFields : (List T_api_Field)
  fKey : Int
  fUnique : Bool
  fLast : Bool
  deriving DecidableEq
structure T_api_Search where
  fName : Str
  fType : Int
  fField : Int
  fSparse : Str
  deriving DecidableEq
structure T_api_Base where
  fName : Str
  fKind : Int
  fTypes : (List T_api_Type)
  fIndexes : (List T_api_Search)
  deriving DecidableEq
structure T_api_Term where
  fField : Str
  fOp : Int
  fValue : Str
  deriving DecidableEq
structure T_api_Arg where
  fSegment : Str
  fCodes : Str
  fWhen : (List (List T_api_Term))
  deriving DecidableEq
structure T_arr6_Str where
  e0 : Str
  e1 : Str
  e2 : Str
  e3 : Str
  e4 : Str
  e5 : Str
  deriving DecidableEq
def wf_T_api_Field (a : T_api_Field) : Prop := wfS a.fName ∧ (wfI .i64) a.fAt ∧ (wfI .i64) a.fBytes ∧ wfT ()
def wf_T_api_Type (a : T_api_Type) : Prop := wfS a.fName ∧ (wfI .i64) a.fParent ∧ (wfI .i64) a.fMin ∧ (wfI .i64) a.fSize ∧ (wfL wf_T_api_Field) a.fFields ∧ (wfI .i64) a.fKey ∧ wfT a.fUnique ∧ wfT a.fLast ∧ wfT ()
def wf_T_api_Search (a : T_api_Search) : Prop := wfS a.fName ∧ (wfI .i64) a.fType ∧ (wfI .i64) a.fField ∧ wfS a.fSparse ∧ wfT ()
def wf_T_api_Base (a : T_api_Base) : Prop := wfS a.fName ∧ (wfI .i64) a.fKind ∧ (wfL wf_T_api_Type) a.fTypes ∧ (wfL wf_T_api_Search) a.fIndexes ∧ wfT ()
def wf_T_api_Term (a : T_api_Term) : Prop := wfS a.fField ∧ (wfI .i64) a.fOp ∧ wfS a.fValue ∧ wfT ()
def wf_T_api_Arg (a : T_api_Arg) : Prop := wfS a.fSegment ∧ wfS a.fCodes ∧ (wfL (wfL wf_T_api_Term)) a.fWhen ∧ wfT ()
def wf_T_arr6_Str (a : T_arr6_Str) : Prop := wfS a.e0 ∧ wfS a.e1 ∧ wfS a.e2 ∧ wfS a.e3 ∧ wfS a.e4 ∧ wfS a.e5 ∧ wfT ()
def law12_Large_L2 (a0 : T_api_Base) (x17 : Int)  (K0 : Int → Option Bool) : Nat → Int → Option Bool
  | 0, _ => none
  | m + 1, x26 =>
    (((idx a0.fTypes x17).bind fun v27 => (some ((decide (x26 < (v27.fFields.length : Int)))))).bind fun o28 =>
        (bif o28 then (((idx a0.fTypes x17).bind fun v29 => ((idx v29.fFields x26).bind fun v30 => (some ((decide ((v30.fName.length : Int) > 40)))))).bind fun o31 =>
          (bif o31 then (some true) else
          (law12_Large_L2 a0 x17 K0 m (Go.IntKind.wrap .i64 (x26 + 1))))) else
        (K0 x26)))
def law12_Large_L1 (k : Nat) (a0 : T_api_Base)  (K0 : Int → Option Bool) : Nat → Int → Option Bool
  | 0, _ => none
  | m + 1, x17 =>
    (bif (decide (x17 < (a0.fTypes.length : Int))) then (((idx a0.fTypes x17).bind fun v18 => (bif (decide ((v18.fFields.length : Int) > 20)) then (some (true)) else ((idx a0.fTypes x17).bind fun v19 => (some ((decide ((v19.fName.length : Int) > 40))))))).bind fun o20 =>
          (bif o20 then (some true) else
          (law12_Large_L2 a0 x17 (fun y32 =>
            (law12_Large_L1 k a0 K0 m (Go.IntKind.wrap .i64 (x17 + 1)))) k 0))) else
        (K0 x17))
def law12_Large_L3 (a0 : T_api_Base)  (K0 : Int → Option Bool) : Nat → Int → Option Bool
  | 0, _ => none
  | m + 1, x37 =>
    (bif (decide (x37 < (a0.fIndexes.length : Int))) then (((idx a0.fIndexes x37).bind fun v38 => (bif (decide ((v38.fName.length : Int) > 40)) then (some (true)) else ((idx a0.fIndexes x37).bind fun v39 => (some ((decide ((v39.fSparse.length : Int) > 40))))))).bind fun o40 =>
          (bif o40 then (some true) else
          (law12_Large_L3 a0 K0 m (Go.IntKind.wrap .i64 (x37 + 1))))) else
        (K0 x37))
def law12_Large : Nat → (T_api_Base) → Option Bool
  | 0, _ => none
  | k + 1, a0 =>
    ((bif (decide ((a0.fTypes.length : Int) > 20)) then (some (true)) else (bif (decide ((a0.fIndexes.length : Int) > 20)) then (some (true)) else (some ((decide ((a0.fName.length : Int) > 40)))))).bind fun o1 =>
      (bif o1 then (some true) else
      (law12_Large_L1 k a0 (fun y33 =>
        (law12_Large_L3 a0 (fun y41 =>
          (some false)) k 0)) k 0)))
def ref11_IsName_L1 (a0 : Str)  (K0 : Int → Option Bool) : Nat → Int → Option Bool
  | 0, _ => none
  | m + 1, x7 =>
    (bif (decide (x7 < (a0.length : Int))) then (((idxS a0 x7).bind fun v8 => (bif (decide (v8 ≥ 65)) then ((idxS a0 x7).bind fun v9 => (some ((decide (v9 ≤ 90))))) else (some (false)))).bind fun o10 =>
          ((bif (!o10) then (bif (x7 == 0) then (some (true)) else ((idxS a0 x7).bind fun v11 => (bif (decide (v11 < 48)) then (some (true)) else ((idxS a0 x7).bind fun v12 => (some ((decide (v12 > 57)))))))) else (some (false))).bind fun o13 =>
          (bif o13 then (some false) else
          (ref11_IsName_L1 a0 K0 m (Go.IntKind.wrap .i64 (x7 + 1)))))) else
        (K0 x7))
def ref11_IsName : Nat → (Str) → Option Bool
  | 0, _ => none
  | k + 1, a0 =>
    (ref11_IsName_L1 a0 (fun y14 =>
      ((bif (decide ((a0.length : Int) ≥ 1)) then (some ((decide ((a0.length : Int) ≤ 8)))) else (some (false))).bind fun o15 =>
        (some o15))) k 0)
def ref11_fields_L2 (a0 : T_api_Type) (x11 : Int) (o13 : T_api_Field)  (K0 : Int → Option Bool) : Nat → Int → Option Bool
  | 0, _ => none
  | m + 1, x18 =>
    (bif (decide (x18 < x11)) then (((idx a0.fFields x18).bind fun v19 => (some ((v19.fName == o13.fName)))).bind fun o20 =>
          (bif o20 then (some false) else
          (ref11_fields_L2 a0 x11 o13 K0 m (Go.IntKind.wrap .i64 (x18 + 1))))) else
        (K0 x18))
def ref11_fields_L1 (k : Nat) (a0 : T_api_Type)  (K0 : Int → Option Bool) : Nat → Int → Option Bool
  | 0, _ => none
  | m + 1, x11 =>
    (bif (decide (x11 < (a0.fFields.length : Int))) then ((idx a0.fFields x11).bind fun o13 =>
          (((ref11_IsName k o13.fName).bind fun v14 => (bif (!v14) then (some (true)) else (bif (decide (o13.fAt < 0)) then (some (true)) else (bif (decide (o13.fAt > a0.fSize)) then (some (true)) else (bif (decide (o13.fBytes < 1)) then (some (true)) else (some ((decide (o13.fBytes > (Go.IntKind.wrap .i64 (a0.fSize - o13.fAt))))))))))).bind fun o15 =>
          (bif o15 then (some false) else
          (ref11_fields_L2 a0 x11 o13 (fun y21 =>
            (ref11_fields_L1 k a0 K0 m (Go.IntKind.wrap .i64 (x11 + 1)))) k 0)))) else
        (K0 x11))
def ref11_fields : Nat → (T_api_Type) → Option Bool
  | 0, _ => none
  | k + 1, a0 =>
    (ref11_fields_L1 k a0 (fun y22 =>
      ((bif (decide (a0.fKey < (-1))) then (some (true)) else (bif (decide (a0.fKey ≥ (a0.fFields.length : Int))) then (some (true)) else (bif (decide (a0.fKey < 0)) then (some (a0.fUnique)) else (some (false))))).bind fun o23 =>
        (bif o23 then (some false) else
        ((bif (decide ((a0.fFields.length : Int) ≤ 5)) then (bif (decide (a0.fKey < 0)) then (some (true)) else ((idx a0.fFields a0.fKey).bind fun v24 => ((idx a0.fFields a0.fKey).bind fun v25 => (some ((decide ((Go.IntKind.wrap .i64 (v24.fAt + v25.fBytes)) ≤ a0.fMin))))))) else (some (false))).bind fun o26 =>
          (some o26))))) k 0)
def ref11_above_L1 (a0 : T_api_Base) (a1 : Int)  (K0 : Int → Option Bool) : Nat → Int → Option Bool
  | 0, _ => none
  | m + 1, x5 =>
    (bif (decide (x5 ≥ 0)) then (bif (x5 == a1) then (some true) else
          (((idx a0.fTypes x5).bind fun v6 => (some (v6.fParent))).bind fun o7 =>
            (ref11_above_L1 a0 a1 K0 m o7))) else
        (K0 x5))
def ref11_above : Nat → (T_api_Base) → (Int) → (Int) → Option Bool
  | 0, _, _, _ => none
  | k + 1, a0, a1, a2 =>
    (((idx a0.fTypes a2).bind fun v1 => (some (v1.fParent))).bind fun o2 =>
      (ref11_above_L1 a0 a1 (fun y8 =>
      (some false)) k o2))
def ref11_way_L1 (a0 : T_api_Base)  (K0 : Int → (List Int) → Option (List Int)) : Nat → Int → (List Int) → Option (List Int)
  | 0, _, _ => none
  | m + 1, x5, x6 =>
    (bif (decide (x5 ≥ 0)) then ((app ([x5] : List Int) x6).bind fun o8 =>
          (((idx a0.fTypes x5).bind fun v9 => (some (v9.fParent))).bind fun o10 =>
          (ref11_way_L1 a0 K0 m o10 o8))) else
        (K0 x5 x6))
def ref11_way : Nat → (T_api_Base) → (Int) → Option (List Int)
  | 0, _, _ => none
  | k + 1, a0, a1 =>
    (ref11_way_L1 a0 (fun y11 y12 =>
      (some y12)) k a1 ([] : List Int))
def ref11_Valid_L2 (a0 : T_api_Base) (x20 : Int) (o22 : T_api_Type)  (K0 : Int → Option Bool) : Nat → Int → Option Bool
  | 0, _ => none
  | m + 1, x28 =>
    (bif (decide (x28 < x20)) then (((idx a0.fTypes x28).bind fun v29 => (some ((v29.fName == o22.fName)))).bind fun o30 =>
          (bif o30 then (some false) else
          (ref11_Valid_L2 a0 x20 o22 K0 m (Go.IntKind.wrap .i64 (x28 + 1))))) else
        (K0 x28))
def ref11_Valid_L1 (k : Nat) (a0 : T_api_Base)  (K0 : Int → Option Bool) : Nat → Int → Option Bool
  | 0, _ => none
  | m + 1, x20 =>
    (bif (decide (x20 < (a0.fTypes.length : Int))) then ((idx a0.fTypes x20).bind fun o22 =>
          (((ref11_IsName k o22.fName).bind fun v23 => (bif (!v23) then (some (true)) else (bif (decide (o22.fMin < 1)) then (some (true)) else (bif (decide (o22.fMin > o22.fSize)) then (some (true)) else (bif (decide (o22.fSize > 40)) then (some (true)) else ((ref11_fields k o22).bind fun v24 => (some ((!v24))))))))).bind fun o25 =>
          (bif o25 then (some false) else
          (ref11_Valid_L2 a0 x20 o22 (fun y31 =>
            (bif (x20 == 0) then ((bif (o22.fParent != (-1)) then (some (true)) else (bif (decide (o22.fKey < 0)) then (some (true)) else (bif (!o22.fUnique) then (some (true)) else ((idx o22.fFields o22.fKey).bind fun v32 => (some ((decide (v32.fBytes > 24)))))))).bind fun o33 =>
                (bif o33 then (some false) else
                (ref11_Valid_L1 k a0 K0 m (Go.IntKind.wrap .i64 (x20 + 1))))) else
              ((bif (decide (o22.fParent < 0)) then (some (true)) else (bif (decide (o22.fParent ≥ x20)) then (some (true)) else (bif (o22.fParent != (Go.IntKind.wrap .i64 (x20 - 1))) then ((ref11_above k a0 o22.fParent (Go.IntKind.wrap .i64 (x20 - 1))).bind fun v34 => (bif (!v34) then (some (true)) else ((ref11_way k a0 x20).bind fun v35 => (some ((decide ((v35.length : Int) > 5))))))) else ((ref11_way k a0 x20).bind fun v36 => (some ((decide ((v36.length : Int) > 5)))))))).bind fun o37 =>
                (bif o37 then (some false) else
                (ref11_Valid_L1 k a0 K0 m (Go.IntKind.wrap .i64 (x20 + 1))))))) k 0)))) else
        (K0 x20))
def ref11_Valid_L4 (a0 : T_api_Base) (x52 : Int) (o54 : T_api_Search)  (K0 : Int → Option Bool) : Nat → Int → Option Bool
  | 0, _ => none
  | m + 1, x62 =>
    (bif (decide (x62 < x52)) then (((idx a0.fIndexes x62).bind fun v63 => (some ((v63.fName == o54.fName)))).bind fun o64 =>
          (bif o64 then (some false) else
          (ref11_Valid_L4 a0 x52 o54 K0 m (Go.IntKind.wrap .i64 (x62 + 1))))) else
        (K0 x62))
def ref11_Valid_L3 (k : Nat) (a0 : T_api_Base)  (K0 : Int → Option Bool) : Nat → Int → Option Bool
  | 0, _ => none
  | m + 1, x52 =>
    (bif (decide (x52 < (a0.fIndexes.length : Int))) then ((idx a0.fIndexes x52).bind fun o54 =>
          (((ref11_IsName k o54.fName).bind fun v55 => (bif (!v55) then (some (true)) else (bif (decide (o54.fType < 0)) then (some (true)) else (bif (decide (o54.fType ≥ (a0.fTypes.length : Int))) then (some (true)) else (bif (decide (o54.fField < 0)) then (some (true)) else ((idx a0.fTypes o54.fType).bind fun v56 => (bif (decide (o54.fField ≥ (v56.fFields.length : Int))) then (some (true)) else ((idx a0.fTypes o54.fType).bind fun v57 => ((idx v57.fFields o54.fField).bind fun v58 => (bif (decide (v58.fBytes > 20)) then (some (true)) else (some ((decide ((o54.fSparse.length : Int) > 1)))))))))))))).bind fun o59 =>
          (bif o59 then (some false) else
          (ref11_Valid_L4 a0 x52 o54 (fun y65 =>
            (ref11_Valid_L3 k a0 K0 m (Go.IntKind.wrap .i64 (x52 + 1)))) k 0)))) else
        (K0 x52))
def ref11_Valid : Nat → (T_api_Base) → Option Bool
  | 0, _ => none
  | k + 1, a0 =>
    (((ref11_IsName k a0.fName).bind fun v1 => (bif (!v1) then (some (true)) else (bif (decide (a0.fKind < 1)) then (some (true)) else (bif (decide (a0.fKind > 4)) then (some (true)) else (bif (decide ((a0.fTypes.length : Int) < 1)) then (some (true)) else (bif (decide ((a0.fTypes.length : Int) > 8)) then (some (true)) else (some ((decide ((a0.fIndexes.length : Int) > 3)))))))))).bind fun o2 =>
      (bif o2 then (some false) else
      (ref11_Valid_L1 k a0 (fun y38 =>
        (ref11_Valid_L3 k a0 (fun y66 =>
          (some true)) k 0)) k 0)))
def law14_shop : Nat → Option T_api_Base
  | 0 => none
  | k + 1 =>
    (some ({ fName := ([83, 72, 79, 80] : Str), fKind := 4, fTypes := ([({ fName := ([67, 85, 83, 84] : Str), fParent := (-1), fMin := 4, fSize := 10, fFields := ([({ fName := ([67, 85, 83, 84, 78, 79] : Str), fAt := 0, fBytes := 4 } : T_api_Field)] : List T_api_Field), fKey := 0, fUnique := true, fLast := false } : T_api_Type), ({ fName := ([79, 82, 68, 69, 82] : Str), fParent := 0, fMin := 4, fSize := 8, fFields := ([({ fName := ([79, 82, 68, 78, 79] : Str), fAt := 0, fBytes := 4 } : T_api_Field)] : List T_api_Field), fKey := 0, fUnique := false, fLast := false } : T_api_Type)] : List T_api_Type), fIndexes := ([] : List T_api_Search) } : T_api_Base))
def dbd_IsName_L1 (a0 : Str)  (K0 : Int → Option Bool) : Nat → Int → Option Bool
  | 0, _ => none
  | m + 1, x7 =>
    (bif (decide (x7 < (a0.length : Int))) then (((idxS a0 x7).bind fun v8 => (bif (decide (v8 ≥ 65)) then ((idxS a0 x7).bind fun v9 => (some ((decide (v9 ≤ 90))))) else (some (false)))).bind fun o10 =>
          ((bif (!o10) then (bif (x7 == 0) then (some (true)) else ((idxS a0 x7).bind fun v11 => (bif (decide (v11 < 48)) then (some (true)) else ((idxS a0 x7).bind fun v12 => (some ((decide (v12 > 57)))))))) else (some (false))).bind fun o13 =>
          (bif o13 then (some false) else
          (dbd_IsName_L1 a0 K0 m (Go.IntKind.wrap .i64 (x7 + 1)))))) else
        (K0 x7))
def dbd_IsName : Nat → (Str) → Option Bool
  | 0, _ => none
  | k + 1, a0 =>
    (dbd_IsName_L1 a0 (fun y14 =>
      ((bif (decide ((a0.length : Int) ≥ 1)) then (some ((decide ((a0.length : Int) ≤ 8)))) else (some (false))).bind fun o15 =>
        (some o15))) k 0)
def slices_IndexFunc_Field_L1 (k : Nat) (a0 : (List T_api_Field)) (a1 : Nat → T_api_Field → Option Bool) (K0 : Int → Option Int) : Nat → Int → Option Int
  | 0, _ => none
  | m + 1, x4 =>
    (bif (decide (x4 < (a0.length : Int))) then (((idx a0 x4).bind fun v5 => (a1 k v5)).bind fun o7 =>
          (bif o7 then (some x4) else
          (slices_IndexFunc_Field_L1 k a0 a1 K0 m (Go.IntKind.wrap .i64 (x4 + 1))))) else
        (K0 x4))
def slices_IndexFunc_Field : Nat → ((List T_api_Field)) → (Nat → T_api_Field → Option Bool) → Option Int
  | 0, _, _ => none
  | k + 1, a0, a1 =>
    (slices_IndexFunc_Field_L1 k a0 a1 (fun y8 =>
      (some (-1))) k 0)
def slices_ContainsFunc_Field : Nat → ((List T_api_Field)) → (Nat → T_api_Field → Option Bool) → Option Bool
  | 0, _, _ => none
  | k + 1, a0, a1 =>
    (((slices_IndexFunc_Field k a0 a1).bind fun v1 => (some ((decide (v1 ≥ 0))))).bind fun o2 =>
      (some o2))
def dbd_areFields_1 : Nat → (T_api_Field) → (T_api_Field) → Option Bool
  | 0, _, _ => none
  | k + 1, a0, a1 =>
    (some (a0.fName == a1.fName))
def dbd_areFields_L1 (k : Nat) (a0 : (List T_api_Field)) (a1 : Int)  (K0 : Int → Option Bool) : Nat → Int → Option Bool
  | 0, _ => none
  | m + 1, x8 =>
    (bif (decide (x8 < (a0.length : Int))) then (((idx a0 x8).bind fun v9 => (some (x8, v9))).bind fun o10 =>
          (((dbd_IsName k o10.2.fName).bind fun v11 => (bif (!v11) then (some (true)) else (bif (decide (o10.2.fAt < 0)) then (some (true)) else (bif (decide (o10.2.fAt ≥ a1)) then (some (true)) else (bif (decide (o10.2.fBytes < 1)) then (some (true)) else (some ((decide (o10.2.fBytes > (Go.IntKind.wrap .i64 (a1 - o10.2.fAt))))))))))).bind fun o12 =>
          (bif o12 then (some false) else
          (((cut a0 0 o10.1).bind fun v13 => (slices_ContainsFunc_Field k v13 (fun j x0 => (dbd_areFields_1 j x0 o10.2)))).bind fun o15 =>
            (bif o15 then (some false) else
            (dbd_areFields_L1 k a0 a1 K0 m (Go.IntKind.wrap .i64 (x8 + 1)))))))) else
        (K0 x8))
def dbd_areFields : Nat → ((List T_api_Field)) → (Int) → Option Bool
  | 0, _, _ => none
  | k + 1, a0, a1 =>
    (dbd_areFields_L1 k a0 a1 (fun y16 =>
      (some (decide ((a0.length : Int) ≤ 5)))) k 0)
def dbd_isType : Nat → (T_api_Type) → Option Bool
  | 0, _ => none
  | k + 1, a0 =>
    (((dbd_IsName k a0.fName).bind fun v1 => (bif (!v1) then (some (true)) else (bif (decide (a0.fMin < 1)) then (some (true)) else (bif (decide (a0.fMin > a0.fSize)) then (some (true)) else (bif (decide (a0.fSize > 40)) then (some (true)) else ((dbd_areFields k a0.fFields a0.fSize).bind fun v2 => (some ((!v2))))))))).bind fun o3 =>
      (bif o3 then (some false) else
      (bif (a0.fKey == (-1)) then (some (!a0.fUnique)) else
        ((bif (decide (a0.fKey < 0)) then (some (true)) else (some ((decide (a0.fKey ≥ (a0.fFields.length : Int)))))).bind fun o4 =>
          (bif o4 then (some false) else
          (((idx a0.fFields a0.fKey).bind fun v5 => ((idx a0.fFields a0.fKey).bind fun v6 => (some ((decide ((Go.IntKind.wrap .i64 (v5.fAt + v6.fBytes)) ≤ a0.fMin)))))).bind fun o7 =>
            (some o7)))))))
def slices_IndexFunc_Type_L1 (k : Nat) (a0 : (List T_api_Type)) (a1 : Nat → T_api_Type → Option Bool) (K0 : Int → Option Int) : Nat → Int → Option Int
  | 0, _ => none
  | m + 1, x4 =>
    (bif (decide (x4 < (a0.length : Int))) then (((idx a0 x4).bind fun v5 => (a1 k v5)).bind fun o7 =>
          (bif o7 then (some x4) else
          (slices_IndexFunc_Type_L1 k a0 a1 K0 m (Go.IntKind.wrap .i64 (x4 + 1))))) else
        (K0 x4))
def slices_IndexFunc_Type : Nat → ((List T_api_Type)) → (Nat → T_api_Type → Option Bool) → Option Int
  | 0, _, _ => none
  | k + 1, a0, a1 =>
    (slices_IndexFunc_Type_L1 k a0 a1 (fun y8 =>
      (some (-1))) k 0)
def slices_ContainsFunc_Type : Nat → ((List T_api_Type)) → (Nat → T_api_Type → Option Bool) → Option Bool
  | 0, _, _ => none
  | k + 1, a0, a1 =>
    (((slices_IndexFunc_Type k a0 a1).bind fun v1 => (some ((decide (v1 ≥ 0))))).bind fun o2 =>
      (some o2))
def dbd_areTypes_1 : Nat → (T_api_Type) → (T_api_Type) → Option Bool
  | 0, _, _ => none
  | k + 1, a0, a1 =>
    (some (a0.fName == a1.fName))
def slices_Index_int_L1 (a0 : (List Int)) (a1 : Int)  (K0 : Int → Option Int) : Nat → Int → Option Int
  | 0, _ => none
  | m + 1, x3 =>
    (bif (decide (x3 < (a0.length : Int))) then (((idx a0 x3).bind fun v4 => (some ((a1 == v4)))).bind fun o5 =>
          (bif o5 then (some x3) else
          (slices_Index_int_L1 a0 a1 K0 m (Go.IntKind.wrap .i64 (x3 + 1))))) else
        (K0 x3))
def slices_Index_int : Nat → ((List Int)) → (Int) → Option Int
  | 0, _, _ => none
  | k + 1, a0, a1 =>
    (slices_Index_int_L1 a0 a1 (fun y6 =>
      (some (-1))) k 0)
def dbd_areTypes_L1 (k : Nat) (a0 : (List T_api_Type))  (K0 : Int → (List Int) → Option Bool) : Nat → Int → (List Int) → Option Bool
  | 0, _, _ => none
  | m + 1, x15, x16 =>
    (bif (decide (x15 < (a0.length : Int))) then (((idx a0 x15).bind fun v17 => (some (x15, v17))).bind fun o18 =>
          (((dbd_isType k o18.2).bind fun v19 => (bif (!v19) then (some (true)) else ((cut a0 0 o18.1).bind fun v20 => (slices_ContainsFunc_Type k v20 (fun j x0 => (dbd_areTypes_1 j x0 o18.2)))))).bind fun o22 =>
          (bif o22 then (some false) else
          ((slices_Index_int k x16 o18.2.fParent).bind fun o24 =>
            ((bif (o18.1 == 0) then (bif (o18.2.fParent != (-1)) then (some (true)) else (bif (decide (o18.2.fKey < 0)) then (some (true)) else (bif (!o18.2.fUnique) then (some (true)) else ((idx o18.2.fFields o18.2.fKey).bind fun v25 => (bif (decide (v25.fBytes > 24)) then (some (true)) else (bif (decide (o18.1 > 0)) then (some ((decide (o24 < 0)))) else (some (false)))))))) else (bif (decide (o18.1 > 0)) then (some ((decide (o24 < 0)))) else (some (false)))).bind fun o26 =>
            (bif o26 then (some false) else
            (((upTo x16 (Go.IntKind.wrap .i64 (o24 + 1))).bind fun v27 => (app (List.take v27 x16) ([o18.1] : List Int))).bind fun o29 =>
              (bif (decide ((o29.length : Int) > 5)) then (some false) else
              (dbd_areTypes_L1 k a0 K0 m (Go.IntKind.wrap .i64 (x15 + 1)) o29))))))))) else
        (K0 x15 x16))
def dbd_areTypes : Nat → ((List T_api_Type)) → Option Bool
  | 0, _ => none
  | k + 1, a0 =>
    ((bif (decide ((a0.length : Int) < 1)) then (some (true)) else (some ((decide ((a0.length : Int) > 8))))).bind fun o1 =>
      (bif o1 then (some false) else
      (dbd_areTypes_L1 k a0 (fun y30 y31 =>
        (some true)) k 0 ([] : List Int))))
def slices_IndexFunc_Search_L1 (k : Nat) (a0 : (List T_api_Search)) (a1 : Nat → T_api_Search → Option Bool) (K0 : Int → Option Int) : Nat → Int → Option Int
  | 0, _ => none
  | m + 1, x4 =>
    (bif (decide (x4 < (a0.length : Int))) then (((idx a0 x4).bind fun v5 => (a1 k v5)).bind fun o7 =>
          (bif o7 then (some x4) else
          (slices_IndexFunc_Search_L1 k a0 a1 K0 m (Go.IntKind.wrap .i64 (x4 + 1))))) else
        (K0 x4))
def slices_IndexFunc_Search : Nat → ((List T_api_Search)) → (Nat → T_api_Search → Option Bool) → Option Int
  | 0, _, _ => none
  | k + 1, a0, a1 =>
    (slices_IndexFunc_Search_L1 k a0 a1 (fun y8 =>
      (some (-1))) k 0)
def slices_ContainsFunc_Search : Nat → ((List T_api_Search)) → (Nat → T_api_Search → Option Bool) → Option Bool
  | 0, _, _ => none
  | k + 1, a0, a1 =>
    (((slices_IndexFunc_Search k a0 a1).bind fun v1 => (some ((decide (v1 ≥ 0))))).bind fun o2 =>
      (some o2))
def dbd_areIndexes_1 : Nat → (T_api_Search) → (T_api_Search) → Option Bool
  | 0, _, _ => none
  | k + 1, a0, a1 =>
    (some (a0.fName == a1.fName))
def dbd_areIndexes_L1 (k : Nat) (a0 : (List T_api_Search)) (a1 : (List T_api_Type))  (K0 : Int → Option Bool) : Nat → Int → Option Bool
  | 0, _ => none
  | m + 1, x11 =>
    (bif (decide (x11 < (a0.length : Int))) then (((idx a0 x11).bind fun v12 => (some (x11, v12))).bind fun o13 =>
          (((dbd_IsName k o13.2.fName).bind fun v14 => (bif (!v14) then (some (true)) else (bif (decide (o13.2.fType < 0)) then (some (true)) else (bif (decide (o13.2.fType ≥ (a1.length : Int))) then (some (true)) else (bif (decide ((o13.2.fSparse.length : Int) > 1)) then (some (true)) else ((cut a0 0 o13.1).bind fun v15 => (slices_ContainsFunc_Search k v15 (fun j x0 => (dbd_areIndexes_1 j x0 o13.2))))))))).bind fun o17 =>
          (bif o17 then (some false) else
          (((idx a1 o13.2.fType).bind fun v18 => (some (v18.fFields))).bind fun o19 =>
            ((bif (decide (o13.2.fField < 0)) then (some (true)) else (bif (decide (o13.2.fField ≥ (o19.length : Int))) then (some (true)) else ((idx o19 o13.2.fField).bind fun v20 => (some ((decide (v20.fBytes > 20))))))).bind fun o21 =>
            (bif o21 then (some false) else
            (dbd_areIndexes_L1 k a0 a1 K0 m (Go.IntKind.wrap .i64 (x11 + 1))))))))) else
        (K0 x11))
def dbd_areIndexes : Nat → ((List T_api_Search)) → ((List T_api_Type)) → Option Bool
  | 0, _, _ => none
  | k + 1, a0, a1 =>
    (dbd_areIndexes_L1 k a0 a1 (fun y22 =>
      (some (decide ((a0.length : Int) ≤ 3)))) k 0)
def dbd_Valid : Nat → (T_api_Base) → Option Bool
  | 0, _ => none
  | k + 1, a0 =>
    (((dbd_IsName k a0.fName).bind fun v1 => (bif v1 then (bif (decide (a0.fKind ≥ 1)) then (bif (decide (a0.fKind ≤ 4)) then ((dbd_areTypes k a0.fTypes).bind fun v2 => (bif v2 then (dbd_areIndexes k a0.fIndexes a0.fTypes) else (some (false)))) else (some (false))) else (some (false))) else (some (false)))).bind fun o4 =>
      (some o4))
def strings_IndexByte : Nat → Str → Int → Option Int
  | 0, _, _ => none
  | _ + 1, s, n => some (idxB s n.toNat.toUInt8)
def ssa_areCodes_L1 (k : Nat) (a0 : Str)  (K0 : Int → Int → Option Bool) : Nat → Int → Int → Option Bool
  | 0, _, _ => none
  | m + 1, x5, x6 =>
    (bif (decide (x6 < (a0.length : Int))) then (((cut ([68, 76, 80] : Str) x5 (([68, 76, 80] : Str).length : Int)).bind fun v7 => ((idxS a0 x6).bind fun v8 => (strings_IndexByte k v7 v8))).bind fun o10 =>
          (bif (decide (o10 < 0)) then (some false) else
          (ssa_areCodes_L1 k a0 K0 m (Go.IntKind.wrap .i64 (x5 + (Go.IntKind.wrap .i64 (o10 + 1)))) (Go.IntKind.wrap .i64 (x6 + 1))))) else
        (K0 x5 x6))
def ssa_areCodes : Nat → (Str) → Option Bool
  | 0, _ => none
  | k + 1, a0 =>
    (ssa_areCodes_L1 k a0 (fun y11 y12 =>
      (some true)) k 0 0)
def slices_IndexFunc_int_L1 (k : Nat) (a0 : (List Int)) (a1 : Nat → Int → Option Bool) (K0 : Int → Option Int) : Nat → Int → Option Int
  | 0, _ => none
  | m + 1, x4 =>
    (bif (decide (x4 < (a0.length : Int))) then (((idx a0 x4).bind fun v5 => (a1 k v5)).bind fun o7 =>
          (bif o7 then (some x4) else
          (slices_IndexFunc_int_L1 k a0 a1 K0 m (Go.IntKind.wrap .i64 (x4 + 1))))) else
        (K0 x4))
def slices_IndexFunc_int : Nat → ((List Int)) → (Nat → Int → Option Bool) → Option Int
  | 0, _, _ => none
  | k + 1, a0, a1 =>
    (slices_IndexFunc_int_L1 k a0 a1 (fun y8 =>
      (some (-1))) k 0)
def slices_ContainsFunc_int : Nat → ((List Int)) → (Nat → Int → Option Bool) → Option Bool
  | 0, _, _ => none
  | k + 1, a0, a1 =>
    (((slices_IndexFunc_int k a0 a1).bind fun v1 => (some ((decide (v1 ≥ 0))))).bind fun o2 =>
      (some o2))
def dbd_asked_1 : Nat → (Int) → (T_api_Base) → Option Bool
  | 0, _, _ => none
  | k + 1, a0, a1 =>
    ((bif (decide (a0 < 0)) then (some (true)) else (some ((decide (a0 ≥ (a1.fTypes.length : Int)))))).bind fun o1 =>
      (some o1))
def dbd_asked : Nat → (T_api_Base) → ((List Int)) → Option Int
  | 0, _, _ => none
  | k + 1, a0, a1 =>
    (((dbd_Valid k a0).bind fun v1 => (some ((!v1)))).bind fun o2 =>
      (bif o2 then (some 100) else
      ((slices_ContainsFunc_int k a1 (fun j x0 => (dbd_asked_1 j x0 a0))).bind fun o4 =>
        (bif o4 then (some 2) else
        (some 0)))))
def dbd_Type_1 : Nat → (T_api_Type) → (Str) → Option Bool
  | 0, _, _ => none
  | k + 1, a0, a1 =>
    (some (a0.fName == a1))
def dbd_index : Nat → (Int) → Option (Int × Int)
  | 0, _ => none
  | k + 1, a0 =>
    (bif (decide (a0 < 0)) then (some (0, 5)) else
      (some (a0, 0)))
def dbd_Type : Nat → (T_api_Base) → (Str) → Option (Int × Int)
  | 0, _, _ => none
  | k + 1, a0, a1 =>
    ((dbd_asked k a0 ([] : List Int)).bind fun o2 =>
      (bif (o2 != 0) then (some (0, o2)) else
      (((slices_IndexFunc_Type k a0.fTypes (fun j x0 => (dbd_Type_1 j x0 a1))).bind fun v3 => ((dbd_index k v3).bind fun v4 => (some (v4.1, v4.2)))).bind fun o5 =>
        (some (o5.1, o5.2)))))
def slices_Reverse_int : Nat → List Int → Option (List Int)
  | 0, _ => none
  | _ + 1, l => revInt l
def dbd_way_L1 (a0 : T_api_Base)  (K0 : Int → (List Int) → Option (List Int)) : Nat → Int → (List Int) → Option (List Int)
  | 0, _, _ => none
  | m + 1, x5, x6 =>
    (bif (decide (x5 ≥ 0)) then ((app x6 ([x5] : List Int)).bind fun o8 =>
          (((idx a0.fTypes x5).bind fun v9 => (some (v9.fParent))).bind fun o10 =>
          (dbd_way_L1 a0 K0 m o10 o8))) else
        (K0 x5 x6))
def dbd_way : Nat → (T_api_Base) → (Int) → Option (List Int)
  | 0, _, _ => none
  | k + 1, a0, a1 =>
    (dbd_way_L1 a0 (fun y11 y12 =>
      (((slices_Reverse_int k y12).bind (sameLen y12)).bind fun o14 =>
        (some o14))) k a1 ([] : List Int))
def slices_Contains_int : Nat → ((List Int)) → (Int) → Option Bool
  | 0, _, _ => none
  | k + 1, a0, a1 =>
    (((slices_Index_int k a0 a1).bind fun v1 => (some ((decide (v1 ≥ 0))))).bind fun o2 =>
      (some o2))
def dbd_IsAbove : Nat → (T_api_Base) → (Int) → (Int) → Option (Bool × Int)
  | 0, _, _, _ => none
  | k + 1, a0, a1, a2 =>
    ((dbd_asked k a0 ([a1, a2] : List Int)).bind fun o2 =>
      (bif (o2 != 0) then (some (false, o2)) else
      ((bif (a1 != a2) then ((dbd_way k a0 a2).bind fun v3 => ((slices_Contains_int k v3 a1).bind fun v4 => (some (v4, 0)))) else (some (false, 0))).bind fun o5 =>
        (some (o5.1, o5.2)))))
def dbd_Way : Nat → (T_api_Base) → (Int) → Option ((List Int) × Int)
  | 0, _, _ => none
  | k + 1, a0, a1 =>
    ((dbd_asked k a0 ([a1] : List Int)).bind fun o2 =>
      (bif (o2 != 0) then (some (([] : List Int), o2)) else
      (((dbd_way k a0 a1).bind fun v3 => (some (v3, 0))).bind fun o4 =>
        (some (o4.1, o4.2)))))
def dbd_Depth : Nat → (T_api_Base) → (Int) → Option (Int × Int)
  | 0, _, _ => none
  | k + 1, a0, a1 =>
    (((dbd_Way k a0 a1).bind fun v1 => (some (v1.1, v1.2))).bind fun o2 =>
      (some ((o2.1.length : Int), o2.2)))
def match_asked : Nat → (T_api_Base) → (Int) → Option Int
  | 0, _, _ => none
  | k + 1, a0, a1 =>
    (((dbd_Depth k a0 a1).bind fun v1 => (some (v1.2))).bind fun o2 =>
      (some o2))
def slices_IndexFunc_TermL_L1 (k : Nat) (a0 : (List (List T_api_Term))) (a1 : Nat → (List T_api_Term) → Option Bool) (K0 : Int → Option Int) : Nat → Int → Option Int
  | 0, _ => none
  | m + 1, x4 =>
    (bif (decide (x4 < (a0.length : Int))) then (((idx a0 x4).bind fun v5 => (a1 k v5)).bind fun o7 =>
          (bif o7 then (some x4) else
          (slices_IndexFunc_TermL_L1 k a0 a1 K0 m (Go.IntKind.wrap .i64 (x4 + 1))))) else
        (K0 x4))
def slices_IndexFunc_TermL : Nat → ((List (List T_api_Term))) → (Nat → (List T_api_Term) → Option Bool) → Option Int
  | 0, _, _ => none
  | k + 1, a0, a1 =>
    (slices_IndexFunc_TermL_L1 k a0 a1 (fun y8 =>
      (some (-1))) k 0)
def slices_ContainsFunc_TermL : Nat → ((List (List T_api_Term))) → (Nat → (List T_api_Term) → Option Bool) → Option Bool
  | 0, _, _ => none
  | k + 1, a0, a1 =>
    (((slices_IndexFunc_TermL k a0 a1).bind fun v1 => (some ((decide (v1 ≥ 0))))).bind fun o2 =>
      (some o2))
def slices_IndexFunc_Term_L1 (k : Nat) (a0 : (List T_api_Term)) (a1 : Nat → T_api_Term → Option Bool) (K0 : Int → Option Int) : Nat → Int → Option Int
  | 0, _ => none
  | m + 1, x4 =>
    (bif (decide (x4 < (a0.length : Int))) then (((idx a0 x4).bind fun v5 => (a1 k v5)).bind fun o7 =>
          (bif o7 then (some x4) else
          (slices_IndexFunc_Term_L1 k a0 a1 K0 m (Go.IntKind.wrap .i64 (x4 + 1))))) else
        (K0 x4))
def slices_IndexFunc_Term : Nat → ((List T_api_Term)) → (Nat → T_api_Term → Option Bool) → Option Int
  | 0, _, _ => none
  | k + 1, a0, a1 =>
    (slices_IndexFunc_Term_L1 k a0 a1 (fun y8 =>
      (some (-1))) k 0)
def slices_ContainsFunc_Term : Nat → ((List T_api_Term)) → (Nat → T_api_Term → Option Bool) → Option Bool
  | 0, _, _ => none
  | k + 1, a0, a1 =>
    (((slices_IndexFunc_Term k a0 a1).bind fun v1 => (some ((decide (v1 ≥ 0))))).bind fun o2 =>
      (some o2))
def match_field_1 : Nat → (T_api_Field) → (Str) → Option Bool
  | 0, _, _ => none
  | k + 1, a0, a1 =>
    (some (a0.fName == a1))
def match_field : Nat → (T_api_Type) → (Str) → Option (Int × Bool)
  | 0, _, _ => none
  | k + 1, a0, a1 =>
    ((slices_IndexFunc_Field k a0.fFields (fun j x0 => (match_field_1 j x0 a1))).bind fun o2 =>
      (some (o2, (decide (o2 ≥ 0)))))
def match_isTerm : Nat → (T_api_Type) → (T_api_Term) → Option Bool
  | 0, _, _ => none
  | k + 1, a0, a1 =>
    (((match_field k a0 a1.fField).bind fun v1 => (some (v1.1, v1.2))).bind fun o2 =>
      ((bif o2.2 then (bif (decide (a1.fOp ≥ 1)) then (bif (decide (a1.fOp ≤ 6)) then ((idx a0.fFields o2.1).bind fun v3 => (some (((a1.fValue.length : Int) == v3.fBytes)))) else (some (false))) else (some (false))) else (some (false))).bind fun o4 =>
      (some o4)))
def match_valid_1_1 : Nat → (T_api_Term) → (T_api_Type) → Option Bool
  | 0, _, _ => none
  | k + 1, a0, a1 =>
    (((match_isTerm k a1 a0).bind fun v1 => (some ((!v1)))).bind fun o2 =>
      (some o2))
def match_valid_1 : Nat → ((List T_api_Term)) → (T_api_Type) → Option Bool
  | 0, _, _ => none
  | k + 1, a0, a1 =>
    ((bif (decide ((a0.length : Int) < 1)) then (some (true)) else (bif (decide ((a0.length : Int) > 4)) then (some (true)) else (slices_ContainsFunc_Term k a0 (fun j x0 => (match_valid_1_1 j x0 a1))))).bind fun o2 =>
      (some o2))
def match_valid : Nat → (T_api_Type) → ((List (List T_api_Term))) → Option Bool
  | 0, _, _ => none
  | k + 1, a0, a1 =>
    ((bif (decide ((a1.length : Int) ≤ 4)) then ((slices_ContainsFunc_TermL k a1 (fun j x0 => (match_valid_1 j x0 a0))).bind fun v1 => (some ((!v1)))) else (some (false))).bind fun o2 =>
      (some o2))
def match_Valid : Nat → (T_api_Base) → (Int) → ((List (List T_api_Term))) → Option (Bool × Int)
  | 0, _, _, _ => none
  | k + 1, a0, a1, a2 =>
    ((match_asked k a0 a1).bind fun o2 =>
      (bif (o2 != 0) then (some (false, o2)) else
      (((idx a0.fTypes a1).bind fun v3 => ((match_valid k v3 a2).bind fun v4 => (some (v4, 0)))).bind fun o5 =>
        (some (o5.1, o5.2)))))
def ssa_status : Nat → (T_api_Base) → (Int) → (T_api_Arg) → Option (Str × Int)
  | 0, _, _, _ => none
  | k + 1, a0, a1, a2 =>
    (((ssa_areCodes k a2.fCodes).bind fun v1 => (some ((!v1)))).bind fun o2 =>
      (bif o2 then (some (([65, 74] : Str), 0)) else
      (((dbd_Type k a0 a2.fSegment).bind fun v3 => (some (v3.1, v3.2))).bind fun o4 =>
        (bif (o4.2 != 0) then (some (([65, 67] : Str), 0)) else
        (bif (decide (a1 ≥ 0)) then (((dbd_IsAbove k a0 a1 o4.1).bind fun v5 => (some (v5.1))).bind fun o6 =>
            (bif (!o6) then (some (([65, 67] : Str), 0)) else
            (((match_Valid k a0 o4.1 a2.fWhen).bind fun v7 => (some (v7.1))).bind fun o8 =>
              (bif (!o8) then (some (([65, 75] : Str), 0)) else
              (some (([32, 32] : Str), o4.1)))))) else
          (((match_Valid k a0 o4.1 a2.fWhen).bind fun v9 => (some (v9.1))).bind fun o10 =>
            (bif (!o10) then (some (([65, 75] : Str), 0)) else
            (some (([32, 32] : Str), o4.1)))))))))
def ssa_check_L1 (k : Nat) (a0 : T_api_Base) (a1 : (List T_api_Arg))  (K0 : Int → (List Int) → Int → Option (Str × (List Int))) : Nat → Int → (List Int) → Int → Option (Str × (List Int))
  | 0, _, _, _ => none
  | m + 1, x7, x8, x9 =>
    (bif (decide (x9 < (a1.length : Int))) then ((idx a1 x9).bind fun o11 =>
          (((ssa_status k a0 x7 o11).bind fun v12 => (some (v12.1, v12.2))).bind fun o13 =>
          (bif (!(o13.1 == ([32, 32] : Str))) then (some (o13.1, ([] : List Int))) else
          ((app x8 ([o13.2] : List Int)).bind fun o15 =>
            (ssa_check_L1 k a0 a1 K0 m o13.2 o15 (Go.IntKind.wrap .i64 (x9 + 1))))))) else
        (K0 x7 x8 x9))
def ssa_check : Nat → (T_api_Base) → ((List T_api_Arg)) → Option (Str × (List Int))
  | 0, _, _ => none
  | k + 1, a0, a1 =>
    (bif (decide ((a1.length : Int) > 5)) then (some (([65, 74] : Str), ([] : List Int))) else
      (ssa_check_L1 k a0 a1 (fun y16 y17 y18 =>
        (some (([32, 32] : Str), y17))) k (-1) ([] : List Int) 0))
def ssa_Types : Nat → (T_api_Base) → ((List T_api_Arg)) → Option ((List Int) × Int)
  | 0, _, _ => none
  | k + 1, a0, a1 =>
    (((dbd_Valid k a0).bind fun v1 => (some ((!v1)))).bind fun o2 =>
      (bif o2 then (some (([] : List Int), 100)) else
      (((ssa_check k a0 a1).bind fun v3 => (some (v3.1, v3.2))).bind fun o4 =>
        (bif (!(o4.1 == ([32, 32] : Str))) then (some (([] : List Int), 2)) else
        (some (o4.2, 0))))))
def strings_Repeat : Nat → Str → Int → Option Str
  | 0, _, _ => none
  | _ + 1, s, n => repS s n
def slices_IndexFunc_TermLL_L1 (k : Nat) (a0 : (List (List (List T_api_Term)))) (a1 : Nat → (List (List T_api_Term)) → Option Bool) (K0 : Int → Option Int) : Nat → Int → Option Int
  | 0, _ => none
  | m + 1, x4 =>
    (bif (decide (x4 < (a0.length : Int))) then (((idx a0 x4).bind fun v5 => (a1 k v5)).bind fun o7 =>
          (bif o7 then (some x4) else
          (slices_IndexFunc_TermLL_L1 k a0 a1 K0 m (Go.IntKind.wrap .i64 (x4 + 1))))) else
        (K0 x4))
def slices_IndexFunc_TermLL : Nat → ((List (List (List T_api_Term)))) → (Nat → (List (List T_api_Term)) → Option Bool) → Option Int
  | 0, _, _ => none
  | k + 1, a0, a1 =>
    (slices_IndexFunc_TermLL_L1 k a0 a1 (fun y8 =>
      (some (-1))) k 0)
def slices_ContainsFunc_TermLL : Nat → ((List (List (List T_api_Term)))) → (Nat → (List (List T_api_Term)) → Option Bool) → Option Bool
  | 0, _, _ => none
  | k + 1, a0, a1 =>
    (((slices_IndexFunc_TermLL k a0 a1).bind fun v1 => (some ((decide (v1 ≥ 0))))).bind fun o2 =>
      (some o2))
def match_conditions_1 : Nat → ((List (List T_api_Term))) → (T_api_Type) → Option Bool
  | 0, _, _ => none
  | k + 1, a0, a1 =>
    (((match_valid k a1 a0).bind fun v1 => (some ((!v1)))).bind fun o2 =>
      (some o2))
def match_conditions : Nat → (T_api_Base) → (Int) → ((List (List (List T_api_Term)))) → Option (T_api_Type × Int)
  | 0, _, _, _ => none
  | k + 1, a0, a1, a2 =>
    ((match_asked k a0 a1).bind fun o2 =>
      (bif (o2 != 0) then (some (({ fName := [], fParent := 0, fMin := 0, fSize := 0, fFields := ([] : List T_api_Field), fKey := 0, fUnique := false, fLast := false } : T_api_Type), o2)) else
      ((idx a0.fTypes a1).bind fun o4 =>
        ((slices_ContainsFunc_TermLL k a2 (fun j x0 => (match_conditions_1 j x0 o4))).bind fun o6 =>
        (bif o6 then (some (({ fName := [], fParent := 0, fMin := 0, fSize := 0, fFields := ([] : List T_api_Field), fKey := 0, fUnique := false, fLast := false } : T_api_Type), 110)) else
        (some (o4, 0)))))))
def match_sign : Nat → (Int) → Option Str
  | 0, _ => none
  | k + 1, a0 =>
    ((idx ([({ e0 := ([61, 32] : Str), e1 := ([60, 62] : Str), e2 := ([60, 32] : Str), e3 := ([60, 61] : Str), e4 := ([62, 32] : Str), e5 := ([62, 61] : Str) } : T_arr6_Str).e0, ({ e0 := ([61, 32] : Str), e1 := ([60, 62] : Str), e2 := ([60, 32] : Str), e3 := ([60, 61] : Str), e4 := ([62, 32] : Str), e5 := ([62, 61] : Str) } : T_arr6_Str).e1, ({ e0 := ([61, 32] : Str), e1 := ([60, 62] : Str), e2 := ([60, 32] : Str), e3 := ([60, 61] : Str), e4 := ([62, 32] : Str), e5 := ([62, 61] : Str) } : T_arr6_Str).e2, ({ e0 := ([61, 32] : Str), e1 := ([60, 62] : Str), e2 := ([60, 32] : Str), e3 := ([60, 61] : Str), e4 := ([62, 32] : Str), e5 := ([62, 61] : Str) } : T_arr6_Str).e3, ({ e0 := ([61, 32] : Str), e1 := ([60, 62] : Str), e2 := ([60, 32] : Str), e3 := ([60, 61] : Str), e4 := ([62, 32] : Str), e5 := ([62, 61] : Str) } : T_arr6_Str).e4, ({ e0 := ([61, 32] : Str), e1 := ([60, 62] : Str), e2 := ([60, 32] : Str), e3 := ([60, 61] : Str), e4 := ([62, 32] : Str), e5 := ([62, 61] : Str) } : T_arr6_Str).e5] : List Str) (Go.IntKind.wrap .i64 (a0 - 1))).bind fun o2 =>
      (some o2))
def strings_Join : Nat → List Str → Str → Option Str
  | 0, _, _ => none
  | _ + 1, s, n => joinS s n
def match_Format_L2 (k : Nat) (o33 : (List T_api_Term))  (K0 : Int → (List Str) → Option (Str × Int)) : Nat → Int → (List Str) → Option (Str × Int)
  | 0, _, _ => none
  | m + 1, x43, x44 =>
    (bif (decide (x43 < (o33.length : Int))) then ((idx o33 x43).bind fun o46 =>
          (((strings_Repeat k ([32] : Str) (Go.IntKind.wrap .i64 (8 - (o46.fField.length : Int)))).bind fun v47 => ((cat o46.fField v47).bind fun v48 => ((match_sign k o46.fOp).bind fun v49 => ((cat v48 v49).bind fun v50 => ((cat v50 o46.fValue).bind fun v51 => (app x44 ([v51] : List Str))))))).bind fun o53 =>
          (match_Format_L2 k o33 K0 m (Go.IntKind.wrap .i64 (x43 + 1)) o53))) else
        (K0 x43 x44))
def match_Format_L1 (k : Nat) (a2 : (List (List T_api_Term)))  (K0 : (List Str) → Int → Option (Str × Int)) : Nat → (List Str) → Int → Option (Str × Int)
  | 0, _, _ => none
  | m + 1, x30, x31 =>
    (bif (decide (x31 < (a2.length : Int))) then ((idx a2 x31).bind fun o33 =>
          (match_Format_L2 k o33 (fun y54 y55 =>
          (((strings_Join k y55 ([38] : Str)).bind fun v56 => (app x30 ([v56] : List Str))).bind fun o58 =>
            (match_Format_L1 k a2 K0 m o58 (Go.IntKind.wrap .i64 (x31 + 1))))) k 0 ([] : List Str))) else
        (K0 x30 x31))
def match_Format : Nat → (T_api_Base) → (Int) → ((List (List T_api_Term))) → Option (Str × Int)
  | 0, _, _, _ => none
  | k + 1, a0, a1, a2 =>
    (((match_conditions k a0 a1 ([a2] : List (List (List T_api_Term)))).bind fun v1 => (some (v1.2))).bind fun o2 =>
      (bif (o2 != 0) then (some (([] : Str), o2)) else
      (match_Format_L1 k a2 (fun y59 y60 =>
        (((strings_Join k y59 ([124] : Str)).bind fun v61 => (some (v61, 0))).bind fun o62 =>
          (some (o62.1, o62.2)))) k ([] : List Str) 0)))
def ssa_Format : Nat → (T_api_Base) → (T_api_Arg) → Option (Str × Int)
  | 0, _, _ => none
  | k + 1, a0, a1 =>
    (((ssa_Types k a0 ([a1] : List T_api_Arg)).bind fun v1 => (some (v1.1, v1.2))).bind fun o2 =>
      (bif (o2.2 != 0) then (some (([] : Str), o2.2)) else
      (((strings_Repeat k ([32] : Str) (Go.IntKind.wrap .i64 (8 - (a1.fSegment.length : Int)))).bind fun v3 => (cat a1.fSegment v3)).bind fun o5 =>
        (bif (!(a1.fCodes == ([] : Str))) then (((cat ([42] : Str) a1.fCodes).bind fun v6 => (cat o5 v6)).bind fun o8 =>
          (bif ((a1.fWhen.length : Int) == 0) then (((cat o8 ([32] : Str)).bind fun v9 => (some (v9, 0))).bind fun o10 =>
            (some (o10.1, o10.2))) else
          (((idx o2.1 0).bind fun v11 => ((match_Format k a0 v11 a1.fWhen).bind fun v12 => (some (v12.2, v12.1)))).bind fun o13 =>
            (bif (o13.1 != 0) then (some (([] : Str), o13.1)) else
            (((cat o8 ([40] : Str)).bind fun v14 => ((cat v14 o13.2).bind fun v15 => ((cat v15 ([41] : Str)).bind fun v16 => (some (v16, 0))))).bind fun o17 =>
              (some (o17.1, o17.2))))))) else
        (bif ((a1.fWhen.length : Int) == 0) then (((cat o5 ([32] : Str)).bind fun v18 => (some (v18, 0))).bind fun o19 =>
            (some (o19.1, o19.2))) else
          (((idx o2.1 0).bind fun v20 => ((match_Format k a0 v20 a1.fWhen).bind fun v21 => (some (v21.2, v21.1)))).bind fun o22 =>
            (bif (o22.1 != 0) then (some (([] : Str), o22.1)) else
            (((cat o5 ([40] : Str)).bind fun v23 => ((cat v23 o22.2).bind fun v24 => ((cat v24 ([41] : Str)).bind fun v25 => (some (v25, 0))))).bind fun o26 =>
              (some (o26.1, o26.2))))))))))
def law14_Awake : Nat → Option Bool
  | 0 => none
  | k + 1 =>
    (((law14_shop k).bind fun v1 => ((ssa_Format k v1 ({ fSegment := ([79, 82, 68, 69, 82] : Str), fCodes := ([68] : Str), fWhen := ([([({ fField := ([79, 82, 68, 78, 79] : Str), fOp := 1, fValue := ([48, 48, 48, 53] : Str) } : T_api_Term)] : List T_api_Term)] : List (List T_api_Term)) } : T_api_Arg)).bind fun v2 => (some (v2.1, v2.2)))).bind fun o3 =>
      (((law14_shop k).bind fun v4 => ((ssa_Format k v4 ({ fSegment := ([67, 85, 83, 84] : Str), fCodes := [], fWhen := ([] : List (List T_api_Term)) } : T_api_Arg)).bind fun v5 => (some (v5.1, v5.2)))).bind fun o6 =>
      ((bif (o3.2 == 0) then (bif (o6.2 == 0) then (bif (o3.1 == ([79, 82, 68, 69, 82, 32, 32, 32, 42, 68, 40, 79, 82, 68, 78, 79, 32, 32, 32, 61, 32, 48, 48, 48, 53, 41] : Str)) then (some ((o6.1 == ([67, 85, 83, 84, 32, 32, 32, 32, 32] : Str)))) else (some (false))) else (some (false))) else (some (false))).bind fun o7 =>
      (some o7))))
def ref11_isType : Nat → (T_api_Base) → (Int) → Option Bool
  | 0, _, _ => none
  | k + 1, a0, a1 =>
    ((bif (decide (a1 ≥ 0)) then (some ((decide (a1 < (a0.fTypes.length : Int))))) else (some (false))).bind fun o1 =>
      (some o1))
def ref11_asked_L1 (k : Nat) (a0 : T_api_Base) (a1 : (List Int))  (K0 : Int → Option Int) : Nat → Int → Option Int
  | 0, _ => none
  | m + 1, x6 =>
    (bif (decide (x6 < (a1.length : Int))) then (((idx a1 x6).bind fun v7 => ((ref11_isType k a0 v7).bind fun v8 => (some ((!v8))))).bind fun o9 =>
          (bif o9 then (some 2) else
          (ref11_asked_L1 k a0 a1 K0 m (Go.IntKind.wrap .i64 (x6 + 1))))) else
        (K0 x6))
def ref11_asked : Nat → (T_api_Base) → ((List Int)) → Option Int
  | 0, _, _ => none
  | k + 1, a0, a1 =>
    (((ref11_Valid k a0).bind fun v1 => (some ((!v1)))).bind fun o2 =>
      (bif o2 then (some 100) else
      (ref11_asked_L1 k a0 a1 (fun y10 =>
        (some 0)) k 0)))
def ref11_Way : Nat → (T_api_Base) → (Int) → Option ((List Int) × Int)
  | 0, _, _ => none
  | k + 1, a0, a1 =>
    ((ref11_asked k a0 ([a1] : List Int)).bind fun o2 =>
      (bif (o2 != 0) then (some (([] : List Int), o2)) else
      (((ref11_way k a0 a1).bind fun v3 => (some (v3, 0))).bind fun o4 =>
        (some (o4.1, o4.2)))))
def ssa_Check : Nat → (T_api_Base) → ((List T_api_Arg)) → Option (Str × Int)
  | 0, _, _ => none
  | k + 1, a0, a1 =>
    (((dbd_Valid k a0).bind fun v1 => (some ((!v1)))).bind fun o2 =>
      (bif o2 then (some (([] : Str), 100)) else
      (((ssa_check k a0 a1).bind fun v3 => (some (v3.1))).bind fun o4 =>
        (some (o4, 0)))))
def law14_SsaWays_L1 (a0 : T_api_Base) (a2 : Int) (o8 : (List Int))  (K0 : (List T_api_Arg) → (List T_api_Arg) → (List Int) → Int → Option Bool) : Nat → Int → (List T_api_Arg) → (List T_api_Arg) → (List Int) → Option Bool
  | 0, _, _, _, _ => none
  | m + 1, x20, x21, x22, x23 =>
    (bif (decide (x20 < (o8.length : Int))) then (((shrI .u8 a2 x20).bind fun v24 => (some (((andI .u8 v24 1) == 1)))).bind fun o25 =>
          (bif o25 then (law14_SsaWays_L1 a0 a2 o8 K0 m (Go.IntKind.wrap .i64 (x20 + 1)) x21 x22 x23) else
          (((idx o8 x20).bind fun v26 => ((idx a0.fTypes v26).bind fun v27 => (some (({ fSegment := v27.fName, fCodes := [], fWhen := ([] : List (List T_api_Term)) } : T_api_Arg))))).bind fun o28 =>
            (((app x21 ([o28] : List T_api_Arg)).bind fun v29 => ((idx o8 x20).bind fun v30 => ((app x23 ([v30] : List Int)).bind fun v31 => (some (v29, v31))))).bind fun o32 =>
            ((app ([o28] : List T_api_Arg) x22).bind fun o34 =>
            (law14_SsaWays_L1 a0 a2 o8 K0 m (Go.IntKind.wrap .i64 (x20 + 1)) o32.1 o34 o32.2)))))) else
        (K0 x21 x22 x23 x20))
def law14_SsaWays_L2 (y37 : (List Int)) (o42 : (List Int) × Int)  (K0 : Int → Option Bool) : Nat → Int → Option Bool
  | 0, _ => none
  | m + 1, x49 =>
    (bif (decide (x49 < (o42.1.length : Int))) then (((idx o42.1 x49).bind fun v50 => ((idx y37 x49).bind fun v51 => (some ((v50 != v51))))).bind fun o52 =>
          (bif o52 then (some false) else
          (law14_SsaWays_L2 y37 o42 K0 m (Go.IntKind.wrap .i64 (x49 + 1))))) else
        (K0 x49))
def law14_SsaWays : Nat → (T_api_Base) → (Int) → (Int) → Option Bool
  | 0, _, _, _ => none
  | k + 1, a0, a1, a2 =>
    (((law12_Large k a0).bind fun v1 => (bif v1 then (some (true)) else ((ref11_Valid k a0).bind fun v2 => (some ((!v2)))))).bind fun o3 =>
      (bif o3 then ((law14_Awake k).bind fun o5 =>
        (some o5)) else
      (((remE (Go.IntKind.wrap .i64 a1) (a0.fTypes.length : Int)).bind fun v6 => ((ref11_Way k a0 v6).bind fun v7 => (some (v7.1)))).bind fun o8 =>
        (law14_SsaWays_L1 a0 a2 o8 (fun y35 y36 y37 y38 =>
        (((ssa_Check k a0 y35).bind fun v39 => (some (v39.1, v39.2))).bind fun o40 =>
          (((ssa_Types k a0 y35).bind fun v41 => (some (v41.1, v41.2))).bind fun o42 =>
          (((ssa_Check k a0 y36).bind fun v43 => (some (v43.1, v43.2))).bind fun o44 =>
          ((bif (o40.2 != 0) then (some (true)) else (bif (o42.2 != 0) then (some (true)) else (bif (o44.2 != 0) then (some (true)) else (bif (!(o40.1 == ([32, 32] : Str))) then (some (true)) else (bif ((o42.1.length : Int) != (y37.length : Int)) then (some (true)) else (some ((!((o44.1 == ([32, 32] : Str)) == (decide ((y35.length : Int) < 2))))))))))).bind fun o45 =>
          (bif o45 then (some false) else
          (law14_SsaWays_L2 y37 o42 (fun y53 =>
            ((law14_Awake k).bind fun o55 =>
              (some o55))) k 0))))))) k 0 ([] : List T_api_Arg) ([] : List T_api_Arg) ([] : List Int)))))
end Go.Sh
namespace Go.Sh
open Go.AE
set_option linter.unusedVariables false
theorem maxLen_eq : maxLen = 9223372036854775807 := rfl
theorem wrap_in {x : Int} (h : -9223372036854775808 ≤ x) (h' : x ≤ 9223372036854775807) : Go.IntKind.wrap .i64 x = x := IntWalk.i64_in x ⟨h, h'⟩
theorem wrap_next {i n : Nat} (h : i < n) (hn : n ≤ maxLen) : Go.IntKind.wrap .i64 ((i : Int) + 1) = ((i + 1 : Nat) : Int) := by
  rw [wrap_in] <;> (try rw [maxLen_eq] at hn) <;> omega
theorem idx_at {α : Type} {l : List α} {i : Nat} (h : i < l.length) : idx l (i : Int) = some l[i] := by
  unfold idx
  rw [if_pos (by omega), Int.toNat_natCast, List.getElem?_eq_getElem h]
theorem idx_of {α : Type} {l : List α} {x : Int} (h0 : 0 ≤ x) (h : x < (l.length : Int)) : idx l x = some (l[x.toNat]'(by omega)) := by
  unfold idx
  rw [if_pos h0, List.getElem?_eq_getElem (by omega)]
theorem idxS_at {l : List UInt8} {i : Nat} (h : i < l.length) : idxS l (i : Int) = some (l[i].toNat : Int) := by
  unfold idxS
  rw [if_pos (by omega), Int.toNat_natCast, List.getElem?_eq_getElem h]
  rfl
theorem cut_take {α : Type} {l : List α} {i : Nat} (h : i ≤ l.length) : cut l 0 (i : Int) = some (l.take i) := by
  unfold cut
  rw [if_pos ⟨by omega, by omega, by omega⟩]
  simp
theorem app_ok {α : Type} {l m : List α} (h : l.length + m.length ≤ maxList) : app l m = some (l ++ m) := by
  unfold app; rw [if_pos h]
def scan {β : Type} (g : Nat → Bool) (r : Nat → β) (z : β) : Nat → Nat → β
  | 0, _ => z
  | d + 1, i => bif g i then r i else scan g r z d (i + 1)
theorem loop_scan {S β : Type} {n : Nat} {L : Nat → Int → S → β} {σ : Nat → S} {g : Nat → Bool} {r : Nat → β} {z : β}
    (hs : ∀ m i, i < n → (∀ j, j < i → g j = false) → L (m + 1) (i : Int) (σ i) = bif g i then r i else L m ((i + 1 : Nat) : Int) (σ (i + 1)))
    (he : ∀ m, (∀ j, j < n → g j = false) → L (m + 1) (n : Int) (σ n) = z) : ∀ d i m, i + d = n → (∀ j, j < i → g j = false) → d < m → L m (i : Int) (σ i) = scan g r z d i
  | 0, i, m, hd, hb, hm => by
    obtain ⟨m, rfl⟩ : ∃ q, m = q + 1 := ⟨m - 1, by omega⟩
    have : i = n := by omega
    subst this
    exact he m hb
  | d + 1, i, m, hd, hb, hm => by
    obtain ⟨m, rfl⟩ : ∃ q, m = q + 1 := ⟨m - 1, by omega⟩
    rw [hs m i (by omega) hb, scan]
    cases hg : g i with
    | true => rfl
    | false =>
      simp only [cond_false]
      refine loop_scan hs he d (i + 1) m (by omega) (fun j hj => ?_) (by omega)
      by_cases e : j = i
      · subst e; exact hg
      · exact hb j (by omega)
theorem loop0 {β : Type} {n : Nat} {L : Nat → Int → β} {g : Nat → Bool} {r : Nat → β} {z : β}
    (hs : ∀ m i, i < n → (∀ j, j < i → g j = false) → L (m + 1) (i : Int) = bif g i then r i else L m ((i + 1 : Nat) : Int))
    (he : ∀ m, (∀ j, j < n → g j = false) → L (m + 1) (n : Int) = z) {m : Nat} (hm : n < m) : L m 0 = scan g r z n 0 :=
  loop_scan (S := Unit) (L := fun m x _ => L m x) (σ := fun _ => ()) hs he n 0 m (by omega) (fun j hj => by omega) hm
theorem loopS {S β : Type} {n : Nat} {L : Nat → Int → S → β} {σ : Nat → S} {g : Nat → Bool} {r : Nat → β} {z : β}
    (hs : ∀ m i, i < n → (∀ j, j < i → g j = false) → L (m + 1) (i : Int) (σ i) = bif g i then r i else L m ((i + 1 : Nat) : Int) (σ (i + 1)))
    (he : ∀ m, (∀ j, j < n → g j = false) → L (m + 1) (n : Int) (σ n) = z) {m : Nat} (hm : n < m) {s0 : S} (h0 : σ 0 = s0) : L m 0 s0 = scan g r z n 0 := by
  subst h0
  exact loop_scan hs he n 0 m (by omega) (fun j hj => by omega) hm
theorem scan_congr {β : Type} {g g' : Nat → Bool} {r r' : Nat → β} {z z' : β} : ∀ d i, (∀ j, i ≤ j → j < i + d → (∀ q, i ≤ q → q < j → g q = false) → g j = g' j ∧ (g j = true → r j = r' j)) → ((∀ q, i ≤ q → q < i + d → g q = false) → z = z') → scan g r z d i = scan g' r' z' d i
  | 0, i, h, hz => hz (fun q h1 h2 => by omega)
  | d + 1, i, h, hz => by
    obtain ⟨h1, h2⟩ := h i (Nat.le_refl i) (by omega) (fun q a b => by omega)
    simp only [scan]
    rw [← h1]
    cases hg : g i with
    | true => simp only [cond_true]; exact h2 hg
    | false =>
      simp only [cond_false]
      refine scan_congr d (i + 1) (fun j a b hq => h j (by omega) (by omega) (fun q c e => ?_)) (fun hq => hz (fun q a b => ?_))
      · by_cases e2 : q = i
        · subst e2; exact hg
        · exact hq q (by omega) e
      · by_cases e2 : q = i
        · subst e2; exact hg
        · exact hq q (by omega) (by omega)
def anyB (g : Nat → Bool) (n : Nat) : Bool := scan g (fun _ => true) false n 0
theorem scan_map {β γ : Type} (f : β → γ) {g : Nat → Bool} {r : Nat → β} {z : β} : ∀ d i, f (scan g r z d i) = scan g (fun i => f (r i)) (f z) d i
  | 0, _ => rfl
  | d + 1, i => by
    simp only [scan]
    cases g i with
    | true => rfl
    | false => exact scan_map f d (i + 1)
theorem scan_const {β : Type} {g : Nat → Bool} {r z : β} (n : Nat) : scan g (fun _ => r) z n 0 = bif anyB g n then r else z := by
  unfold anyB
  have : ∀ d i, scan g (fun _ => r) z d i = bif scan g (fun _ => true) false d i then r else z := by
    intro d
    induction d with
    | zero => intro i; rfl
    | succ d ih =>
      intro i
      simp only [scan]
      cases g i with
      | true => rfl
      | false => exact ih (i + 1)
  exact this n 0
/-- Either the first place where it holds, or nowhere. -/
theorem scan_cases {β : Type} (g : Nat → Bool) (r : Nat → β) (z : β) : ∀ d i, ((∀ q, i ≤ q → q < i + d → g q = false) ∧ scan g r z d i = z) ∨ ∃ j, i ≤ j ∧ j < i + d ∧ g j = true ∧ (∀ q, i ≤ q → q < j → g q = false) ∧ scan g r z d i = r j
  | 0, i => .inl ⟨fun q a b => by omega, rfl⟩
  | d + 1, i => by
    simp only [scan]
    cases hg : g i with
    | true => exact .inr ⟨i, Nat.le_refl i, by omega, hg, fun q a b => by omega, rfl⟩
    | false =>
      simp only [cond_false]
      rcases scan_cases g r z d (i + 1) with ⟨h1, h2⟩ | ⟨j, h1, h2, h3, h4, h5⟩
      · exact .inl ⟨fun q a b => by
          by_cases e : q = i
          · subst e; exact hg
          · exact h1 q (by omega) (by omega), h2⟩
      · exact .inr ⟨j, by omega, by omega, h3, fun q a b => by
          by_cases e : q = i
          · subst e; exact hg
          · exact h4 q (by omega) b, h5⟩
theorem anyB_iff {g : Nat → Bool} {n : Nat} : anyB g n = true ↔ ∃ i, i < n ∧ g i = true := by
  unfold anyB
  rcases scan_cases g (fun _ => true) false n 0 with ⟨h1, h2⟩ | ⟨j, h1, h2, h3, h4, h5⟩
  · rw [h2]
    exact ⟨fun h => absurd h (by simp), fun ⟨i, hi, hg⟩ => absurd hg (by rw [h1 i (by omega) (by omega)]; simp)⟩
  · rw [h5]
    exact ⟨fun _ => ⟨j, by omega, h3⟩, fun _ => rfl⟩
theorem anyB_false {g : Nat → Bool} {n : Nat} : anyB g n = false ↔ ∀ i, i < n → g i = false := by
  constructor
  · intro h i hi
    cases hg : g i with
    | false => rfl
    | true => rw [anyB_iff.2 ⟨i, hi, hg⟩] at h; cases h
  · intro h
    cases ha : anyB g n with
    | false => rfl
    | true =>
      obtain ⟨i, hi, hg⟩ := anyB_iff.1 ha
      rw [h i hi] at hg; cases hg
theorem anyB_congr {g g' : Nat → Bool} {n : Nat} (h : ∀ i, i < n → (∀ j, j < i → g j = false) → g i = g' i) : anyB g n = anyB g' n :=
  scan_congr n 0 (fun j _ hj hq => ⟨h j (by omega) (fun q hq' => hq q (by omega) hq'), fun _ => rfl⟩) (fun _ => rfl)
/-- Places of a list. -/
def at' {α : Type} (l : List α) (p : α → Bool) (i : Nat) : Bool := match l[i]? with | some x => p x | none => false
theorem at'_eq {α : Type} {l : List α} {p : α → Bool} {i : Nat} (h : i < l.length) : at' l p i = p l[i] := by
  unfold at'
  rw [List.getElem?_eq_getElem h]
theorem anyB_any {α : Type} {l : List α} {p : α → Bool} : anyB (at' l p) l.length = l.any p := by
  cases h : l.any p with
  | true =>
    obtain ⟨x, hx, hp⟩ := List.any_eq_true.1 h
    obtain ⟨i, hi, rfl⟩ := List.getElem_of_mem hx
    exact anyB_iff.2 ⟨i, hi, by rw [at'_eq hi]; exact hp⟩
  | false =>
    rw [List.any_eq_false] at h
    refine anyB_false.2 (fun i hi => ?_)
    rw [at'_eq hi]
    have := h _ (List.getElem_mem hi)
    simpa using this
/-- The first place where it holds, or -1. -/
def pos {α : Type} (l : List α) (p : α → Bool) : Int := scan (at' l p) (fun i => (i : Int)) (-1) l.length 0
theorem pos_cases {α : Type} (l : List α) (p : α → Bool) : ((∀ i (h : i < l.length), p l[i] = false) ∧ pos l p = -1) ∨ ∃ j, ∃ h : j < l.length, p l[j] = true ∧ (∀ i (h : i < l.length), i < j → p l[i] = false) ∧ pos l p = (j : Int) := by
  unfold pos
  rcases scan_cases (at' l p) (fun i => (i : Int)) (-1) l.length 0 with ⟨h1, h2⟩ | ⟨j, h1, h2, h3, h4, h5⟩
  · exact .inl ⟨fun i hi => by rw [← at'_eq (p := p) hi]; exact h1 i (by omega) (by omega), h2⟩
  · refine .inr ⟨j, by omega, ?_, fun i hi hij => ?_, h5⟩
    · rw [← at'_eq (p := p) (show j < l.length by omega)]; exact h3
    · rw [← at'_eq (p := p) hi]; exact h4 i (by omega) hij
theorem pos_any {α : Type} (l : List α) (p : α → Bool) : decide (pos l p ≥ 0) = l.any p := by
  rcases pos_cases l p with ⟨h1, h2⟩ | ⟨j, h1, h2, h3, h4⟩
  · rw [h2]
    have : l.any p = false := by
      rw [List.any_eq_false]
      intro x hx
      obtain ⟨i, hi, rfl⟩ := List.getElem_of_mem hx
      rw [h1 i hi]; simp
    rw [this]; rfl
  · rw [h4]
    have : l.any p = true := List.any_eq_true.2 ⟨l[j], List.getElem_mem h1, h2⟩
    rw [this]
    simp
end Go.Sh

namespace Go.Sh
open Go.AE
set_option linter.unusedVariables false
set_option linter.unusedSimpArgs false
theorem succ_of {k c : Nat} (h : c + 1 ≤ k) : ∃ q, k = q + 1 ∧ c ≤ q := ⟨k - 1, by omega, by omega⟩
def badL (s : Str) (i : Nat) : Bool := at' s (fun c => (!(decide ((c.toNat : Int) ≥ 65) && decide ((c.toNat : Int) ≤ 90))) && (((i : Int) == 0) || (decide ((c.toNat : Int) < 48) || decide ((c.toNat : Int) > 57)))) i
def nameOk (s : Str) : Bool := !anyB (badL s) s.length && (decide ((s.length : Int) ≥ 1) && decide ((s.length : Int) ≤ 8))
theorem dbd_isName {k : Nat} {s : Str} (hk : maxLen + 2 ≤ k) (hs : wfS s) : dbd_IsName k s = some (nameOk s) := by
  obtain ⟨k, rfl, hq⟩ := succ_of hk
  unfold dbd_IsName
  unfold wfS at hs
  refine Eq.trans (loop0 (L := fun m x => dbd_IsName_L1 s _ m x) (n := s.length) (g := badL s) (r := fun _ => some false) (z := some (decide ((s.length : Int) ≥ 1) && decide ((s.length : Int) ≤ 8))) ?_ ?_ (by omega)) ?_
  rotate_left 2
  · rw [scan_const]
    unfold nameOk
    cases anyB (badL s) s.length <;> rfl
  · intro m i hi _
    simp only [dbd_IsName_L1, badL, at'_eq hi, idxS_at hi, wrap_next hi hs, Option.bind_some, show decide ((i : Int) < (s.length : Int)) = true by simp; exact hi, cond_true]
    cases decide ((s[i].toNat : Int) ≥ 65) <;> cases decide ((s[i].toNat : Int) ≤ 90) <;> cases ((i : Int) == 0) <;> cases decide ((s[i].toNat : Int) < 48) <;> cases decide ((s[i].toNat : Int) > 57) <;> rfl
  · intro m _
    simp only [dbd_IsName_L1, show decide ((s.length : Int) < (s.length : Int)) = false by simp, cond_false]
    cases decide ((s.length : Int) ≥ 1) <;> cases decide ((s.length : Int) ≤ 8) <;> rfl
theorem ref11_IsName_L1_eq (a : Str) (K : Int → Option Bool) : ∀ m x, ref11_IsName_L1 a K m x = dbd_IsName_L1 a K m x := by
  intro m
  induction m with
  | zero => intro x; rfl
  | succ m ih => intro x; simp only [ref11_IsName_L1, dbd_IsName_L1, ih]
theorem ref11_isName {k : Nat} {s : Str} (hk : maxLen + 2 ≤ k) (hs : wfS s) : ref11_IsName k s = some (nameOk s) := by
  rw [← dbd_isName hk hs]
  cases k with
  | zero => rfl
  | succ k => simp only [ref11_IsName, dbd_IsName, ref11_IsName_L1_eq]
theorem indexFunc_gen {α : Type} {l : List α} {p : α → Bool} {f : α → Option Bool} (hp : ∀ x ∈ l, f x = some (p x)) {L : Nat → Int → Option Int} {K0 : Int → Option Int}
    (hL : ∀ m x, L (m + 1) x = (bif decide (x < (l.length : Int)) then (((idx l x).bind f).bind fun o => (bif o then (some x) else L m (Go.IntKind.wrap .i64 (x + 1)))) else K0 x))
    (hK : K0 (l.length : Int) = some (-1)) (hn : l.length ≤ maxLen) {m : Nat} (hm : l.length < m) : L m 0 = some (pos l p) := by
  refine Eq.trans (loop0 (L := L) (n := l.length) (g := at' l p) (r := fun i => some (i : Int)) (z := some (-1)) ?_ ?_ hm) ?_
  rotate_left 2
  · unfold pos
    rw [scan_map some]
  · intro m i hi _
    rw [hL, at'_eq hi]
    simp only [show decide ((i : Int) < (l.length : Int)) = true by simp; exact hi, cond_true, idx_at hi, Option.bind_some, hp _ (List.getElem_mem hi), wrap_next hi hn]
  · intro m _
    rw [hL]
    simp only [show decide ((l.length : Int) < (l.length : Int)) = false by simp, cond_false, hK]
theorem indexFunc_Field {k : Nat} {l : List T_api_Field} {p : T_api_Field → Bool} {f : Nat → T_api_Field → Option Bool} (hk : l.length + 2 ≤ k) (hn : l.length ≤ maxLen) (hp : ∀ k', k' + 1 = k → ∀ x ∈ l, f k' x = some (p x)) : slices_IndexFunc_Field k l f = some (pos l p) := by
  obtain ⟨k, rfl, hq⟩ := succ_of hk
  exact indexFunc_gen (hp k rfl) (L := fun m x => slices_IndexFunc_Field_L1 k l f _ m x) (fun m x => rfl) rfl hn (by omega)
theorem indexFunc_Type {k : Nat} {l : List T_api_Type} {p : T_api_Type → Bool} {f : Nat → T_api_Type → Option Bool} (hk : l.length + 2 ≤ k) (hn : l.length ≤ maxLen) (hp : ∀ k', k' + 1 = k → ∀ x ∈ l, f k' x = some (p x)) : slices_IndexFunc_Type k l f = some (pos l p) := by
  obtain ⟨k, rfl, hq⟩ := succ_of hk
  exact indexFunc_gen (hp k rfl) (L := fun m x => slices_IndexFunc_Type_L1 k l f _ m x) (fun m x => rfl) rfl hn (by omega)
theorem indexFunc_Search {k : Nat} {l : List T_api_Search} {p : T_api_Search → Bool} {f : Nat → T_api_Search → Option Bool} (hk : l.length + 2 ≤ k) (hn : l.length ≤ maxLen) (hp : ∀ k', k' + 1 = k → ∀ x ∈ l, f k' x = some (p x)) : slices_IndexFunc_Search k l f = some (pos l p) := by
  obtain ⟨k, rfl, hq⟩ := succ_of hk
  exact indexFunc_gen (hp k rfl) (L := fun m x => slices_IndexFunc_Search_L1 k l f _ m x) (fun m x => rfl) rfl hn (by omega)
theorem indexFunc_int {k : Nat} {l : List Int} {p : Int → Bool} {f : Nat → Int → Option Bool} (hk : l.length + 2 ≤ k) (hn : l.length ≤ maxLen) (hp : ∀ k', k' + 1 = k → ∀ x ∈ l, f k' x = some (p x)) : slices_IndexFunc_int k l f = some (pos l p) := by
  obtain ⟨k, rfl, hq⟩ := succ_of hk
  exact indexFunc_gen (hp k rfl) (L := fun m x => slices_IndexFunc_int_L1 k l f _ m x) (fun m x => rfl) rfl hn (by omega)
theorem index_int {k : Nat} {l : List Int} {y : Int} (hk : l.length + 2 ≤ k) (hn : l.length ≤ maxLen) : slices_Index_int k l y = some (pos l (fun x => y == x)) := by
  obtain ⟨k, rfl, hq⟩ := succ_of hk
  exact indexFunc_gen (f := fun x => some (y == x)) (fun x _ => rfl) (L := fun m x => slices_Index_int_L1 l y _ m x) (fun m x => rfl) rfl hn (by omega)
theorem containsFunc_Field {k : Nat} {l : List T_api_Field} {p : T_api_Field → Bool} {f : Nat → T_api_Field → Option Bool} (hk : l.length + 3 ≤ k) (hn : l.length ≤ maxLen) (hp : ∀ k', k' + 2 = k → ∀ x ∈ l, f k' x = some (p x)) : slices_ContainsFunc_Field k l f = some (l.any p) := by
  obtain ⟨k, rfl, hq⟩ := succ_of hk
  simp only [slices_ContainsFunc_Field, indexFunc_Field hq hn (fun k' e => hp k' (by omega)), Option.bind_some, pos_any]
theorem containsFunc_Type {k : Nat} {l : List T_api_Type} {p : T_api_Type → Bool} {f : Nat → T_api_Type → Option Bool} (hk : l.length + 3 ≤ k) (hn : l.length ≤ maxLen) (hp : ∀ k', k' + 2 = k → ∀ x ∈ l, f k' x = some (p x)) : slices_ContainsFunc_Type k l f = some (l.any p) := by
  obtain ⟨k, rfl, hq⟩ := succ_of hk
  simp only [slices_ContainsFunc_Type, indexFunc_Type hq hn (fun k' e => hp k' (by omega)), Option.bind_some, pos_any]
theorem containsFunc_Search {k : Nat} {l : List T_api_Search} {p : T_api_Search → Bool} {f : Nat → T_api_Search → Option Bool} (hk : l.length + 3 ≤ k) (hn : l.length ≤ maxLen) (hp : ∀ k', k' + 2 = k → ∀ x ∈ l, f k' x = some (p x)) : slices_ContainsFunc_Search k l f = some (l.any p) := by
  obtain ⟨k, rfl, hq⟩ := succ_of hk
  simp only [slices_ContainsFunc_Search, indexFunc_Search hq hn (fun k' e => hp k' (by omega)), Option.bind_some, pos_any]
theorem containsFunc_int {k : Nat} {l : List Int} {p : Int → Bool} {f : Nat → Int → Option Bool} (hk : l.length + 3 ≤ k) (hn : l.length ≤ maxLen) (hp : ∀ k', k' + 2 = k → ∀ x ∈ l, f k' x = some (p x)) : slices_ContainsFunc_int k l f = some (l.any p) := by
  obtain ⟨k, rfl, hq⟩ := succ_of hk
  simp only [slices_ContainsFunc_int, indexFunc_int hq hn (fun k' e => hp k' (by omega)), Option.bind_some, pos_any]
theorem anyB_take {α : Type} {l : List α} {p : α → Bool} {i : Nat} (h : i ≤ l.length) : anyB (at' l p) i = (l.take i).any p := by
  rw [← anyB_any]
  rw [List.length_take, Nat.min_eq_left h]
  refine anyB_congr (fun j hj _ => ?_)
  rw [at'_eq (by omega), at'_eq (by rw [List.length_take]; omega)]
  congr 1
  simp
def badField (size : Int) (fs : List T_api_Field) (i : Nat) : Bool :=
  at' fs (fun f => ((!nameOk f.fName) || (decide (f.fAt < 0) || (decide (f.fAt ≥ size) || (decide (f.fBytes < 1) || decide (f.fBytes > Go.IntKind.wrap .i64 (size - f.fAt)))))) || (fs.take i).any (fun g => g.fName == f.fName)) i
theorem dbd_areFields_spec {k : Nat} {fs : List T_api_Field} {size : Int} (hk : maxLen + 5 ≤ k) (hw : wfL wf_T_api_Field fs) : dbd_areFields k fs size = some (!anyB (badField size fs) fs.length && decide ((fs.length : Int) ≤ 5)) := by
  obtain ⟨k, rfl, hq⟩ := succ_of hk
  unfold dbd_areFields
  obtain ⟨hl, hw⟩ := hw
  refine Eq.trans (loop0 (L := fun m x => dbd_areFields_L1 k fs size _ m x) (n := fs.length) (g := badField size fs) (r := fun _ => some false) (z := some (decide ((fs.length : Int) ≤ 5))) ?_ ?_ (by omega)) ?_
  rotate_left 2
  · rw [scan_const]
    cases anyB (badField size fs) fs.length <;> rfl
  · intro m i hi _
    have h1 := hw _ (List.getElem_mem hi)
    have hc : slices_ContainsFunc_Field k (fs.take i) (fun j x0 => dbd_areFields_1 j x0 fs[i]) = some ((fs.take i).any (fun g => g.fName == fs[i].fName)) := by
      refine containsFunc_Field (by rw [List.length_take]; omega) (by rw [List.length_take]; omega) (fun k' e x hx => ?_)
      obtain ⟨k', rfl, _⟩ := succ_of (show 0 + 1 ≤ k' by omega)
      rfl
    simp only [dbd_areFields_L1, badField, at'_eq hi, idx_at hi, wrap_next hi hl, Option.bind_some, show decide ((i : Int) < (fs.length : Int)) = true by simp; exact hi, cond_true, dbd_isName (show maxLen + 2 ≤ k by omega) h1.1, cut_take (show i ≤ fs.length by omega), hc]
    cases nameOk fs[i].fName <;> cases decide (fs[i].fAt < 0) <;> cases decide (fs[i].fAt ≥ size) <;> cases decide (fs[i].fBytes < 1) <;> cases decide (fs[i].fBytes > Go.IntKind.wrap .i64 (size - fs[i].fAt)) <;> cases (fs.take i).any (fun g => g.fName == fs[i].fName) <;> rfl
  · intro m _
    simp only [dbd_areFields_L1, show decide ((fs.length : Int) < (fs.length : Int)) = false by simp, cond_false]
def keyFit (t : T_api_Type) : Bool := match idx t.fFields t.fKey with | some f => decide ((Go.IntKind.wrap .i64 (f.fAt + f.fBytes)) ≤ t.fMin) | none => false
def fieldsOk (t : T_api_Type) : Bool := !anyB (badField t.fSize t.fFields) t.fFields.length && decide ((t.fFields.length : Int) ≤ 5)
def keyOk (t : T_api_Type) : Bool := bif (t.fKey == (-1)) then !t.fUnique else !(decide (t.fKey < 0) || decide (t.fKey ≥ (t.fFields.length : Int))) && keyFit t
def typeOk (t : T_api_Type) : Bool := !((!nameOk t.fName) || (decide (t.fMin < 1) || (decide (t.fMin > t.fSize) || (decide (t.fSize > 40) || !fieldsOk t)))) && keyOk t
theorem dbd_isType_spec {k : Nat} {t : T_api_Type} (hk : maxLen + 6 ≤ k) (hw : wf_T_api_Type t) : dbd_isType k t = some (typeOk t) := by
  obtain ⟨k, rfl, hq⟩ := succ_of hk
  obtain ⟨h1, _, _, _, h5, _⟩ := hw
  simp only [dbd_isType, dbd_isName (show maxLen + 2 ≤ k by omega) h1, dbd_areFields_spec (show maxLen + 5 ≤ k by omega) h5, Option.bind_some]
  unfold typeOk fieldsOk keyOk keyFit
  generalize (!anyB (badField t.fSize t.fFields) t.fFields.length && decide ((t.fFields.length : Int) ≤ 5)) = fo
  cases hx : idx t.fFields t.fKey with
  | none =>
    -- then the key is out of range
    have : decide (t.fKey < 0) = true ∨ decide (t.fKey ≥ (t.fFields.length : Int)) = true := by
      simp only [decide_eq_true_eq]
      by_cases h0 : t.fKey < 0
      · exact .inl h0
      · by_cases h2 : t.fKey ≥ (t.fFields.length : Int)
        · exact .inr h2
        · rw [idx_of (by omega) (by omega)] at hx; cases hx
    cases nameOk t.fName <;> cases decide (t.fMin < 1) <;> cases decide (t.fMin > t.fSize) <;> cases decide (t.fSize > 40) <;> cases fo <;> try rfl
    rcases this with h | h
    · rw [h]; cases (t.fKey == (-1)) <;> rfl
    · rw [h]; cases (t.fKey == (-1)) <;> cases decide (t.fKey < 0) <;> rfl
  | some f =>
    simp only [Option.bind_some]
    cases nameOk t.fName <;> cases decide (t.fMin < 1) <;> cases decide (t.fMin > t.fSize) <;> cases decide (t.fSize > 40) <;> cases fo <;> cases (t.fKey == (-1)) <;> cases decide (t.fKey < 0) <;> cases decide (t.fKey ≥ (t.fFields.length : Int)) <;> rfl
/-- The reference's fields. -/
def fieldsR (t : T_api_Type) : Bool := !anyB (badField t.fSize t.fFields) t.fFields.length && (!(decide (t.fKey < (-1)) || (decide (t.fKey ≥ (t.fFields.length : Int)) || (decide (t.fKey < 0) && t.fUnique))) && (decide ((t.fFields.length : Int) ≤ 5) && (decide (t.fKey < 0) || keyFit t)))
theorem ref11_fields_spec {k : Nat} {t : T_api_Type} (hk : maxLen + 5 ≤ k) (hw : wf_T_api_Type t) : ref11_fields k t = some (fieldsR t) := by
  obtain ⟨k, rfl, hq⟩ := succ_of hk
  unfold ref11_fields
  obtain ⟨_, _, _, _, ⟨hl, hw⟩, _⟩ := hw
  refine Eq.trans (loop0 (L := fun m x => ref11_fields_L1 k t _ m x) (n := t.fFields.length) (g := badField t.fSize t.fFields) (r := fun _ => some false) (z := some (!(decide (t.fKey < (-1)) || (decide (t.fKey ≥ (t.fFields.length : Int)) || (decide (t.fKey < 0) && t.fUnique))) && (decide ((t.fFields.length : Int) ≤ 5) && (decide (t.fKey < 0) || keyFit t)))) ?_ ?_ (by omega)) ?_
  rotate_left 2
  · rw [scan_const]
    unfold fieldsR
    cases anyB (badField t.fSize t.fFields) t.fFields.length <;> rfl
  · intro m i hi _
    have h1 := hw _ (List.getElem_mem hi)
    simp only [ref11_fields_L1, badField, at'_eq hi, idx_at hi, wrap_next hi hl, Option.bind_some, show decide ((i : Int) < (t.fFields.length : Int)) = true by simp; exact hi, cond_true, ref11_isName (show maxLen + 2 ≤ k by omega) h1.1]
    have hin : ∀ (K : Option Bool), ref11_fields_L2 t (i : Int) t.fFields[i] (fun _ => K) k 0 = bif (t.fFields.take i).any (fun g => g.fName == t.fFields[i].fName) then some false else K := by
      intro K
      rw [← anyB_take (show i ≤ t.fFields.length by omega)]
      refine Eq.trans (loop0 (L := fun m x => ref11_fields_L2 t (i : Int) t.fFields[i] _ m x) (n := i) (g := at' t.fFields (fun g => g.fName == t.fFields[i].fName)) (r := fun _ => some false) (z := K) ?_ ?_ (by omega)) (scan_const i)
      · intro m j hj _
        have hj' : j < t.fFields.length := by omega
        simp only [ref11_fields_L2, at'_eq hj', idx_at hj', wrap_next hj' hl, Option.bind_some, show decide ((j : Int) < (i : Int)) = true by simp; exact hj, cond_true]
      · intro m _
        simp only [ref11_fields_L2, show decide ((i : Int) < (i : Int)) = false by simp, cond_false]
    rw [hin]
    -- 'at' may be at the end in the reference: then no byte is left
    by_cases he : t.fFields[i].fAt = t.fSize
    · have e1 : decide (t.fFields[i].fAt > t.fSize) = false := by simp; omega
      have e2 : decide (t.fFields[i].fAt ≥ t.fSize) = true := by simp; omega
      have e3 : Go.IntKind.wrap .i64 (t.fSize - t.fFields[i].fAt) = 0 := by rw [he, Int.sub_self]; rfl
      rw [e1, e2, e3]
      have e4 : (decide (t.fFields[i].fBytes < 1) || decide (t.fFields[i].fBytes > 0)) = true := by
        simp only [Bool.or_eq_true, decide_eq_true_eq]; omega
      cases nameOk t.fFields[i].fName <;> cases decide (t.fFields[i].fAt < 0) <;> cases h : decide (t.fFields[i].fBytes < 1) <;> cases h' : decide (t.fFields[i].fBytes > 0) <;> first | rfl | (rw [h, h'] at e4; cases e4)
    · have e1 : decide (t.fFields[i].fAt > t.fSize) = decide (t.fFields[i].fAt ≥ t.fSize) := by
        apply decide_eq_decide.2; omega
      rw [e1]
      cases nameOk t.fFields[i].fName <;> cases decide (t.fFields[i].fAt < 0) <;> cases decide (t.fFields[i].fAt ≥ t.fSize) <;> cases decide (t.fFields[i].fBytes < 1) <;> cases decide (t.fFields[i].fBytes > Go.IntKind.wrap .i64 (t.fSize - t.fFields[i].fAt)) <;> rfl
  · intro m _
    simp only [ref11_fields_L1, show decide ((t.fFields.length : Int) < (t.fFields.length : Int)) = false by simp, cond_false]
    unfold keyFit
    cases hx : idx t.fFields t.fKey with
    | none =>
      have : decide (t.fKey < 0) = true ∨ decide (t.fKey ≥ (t.fFields.length : Int)) = true := by
        simp only [decide_eq_true_eq]
        by_cases h0 : t.fKey < 0
        · exact .inl h0
        · by_cases h2 : t.fKey ≥ (t.fFields.length : Int)
          · exact .inr h2
          · rw [idx_of (by omega) (by omega)] at hx; cases hx
      cases h1 : decide (t.fKey < (-1)) <;> cases h2 : decide (t.fKey ≥ (t.fFields.length : Int)) <;> cases h3 : decide (t.fKey < 0) <;> cases t.fUnique <;> cases decide ((t.fFields.length : Int) ≤ 5) <;> first | rfl | (rw [h2, h3] at this; simp at this)
    | some f =>
      simp only [Option.bind_some]
      cases decide (t.fKey < (-1)) <;> cases decide (t.fKey ≥ (t.fFields.length : Int)) <;> cases decide (t.fKey < 0) <;> cases t.fUnique <;> cases decide ((t.fFields.length : Int) ≤ 5) <;> rfl
/-- They agree. -/
theorem fieldsR_eq (t : T_api_Type) : fieldsR t = (fieldsOk t && keyOk t) := by
  unfold fieldsR fieldsOk keyOk
  have hb : ∀ x : Bool, (decide ((t.fFields.length : Int) ≤ 5) && x) = (x && decide ((t.fFields.length : Int) ≤ 5)) := fun x => Bool.and_comm _ _
  have key : (!(decide (t.fKey < (-1)) || (decide (t.fKey ≥ (t.fFields.length : Int)) || (decide (t.fKey < 0) && t.fUnique))) && (decide (t.fKey < 0) || keyFit t)) =
      (bif (t.fKey == (-1)) then !t.fUnique else !(decide (t.fKey < 0) || decide (t.fKey ≥ (t.fFields.length : Int))) && keyFit t) := by
    by_cases h1 : t.fKey = -1
    · have e1 : decide (t.fKey < (-1)) = false := by simp; omega
      have e2 : decide (t.fKey ≥ (t.fFields.length : Int)) = false := by simp; omega
      have e3 : decide (t.fKey < 0) = true := by simp; omega
      have e4 : (t.fKey == (-1)) = true := by simp; exact h1
      rw [e1, e2, e3, e4]
      cases t.fUnique <;> rfl
    · have e4 : (t.fKey == (-1)) = false := by simp; exact h1
      rw [e4]
      by_cases h2 : t.fKey < 0
      · have e1 : decide (t.fKey < (-1)) = true := by simp; omega
        have e3 : decide (t.fKey < 0) = true := by simp; omega
        rw [e1, e3]; rfl
      · have e1 : decide (t.fKey < (-1)) = false := by simp; omega
        have e3 : decide (t.fKey < 0) = false := by simp; omega
        rw [e1, e3]
        cases decide (t.fKey ≥ (t.fFields.length : Int)) <;> rfl
  rw [Bool.and_assoc, ← key]
  congr 1
  cases decide ((t.fFields.length : Int) ≤ 5) <;> simp
end Go.Sh

namespace Go.Sh
open Go.AE
set_option linter.unusedVariables false
set_option linter.unusedSimpArgs false
/-- From the root to 'x'. -/
def chain (ts : List T_api_Type) : Nat → Int → List Int
  | 0, _ => []
  | d + 1, x => if 0 ≤ x then (match ts[x.toNat]? with | some t => chain ts d t.fParent ++ [x] | none => []) else []
def way (ts : List T_api_Type) (x : Nat) : List Int := chain ts (x + 1) (x : Int)
/-- Parents come first, below 'n'. -/
def Up (ts : List T_api_Type) (n : Nat) : Prop := ∀ j (h : j < ts.length), j < n → (ts[j]).fParent < (j : Int)
theorem Up.mono {ts : List T_api_Type} {n m : Nat} (h : Up ts n) (hm : m ≤ n) : Up ts m := fun j hj hjm => h j hj (by omega)
theorem chain_neg {ts : List T_api_Type} {d : Nat} {x : Int} (h : x < 0) : chain ts d x = [] := by
  cases d with
  | zero => rfl
  | succ d => rw [chain, if_neg (by omega)]
theorem chain_stable {ts : List T_api_Type} {n : Nat} (hu : Up ts n) : ∀ (d d' : Nat) (x : Int), x < (d : Int) → x < (d' : Int) → x < (n : Int) → chain ts d x = chain ts d' x
  | 0, d', x, h, h', hn => by rw [chain_neg (d := 0) (by omega), chain_neg (by omega)]
  | d + 1, 0, x, h, h', hn => by rw [chain_neg (by omega), chain_neg (by omega)]
  | d + 1, d' + 1, x, h, h', hn => by
    by_cases h0 : 0 ≤ x
    · simp only [chain, if_pos h0]
      cases ht : ts[x.toNat]? with
      | none => rfl
      | some t =>
        have hlt : x.toNat < ts.length := by
          rcases Nat.lt_or_ge x.toNat ts.length with h1 | h1
          · exact h1
          · rw [List.getElem?_eq_none h1] at ht; cases ht
        have he : ts[x.toNat] = t := by rw [List.getElem?_eq_getElem hlt] at ht; exact Option.some.inj ht
        have := hu x.toNat hlt (by omega)
        rw [he] at this
        simp only
        rw [chain_stable hu d d' t.fParent (by omega) (by omega) (by omega)]
    · rw [chain_neg (by omega), chain_neg (by omega)]
theorem chain_way {ts : List T_api_Type} {n d : Nat} (hu : Up ts n) {x : Int} (h0 : 0 ≤ x) (hd : x < (d : Int)) (hn : x < (n : Int)) : chain ts d x = way ts x.toNat := by
  unfold way
  rw [show ((x.toNat : Nat) : Int) = x by omega]
  exact chain_stable hu _ _ x hd (by omega) hn
theorem way_succ {ts : List T_api_Type} {n x : Nat} (hu : Up ts n) (hn : x < n) (hx : x < ts.length) : way ts x = chain ts n (ts[x]).fParent ++ [(x : Int)] := by
  unfold way
  rw [chain, if_pos (by omega), Int.toNat_natCast, List.getElem?_eq_getElem hx]
  simp only
  have := hu x hx hn
  rw [chain_stable hu x n _ this (by omega) (by omega)]
theorem chain_lt {ts : List T_api_Type} {n : Nat} (hu : Up ts n) : ∀ (d : Nat) (x : Int), x < (n : Int) → ∀ y ∈ chain ts d x, 0 ≤ y ∧ y ≤ x
  | 0, _, _, y, hy => by cases hy
  | d + 1, x, hn, y, hy => by
    by_cases h0 : 0 ≤ x
    · simp only [chain, if_pos h0] at hy
      cases ht : ts[x.toNat]? with
      | none => rw [ht] at hy; cases hy
      | some t =>
        rw [ht] at hy
        have hlt : x.toNat < ts.length := by
          rcases Nat.lt_or_ge x.toNat ts.length with h1 | h1
          · exact h1
          · rw [List.getElem?_eq_none h1] at ht; cases ht
        have he : ts[x.toNat] = t := by rw [List.getElem?_eq_getElem hlt] at ht; exact Option.some.inj ht
        have hp := hu x.toNat hlt (by omega)
        rw [he] at hp
        simp only [List.mem_append, List.mem_singleton] at hy
        rcases hy with hy | hy
        · have := chain_lt hu d t.fParent (by omega) y hy
          omega
        · omega
    · rw [chain_neg (by omega)] at hy; cases hy
theorem chain_len {ts : List T_api_Type} : ∀ (d : Nat) (x : Int), (chain ts d x).length ≤ d
  | 0, _ => Nat.le_refl 0
  | d + 1, x => by
    rw [chain]
    split
    · split
      · have := chain_len (ts := ts) d (by assumption : T_api_Type).fParent
        simp
        omega
      · exact Nat.zero_le _
    · exact Nat.zero_le _
theorem pos_eq {α : Type} {l : List α} {p : α → Bool} {j : Nat} (h : j < l.length) (hp : p l[j] = true) (hb : ∀ i (h : i < l.length), i < j → p l[i] = false) : pos l p = (j : Int) := by
  rcases pos_cases l p with ⟨h1, _⟩ | ⟨q, h1, h2, h3, h4⟩
  · rw [h1 j h] at hp; cases hp
  · rw [h4]
    rcases Nat.lt_trichotomy q j with h5 | h5 | h5
    · rw [hb q h1 h5] at h2; cases h2
    · rw [h5]
    · rw [h3 j h h5] at hp; cases hp
theorem pos_none {α : Type} {l : List α} {p : α → Bool} (h : l.any p = false) : pos l p = -1 := by
  rcases pos_cases l p with ⟨_, h2⟩ | ⟨j, h1, h2, _, _⟩
  · exact h2
  · rw [List.any_eq_false] at h
    have := h _ (List.getElem_mem h1)
    rw [h2] at this; simp at this
/-- Up to one that is on the way: its own way. -/
theorem way_cut {ts : List T_api_Type} {n : Nat} (hu : Up ts n) : ∀ (d : Nat) (x : Int), x < (d : Int) → x < (n : Int) → ∀ y : Int, y ∈ chain ts d x → (chain ts d x).take ((pos (chain ts d x) (fun z => y == z)) + 1).toNat = way ts y.toNat
  | 0, _, _, _, y, hy => by cases hy
  | d + 1, x, hd, hn, y, hy => by
    by_cases h0 : 0 ≤ x
    · have hy1 := hy
      simp only [chain, if_pos h0] at hy1 ⊢
      cases ht : ts[x.toNat]? with
      | none => rw [ht] at hy1; cases hy1
      | some t =>
        rw [ht] at hy1
        simp only at hy1 ⊢
        have hlt : x.toNat < ts.length := by
          rcases Nat.lt_or_ge x.toNat ts.length with h1 | h1
          · exact h1
          · rw [List.getElem?_eq_none h1] at ht; cases ht
        have he : ts[x.toNat] = t := by rw [List.getElem?_eq_getElem hlt] at ht; exact Option.some.inj ht
        have hp := hu x.toNat hlt (by omega)
        rw [he] at hp
        have hlow := chain_lt hu d t.fParent (by omega)
        by_cases hyx : y = x
        · subst hyx
          have hps : pos (chain ts d t.fParent ++ [y]) (fun z => y == z) = ((chain ts d t.fParent).length : Int) := by
            refine pos_eq (by simp) (by simp) (fun i hi hij => ?_)
            rw [List.getElem_append_left hij]
            have := hlow _ (List.getElem_mem hij)
            simp only [beq_eq_false_iff_ne, ne_eq]
            omega
          rw [hps]
          have e1 : (((chain ts d t.fParent).length : Int) + 1).toNat = (chain ts d t.fParent).length + 1 := by omega
          rw [e1, List.take_of_length_le (by simp)]
          rw [way_succ hu (show y.toNat < n by omega) hlt, he]
          rw [chain_stable hu d n t.fParent (by omega) (by omega) (by omega)]
          rw [show ((y.toNat : Nat) : Int) = y by omega]
        · have hy2 : y ∈ chain ts d t.fParent := by
            simp only [List.mem_append, List.mem_singleton] at hy1
            rcases hy1 with h | h
            · exact h
            · exact absurd h hyx
          rcases pos_cases (chain ts d t.fParent) (fun z => y == z) with ⟨g1, _⟩ | ⟨j, g1, g2, g3, g4⟩
          · obtain ⟨i, hi, he2⟩ := List.getElem_of_mem hy2
            have := g1 i hi
            rw [he2] at this; simp at this
          · have hps : pos (chain ts d t.fParent ++ [x]) (fun z => y == z) = (j : Int) := by
              refine pos_eq (by simp; omega) (by rw [List.getElem_append_left g1]; exact g2) (fun i hi hij => ?_)
              rw [List.getElem_append_left (by omega)]
              exact g3 i (by omega) hij
            have ih := way_cut hu d t.fParent (by omega) (by omega) y hy2
            rw [g4] at ih
            rw [hps, List.take_append_of_le_length (by omega)]
            exact ih
    · rw [chain_neg (by omega)] at hy; cases hy
def dupType (ts : List T_api_Type) (i : Nat) : Bool := at' ts (fun t => (ts.take i).any (fun g => g.fName == t.fName)) i
def rootBad (t : T_api_Type) : Bool := (t.fParent != (-1)) || (decide (t.fKey < 0) || (!t.fUnique || (match idx t.fFields t.fKey with | some f => decide (f.fBytes > 24) | none => true)))
def before (ts : List T_api_Type) : Nat → List Int
  | 0 => []
  | i + 1 => way ts i
def badType (ts : List T_api_Type) (i : Nat) : Bool := at' ts (fun t => (!typeOk t || dupType ts i) || ((bif Nat.beq i 0 then rootBad t else !(before ts i).any (fun z => t.fParent == z)) || decide (((way ts i).length : Int) > 5))) i
def typesOk (ts : List T_api_Type) : Bool := !(decide ((ts.length : Int) < 1) || decide ((ts.length : Int) > 8)) && !anyB (badType ts) ts.length
/-- As long as no type is bad, parents come first. -/
theorem up_of {ts : List T_api_Type} : ∀ (n : Nat), (∀ j, j < n → badType ts j = false) → Up ts n
  | 0, _ => fun j _ h => by omega
  | n + 1, h => by
    have ih := up_of n (fun j hj => h j (by omega))
    intro j hj hjn
    by_cases e : j < n
    · exact ih j hj e
    · have hjn' : j = n := by omega
      subst hjn'
      have hb := h j (by omega)
      rw [badType, at'_eq hj] at hb
      cases j with
      | zero =>
        simp only [Bool.or_eq_false_iff, show Nat.beq 0 0 = true from rfl, cond_true, rootBad] at hb
        have := hb.2.1.1
        simp at this
        omega
      | succ q =>
        simp only [Bool.or_eq_false_iff, show Nat.beq (q + 1) 0 = false from rfl, cond_false] at hb
        have h2 := hb.2.1
        simp only [Bool.not_eq_false', List.any_eq_true] at h2
        obtain ⟨z, hz, he⟩ := h2
        have hz' : z ∈ way ts q := hz
        have := chain_lt ih (q + 1) q (by omega) z hz'
        have he' : (ts[q + 1]).fParent = z := by simpa using he
        omega
theorem dbd_areTypes_spec {k : Nat} {ts : List T_api_Type} (hk : maxLen + 8 ≤ k) (hw : wfL wf_T_api_Type ts) : dbd_areTypes k ts = some (typesOk ts) := by
  obtain ⟨k, rfl, hq⟩ := succ_of hk
  obtain ⟨hl, hw⟩ := hw
  have e63 := maxLen_eq
  unfold dbd_areTypes typesOk
  by_cases hlen : 1 ≤ ts.length ∧ ts.length ≤ 8
  · obtain ⟨hlen1, hlen2⟩ := hlen
    simp only [show decide ((ts.length : Int) < 1) = false by simp; omega, show decide ((ts.length : Int) > 8) = false by simp; omega, cond_false, Option.bind_some, Bool.or_false, Bool.not_false, Bool.true_and]
    refine Eq.trans (loopS (L := fun m x s => dbd_areTypes_L1 k ts _ m x s) (n := ts.length) (σ := before ts) (g := badType ts) (r := fun _ => some false) (z := some true) ?_ ?_ (by omega) rfl) ?_
    rotate_left 2
    · rw [scan_const]
      cases anyB (badType ts) ts.length <;> rfl
    · intro m i hi hb
      have h1 := hw _ (List.getElem_mem hi)
      have hup := up_of i hb
      have hc : slices_ContainsFunc_Type k (ts.take i) (fun j x0 => dbd_areTypes_1 j x0 ts[i]) = some (dupType ts i) := by
        rw [dupType, at'_eq hi]
        refine containsFunc_Type (by rw [List.length_take]; omega) (by rw [List.length_take]; omega) (fun k' e x hx => ?_)
        obtain ⟨k', rfl, _⟩ := succ_of (show 0 + 1 ≤ k' by omega)
        rfl
      have hbl : (before ts i).length ≤ 8 := by
        cases i with
        | zero => exact Nat.zero_le _
        | succ q => have := chain_len (ts := ts) (q + 1) q; show (way ts q).length ≤ 8; unfold way; omega
      simp only [dbd_areTypes_L1, idx_at hi, wrap_next hi hl, Option.bind_some, show decide ((i : Int) < (ts.length : Int)) = true by simp; exact hi, cond_true, dbd_isType_spec (show maxLen + 6 ≤ k by omega) h1, cut_take (show i ≤ ts.length by omega), hc,
        index_int (show (before ts i).length + 2 ≤ k by omega) (show (before ts i).length ≤ maxLen by omega)]
      rw [badType, at'_eq hi]
      cases hto : typeOk ts[i] with
      | false => rfl
      | true =>
        cases hdt : dupType ts i with
        | true => rfl
        | false =>
          simp only [Bool.not_true, cond_false, Option.bind_some, Bool.or_false, Bool.false_or]
          cases i with
          | zero =>
            simp only [show (((0 : Nat) : Int) == 0) = true from rfl, cond_true, show Nat.beq 0 0 = true from rfl, show decide (((0 : Nat) : Int) > 0) = false from rfl, cond_false]
            have hroot : (bif ((ts[0]).fParent != (-1)) then (some (true)) else (bif (decide ((ts[0]).fKey < 0)) then (some (true)) else (bif (!(ts[0]).fUnique) then (some (true)) else ((idx (ts[0]).fFields (ts[0]).fKey).bind fun v25 => (bif (decide (v25.fBytes > 24)) then (some (true)) else some false))))) = some (rootBad ts[0]) := by
              unfold rootBad
              cases hx : idx (ts[0]).fFields (ts[0]).fKey with
              | none =>
                -- the key of a type that is right is there, or negative
                have hneg : decide ((ts[0]).fKey < 0) = true := by
                  simp only [decide_eq_true_eq]
                  by_cases h0 : (ts[0]).fKey < 0
                  · exact h0
                  · exfalso
                    have hko : keyOk ts[0] = true := by
                      unfold typeOk at hto
                      simp only [Bool.and_eq_true] at hto
                      exact hto.2
                    unfold keyOk at hko
                    have : ((ts[0]).fKey == (-1)) = false := by simp; omega
                    rw [this, cond_false] at hko
                    unfold keyFit at hko
                    rw [hx] at hko
                    simp at hko
                rw [hneg]
                cases ((ts[0]).fParent != (-1)) <;> rfl
              | some f =>
                simp only [Option.bind_some]
                cases ((ts[0]).fParent != (-1)) <;> cases decide ((ts[0]).fKey < 0) <;> cases (ts[0]).fUnique <;> cases decide (f.fBytes > 24) <;> rfl
            rw [hroot]
            cases hrb : rootBad ts[0] with
            | true => simp
            | false =>
              have hpar : (ts[0]).fParent = -1 := by
                unfold rootBad at hrb
                simp only [Bool.or_eq_false_iff] at hrb
                simpa using hrb.1
              have hway : way ts 0 = [0] := by
                unfold way
                rw [chain, if_pos (by omega), Int.toNat_natCast, List.getElem?_eq_getElem hi]
                simp [chain]
              have hpn : pos (before ts 0) (fun x => (ts[0]).fParent == x) = -1 := rfl
              rw [hpn]
              have hup0 : upTo (before ts 0) (Go.IntKind.wrap .i64 (-1 + 1)) = some 0 := rfl
              simp only [Option.bind_some, cond_false, hup0]
              rw [app_ok (by simp [before, maxList])]
              simp only [Option.bind_some, before, List.take_nil, List.nil_append, hway]
              rfl
          | succ q =>
            simp only [show ((((q + 1 : Nat)) : Int) == 0) = false by simp; omega, cond_false, show Nat.beq (q + 1) 0 = false from rfl, show decide ((((q + 1 : Nat)) : Int) > 0) = true by simp, cond_true, Option.bind_some]
            have hbe : before ts (q + 1) = chain ts (q + 1) q := rfl
            cases hany : (before ts (q + 1)).any (fun z => (ts[q + 1]).fParent == z) with
            | false =>
              rw [pos_none hany]
              rfl
            | true =>
              obtain ⟨y, hy, he⟩ := List.any_eq_true.1 hany
              have he' : (ts[q + 1]).fParent = y := by simpa using he
              have hylt := chain_lt hup (q + 1) q (by omega) y (by rw [← hbe]; exact hy)
              have hcut := way_cut hup (q + 1) q (by omega) (by omega) y (by rw [← hbe]; exact hy)
              rw [← hbe] at hcut
              rcases pos_cases (before ts (q + 1)) (fun z => (ts[q + 1]).fParent == z) with ⟨g1, _⟩ | ⟨j, g1, g2, g3, g4⟩
              · exfalso
                obtain ⟨ii, hii, hee⟩ := List.getElem_of_mem hy
                have := g1 ii hii
                rw [hee] at this
                rw [this] at he; cases he
              · have hcut' : (before ts (q + 1)).take ((pos (before ts (q + 1)) (fun z => (ts[q + 1]).fParent == z)) + 1).toNat = way ts y.toNat := by
                  rw [he']; exact hcut
                rw [g4] at hcut' ⊢
                have hdn : decide ((j : Int) < 0) = false := by simp
                have hwr : Go.IntKind.wrap .i64 ((j : Int) + 1) = ((j + 1 : Nat) : Int) := wrap_next (n := (before ts (q + 1)).length) g1 (by omega)
                have hut : upTo (before ts (q + 1)) ((j + 1 : Nat) : Int) = some (j + 1) := by
                  unfold upTo
                  rw [if_pos ⟨by omega, by omega⟩]
                  simp
                have hcut2 : (before ts (q + 1)).take (j + 1) = way ts y.toNat := by
                  rw [← hcut']; congr 1
                have hwl : (way ts y.toNat).length ≤ 8 := by
                  have := chain_len (ts := ts) (y.toNat + 1) (y.toNat : Int)
                  show (chain ts (y.toNat + 1) (y.toNat : Int)).length ≤ 8
                  omega
                have hnext : way ts (q + 1) = way ts y.toNat ++ [((q + 1 : Nat) : Int)] := by
                  have hup2 : Up ts (q + 2) := by
                    intro jj hjj hjn
                    by_cases e : jj < q + 1
                    · exact hup jj hjj e
                    · have : jj = q + 1 := by omega
                      subst this
                      omega
                  rw [way_succ hup2 (by omega) hi, he', chain_way hup2 hylt.1 (by omega) (by omega)]
                simp only [hdn, hwr, hut, cond_false, Option.bind_some, hcut2]
                rw [app_ok (by simp only [List.length_cons, List.length_nil, maxList]; omega)]
                simp only [Option.bind_some, ← hnext, Bool.not_true, Bool.false_or]
                rfl
    · intro m _
      simp only [dbd_areTypes_L1, show decide ((ts.length : Int) < (ts.length : Int)) = false by simp, cond_false]
  · by_cases h1 : ts.length < 1
    · simp only [show decide ((ts.length : Int) < 1) = true by simp; omega, cond_true, Option.bind_some, Bool.true_or, Bool.not_true, Bool.false_and]
    · have h2 : ts.length > 8 := by omega
      simp only [show decide ((ts.length : Int) < 1) = false by simp; omega, show decide ((ts.length : Int) > 8) = true by simp; omega, cond_true, cond_false, Option.bind_some, Bool.or_true, Bool.not_true, Bool.false_and]
end Go.Sh

namespace Go.Sh
open Go.AE
set_option linter.unusedVariables false
set_option linter.unusedSimpArgs false
def dupIndex (xs : List T_api_Search) (i : Nat) : Bool := at' xs (fun t => (xs.take i).any (fun g => g.fName == t.fName)) i
def fieldBad (ts : List T_api_Type) (x : T_api_Search) : Bool :=
  match idx ts x.fType with | none => true | some t => decide (x.fField < 0) || (decide (x.fField ≥ (t.fFields.length : Int)) || (match idx t.fFields x.fField with | none => true | some f => decide (f.fBytes > 20)))
def badIndex (ts : List T_api_Type) (xs : List T_api_Search) (i : Nat) : Bool :=
  at' xs (fun x => ((!nameOk x.fName) || (decide (x.fType < 0) || (decide (x.fType ≥ (ts.length : Int)) || (decide ((x.fSparse.length : Int) > 1) || dupIndex xs i)))) || fieldBad ts x) i
def indexesOk (ts : List T_api_Type) (xs : List T_api_Search) : Bool := !anyB (badIndex ts xs) xs.length && decide ((xs.length : Int) ≤ 3)
theorem dbd_areIndexes_spec {k : Nat} {ts : List T_api_Type} {xs : List T_api_Search} (hk : maxLen + 6 ≤ k) (hw : wfL wf_T_api_Search xs) : dbd_areIndexes k xs ts = some (indexesOk ts xs) := by
  obtain ⟨k, rfl, hq⟩ := succ_of hk
  obtain ⟨hl, hw⟩ := hw
  unfold dbd_areIndexes indexesOk
  refine Eq.trans (loop0 (L := fun m x => dbd_areIndexes_L1 k xs ts _ m x) (n := xs.length) (g := badIndex ts xs) (r := fun _ => some false) (z := some (decide ((xs.length : Int) ≤ 3))) ?_ ?_ (by omega)) ?_
  rotate_left 2
  · rw [scan_const]
    cases anyB (badIndex ts xs) xs.length <;> rfl
  · intro m i hi _
    have h1 := hw _ (List.getElem_mem hi)
    have hc : slices_ContainsFunc_Search k (xs.take i) (fun j x0 => dbd_areIndexes_1 j x0 xs[i]) = some (dupIndex xs i) := by
      rw [dupIndex, at'_eq hi]
      refine containsFunc_Search (by rw [List.length_take]; omega) (by rw [List.length_take]; omega) (fun k' e x hx => ?_)
      obtain ⟨k', rfl, _⟩ := succ_of (show 0 + 1 ≤ k' by omega)
      rfl
    simp only [dbd_areIndexes_L1, badIndex, at'_eq hi, idx_at hi, wrap_next hi hl, Option.bind_some, show decide ((i : Int) < (xs.length : Int)) = true by simp; exact hi, cond_true, dbd_isName (show maxLen + 2 ≤ k by omega) h1.1, cut_take (show i ≤ xs.length by omega), hc]
    unfold fieldBad
    cases hn : nameOk xs[i].fName with
    | false => rfl
    | true =>
      cases h2 : decide (xs[i].fType < 0) with
      | true => rfl
      | false =>
        cases h3 : decide (xs[i].fType ≥ (ts.length : Int)) with
        | true => rfl
        | false =>
          cases decide ((xs[i].fSparse.length : Int) > 1) with
          | true => rfl
          | false =>
            cases dupIndex xs i with
            | true => rfl
            | false =>
              simp only [decide_eq_false_iff_not] at h2 h3
              rw [idx_of (show 0 ≤ xs[i].fType by omega) (by omega)]
              simp only [Bool.not_true, cond_false, Option.bind_some, Bool.or_false, Bool.false_or]
              generalize ts[(xs[i].fType).toNat]'_ = t
              cases h4 : decide (xs[i].fField < 0) with
              | true => rfl
              | false =>
                cases h5 : decide (xs[i].fField ≥ (t.fFields.length : Int)) with
                | true => rfl
                | false =>
                  simp only [decide_eq_false_iff_not] at h4 h5
                  rw [idx_of (show 0 ≤ xs[i].fField by omega) (by omega)]
                  simp only [cond_false, Option.bind_some, Bool.false_or]
  · intro m _
    simp only [dbd_areIndexes_L1, show decide ((xs.length : Int) < (xs.length : Int)) = false by simp, cond_false]
def valid (b : T_api_Base) : Bool := nameOk b.fName && (decide (b.fKind ≥ 1) && (decide (b.fKind ≤ 4) && (typesOk b.fTypes && indexesOk b.fTypes b.fIndexes)))
theorem dbd_valid {k : Nat} {b : T_api_Base} (hk : maxLen + 9 ≤ k) (hw : wf_T_api_Base b) : dbd_Valid k b = some (valid b) := by
  obtain ⟨k, rfl, hq⟩ := succ_of hk
  obtain ⟨h1, _, h3, h4, _⟩ := hw
  simp only [dbd_Valid, dbd_isName (show maxLen + 2 ≤ k by omega) h1, dbd_areTypes_spec hq h3, dbd_areIndexes_spec (show maxLen + 6 ≤ k by omega) h4, Option.bind_some]
  unfold valid
  cases nameOk b.fName <;> cases decide (b.fKind ≥ 1) <;> cases decide (b.fKind ≤ 4) <;> cases typesOk b.fTypes <;> rfl
theorem ref11_way_L1_spec {b : T_api_Base} {n : Nat} (hu : Up b.fTypes n) (hlen : n ≤ b.fTypes.length) (hs : n ≤ 1000) : ∀ (d : Nat) (x : Int) (w : List Int) (m : Nat), x < (d : Int) → x < (n : Int) → d < m → w.length + d ≤ 1000 →
    ref11_way_L1 b (fun y11 y12 => some y12) m x w = some (chain b.fTypes d x ++ w)
  | d, x, w, 0, _, _, hm, _ => by omega
  | d, x, w, m + 1, hd, hn, hm, hwl => by
    rw [ref11_way_L1]
    by_cases h0 : 0 ≤ x
    · have hx : x.toNat < b.fTypes.length := by omega
      have hp := hu x.toNat hx (by omega)
      cases d with
      | zero => omega
      | succ d =>
        simp only [show decide (x ≥ 0) = true by simp; omega, cond_true, idx_of h0 (show x < (b.fTypes.length : Int) by omega), Option.bind_some]
        rw [app_ok (by simp only [List.length_cons, List.length_nil, maxList]; omega)]
        simp only [Option.bind_some]
        rw [ref11_way_L1_spec hu hlen hs d _ _ m (by omega) (by omega) (by omega) (by simp; omega)]
        rw [chain, if_pos h0, List.getElem?_eq_getElem hx]
        simp
    · rw [chain_neg (by omega)]
      simp only [show decide (x ≥ 0) = false by simp; omega, cond_false, List.nil_append]
theorem ref11_way_spec {k : Nat} {b : T_api_Base} {n i : Nat} (hu : Up b.fTypes n) (hlen : n ≤ b.fTypes.length) (hs : n ≤ 500) (hi : i < n) (hk : 1000 ≤ k) : ref11_way k b (i : Int) = some (way b.fTypes i) := by
  obtain ⟨k, rfl, hq⟩ := succ_of (c := 999) (by omega : 999 + 1 ≤ k)
  refine Eq.trans (show ref11_way (k + 1) b (i : Int) = ref11_way_L1 b (fun y11 y12 => some y12) k (i : Int) [] from rfl) ?_
  rw [ref11_way_L1_spec hu hlen (by omega) (i + 1) (i : Int) [] k (by omega) (by omega) (by omega) (by simp; omega)]
  rw [List.append_nil]; rfl
theorem ref11_above_L1_spec {b : T_api_Base} {n : Nat} {a : Int} (hu : Up b.fTypes n) (hlen : n ≤ b.fTypes.length) : ∀ (d : Nat) (x : Int) (m : Nat), x < (d : Int) → x < (n : Int) → d < m →
    ref11_above_L1 b a (fun y8 => some false) m x = some ((chain b.fTypes d x).any (fun z => a == z))
  | d, x, 0, _, _, hm => by omega
  | d, x, m + 1, hd, hn, hm => by
    rw [ref11_above_L1]
    by_cases h0 : 0 ≤ x
    · have hx : x.toNat < b.fTypes.length := by omega
      have hp := hu x.toNat hx (by omega)
      cases d with
      | zero => omega
      | succ d =>
        simp only [show decide (x ≥ 0) = true by simp; omega, cond_true, idx_of h0 (show x < (b.fTypes.length : Int) by omega), Option.bind_some]
        rw [chain, if_pos h0, List.getElem?_eq_getElem hx]
        simp only [List.any_append, List.any_cons, List.any_nil, Bool.or_false]
        by_cases e : x = a
        · subst e; simp
        · have e1 : (x == a) = false := by simpa using e
          have e2 : (a == x) = false := by simpa using fun h => e h.symm
          rw [e1, e2, cond_false, Bool.or_false]
          exact ref11_above_L1_spec hu hlen d _ m (by omega) (by omega) (by omega)
    · rw [chain_neg (by omega)]
      simp only [show decide (x ≥ 0) = false by simp; omega, cond_false, List.any_nil]
theorem ref11_above_spec {k : Nat} {b : T_api_Base} {n i : Nat} {a : Int} (hu : Up b.fTypes n) (hlen : n ≤ b.fTypes.length) (hs : n ≤ 500) (hi : i < n) (hk : 1000 ≤ k) : ref11_above k b a (i : Int) = some ((chain b.fTypes n ((b.fTypes[i]'(by omega)).fParent)).any (fun z => a == z)) := by
  obtain ⟨k, rfl, hq⟩ := succ_of (c := 999) (by omega : 999 + 1 ≤ k)
  have hx : i < b.fTypes.length := by omega
  have hp := hu i hx hi
  simp only [ref11_above, idx_at hx, Option.bind_some]
  exact ref11_above_L1_spec hu hlen n _ k (by omega) (by omega) (by omega)
theorem ref11_Valid_L2_spec {b : T_api_Base} {i k : Nat} {K : Option Bool} (hi : i < b.fTypes.length) (hl : b.fTypes.length ≤ maxLen) (hk : i < k) : ref11_Valid_L2 b (i : Int) b.fTypes[i] (fun _ => K) k 0 = bif dupType b.fTypes i then some false else K := by
  rw [dupType, at'_eq hi, ← anyB_take (show i ≤ b.fTypes.length by omega)]
  refine Eq.trans (loop0 (L := fun m x => ref11_Valid_L2 b (i : Int) b.fTypes[i] _ m x) (n := i) (g := at' b.fTypes (fun g => g.fName == b.fTypes[i].fName)) (r := fun _ => some false) (z := K) ?_ ?_ hk) (scan_const i)
  · intro m j hj _
    have hj' : j < b.fTypes.length := by omega
    simp only [ref11_Valid_L2, at'_eq hj', idx_at hj', wrap_next hj' hl, Option.bind_some, show decide ((j : Int) < (i : Int)) = true by simp; exact hj, cond_true]
  · intro m _
    simp only [ref11_Valid_L2, show decide ((i : Int) < (i : Int)) = false by simp, cond_false]
theorem ref11_Valid_L4_spec {b : T_api_Base} {i k : Nat} {K : Option Bool} (hi : i < b.fIndexes.length) (hl : b.fIndexes.length ≤ maxLen) (hk : i < k) : ref11_Valid_L4 b (i : Int) b.fIndexes[i] (fun _ => K) k 0 = bif dupIndex b.fIndexes i then some false else K := by
  rw [dupIndex, at'_eq hi, ← anyB_take (show i ≤ b.fIndexes.length by omega)]
  refine Eq.trans (loop0 (L := fun m x => ref11_Valid_L4 b (i : Int) b.fIndexes[i] _ m x) (n := i) (g := at' b.fIndexes (fun g => g.fName == b.fIndexes[i].fName)) (r := fun _ => some false) (z := K) ?_ ?_ hk) (scan_const i)
  · intro m j hj _
    have hj' : j < b.fIndexes.length := by omega
    simp only [ref11_Valid_L4, at'_eq hj', idx_at hj', wrap_next hj' hl, Option.bind_some, show decide ((j : Int) < (i : Int)) = true by simp; exact hj, cond_true]
  · intro m _
    simp only [ref11_Valid_L4, show decide ((i : Int) < (i : Int)) = false by simp, cond_false]
theorem ref11_Valid_L3_spec {b : T_api_Base} {k : Nat} (hk : maxLen + 6 ≤ k) (hw : wfL wf_T_api_Search b.fIndexes) : ref11_Valid_L3 k b (fun _ => some true) k 0 = some (!anyB (badIndex b.fTypes b.fIndexes) b.fIndexes.length) := by
  obtain ⟨hl, hw⟩ := hw
  refine Eq.trans (loop0 (L := fun m x => ref11_Valid_L3 k b _ m x) (n := b.fIndexes.length) (g := badIndex b.fTypes b.fIndexes) (r := fun _ => some false) (z := some true) ?_ ?_ (by omega)) ?_
  rotate_left 2
  · rw [scan_const]
    cases anyB (badIndex b.fTypes b.fIndexes) b.fIndexes.length <;> rfl
  · intro m i hi _
    have h1 := hw _ (List.getElem_mem hi)
    simp only [ref11_Valid_L3, badIndex, at'_eq hi, idx_at hi, wrap_next hi hl, Option.bind_some, show decide ((i : Int) < (b.fIndexes.length : Int)) = true by simp; exact hi, cond_true, ref11_isName (show maxLen + 2 ≤ k by omega) h1.1, ref11_Valid_L4_spec hi hl (show i < k by omega)]
    unfold fieldBad
    cases hn : nameOk b.fIndexes[i].fName with
    | false => rfl
    | true =>
      cases h2 : decide (b.fIndexes[i].fType < 0) with
      | true => rfl
      | false =>
        cases h3 : decide (b.fIndexes[i].fType ≥ (b.fTypes.length : Int)) with
        | true => rfl
        | false =>
          simp only [decide_eq_false_iff_not] at h2 h3
          rw [idx_of (show 0 ≤ b.fIndexes[i].fType by omega) (by omega)]
          simp only [Bool.not_true, cond_false, Option.bind_some, Bool.or_false, Bool.false_or]
          generalize b.fTypes[(b.fIndexes[i].fType).toNat]'_ = t
          cases h4 : decide (b.fIndexes[i].fField < 0) with
          | true => cases decide ((b.fIndexes[i].fSparse.length : Int) > 1) <;> cases dupIndex b.fIndexes i <;> rfl
          | false =>
            cases h5 : decide (b.fIndexes[i].fField ≥ (t.fFields.length : Int)) with
            | true => cases decide ((b.fIndexes[i].fSparse.length : Int) > 1) <;> cases dupIndex b.fIndexes i <;> rfl
            | false =>
              simp only [decide_eq_false_iff_not] at h4 h5
              rw [idx_of (show 0 ≤ b.fIndexes[i].fField by omega) (by omega)]
              simp only [cond_false, Option.bind_some, Bool.false_or]
              generalize t.fFields[(b.fIndexes[i].fField).toNat]'_ = f
              cases decide (f.fBytes > 20) <;> cases decide ((b.fIndexes[i].fSparse.length : Int) > 1) <;> cases dupIndex b.fIndexes i <;> rfl
  · intro m _
    simp only [ref11_Valid_L3, show decide ((b.fIndexes.length : Int) < (b.fIndexes.length : Int)) = false by simp, cond_false]
theorem typeOk_eq (t : T_api_Type) : typeOk t = !((!nameOk t.fName) || (decide (t.fMin < 1) || (decide (t.fMin > t.fSize) || (decide (t.fSize > 40) || !fieldsR t)))) := by
  rw [fieldsR_eq]
  unfold typeOk
  cases nameOk t.fName <;> cases decide (t.fMin < 1) <;> cases decide (t.fMin > t.fSize) <;> cases decide (t.fSize > 40) <;> cases fieldsOk t <;> cases keyOk t <;> rfl
theorem ref11_Valid_L1_spec {b : T_api_Base} {k : Nat} {K : Option Bool} (hk : maxLen + 8 ≤ k) (hw : wfL wf_T_api_Type b.fTypes) (h8 : b.fTypes.length ≤ 8) : ref11_Valid_L1 k b (fun _ => K) k 0 = bif anyB (badType b.fTypes) b.fTypes.length then some false else K := by
  obtain ⟨hl, hw⟩ := hw
  have e63 := maxLen_eq
  refine Eq.trans (loop0 (L := fun m x => ref11_Valid_L1 k b _ m x) (n := b.fTypes.length) (g := badType b.fTypes) (r := fun _ => some false) (z := K) ?_ ?_ (by omega)) (scan_const _)
  · intro m i hi hb
    have h1 := hw _ (List.getElem_mem hi)
    have hup := up_of i hb
    simp only [ref11_Valid_L1, idx_at hi, wrap_next hi hl, Option.bind_some, show decide ((i : Int) < (b.fTypes.length : Int)) = true by simp; exact hi, cond_true, ref11_isName (show maxLen + 2 ≤ k by omega) h1.1, ref11_fields_spec (show maxLen + 5 ≤ k by omega) h1, ref11_Valid_L2_spec hi hl (show i < k by omega)]
    rw [badType, at'_eq hi]
    have hshape : (bif (!nameOk (b.fTypes[i]).fName) then (some (true)) else (bif (decide ((b.fTypes[i]).fMin < 1)) then (some (true)) else (bif (decide ((b.fTypes[i]).fMin > (b.fTypes[i]).fSize)) then (some (true)) else (bif (decide ((b.fTypes[i]).fSize > 40)) then (some (true)) else (some ((!fieldsR b.fTypes[i]))))))) = some (!typeOk b.fTypes[i]) := by
      rw [typeOk_eq]
      cases nameOk (b.fTypes[i]).fName <;> cases decide ((b.fTypes[i]).fMin < 1) <;> cases decide ((b.fTypes[i]).fMin > (b.fTypes[i]).fSize) <;> cases decide ((b.fTypes[i]).fSize > 40) <;> cases fieldsR b.fTypes[i] <;> rfl
    rw [hshape]
    cases hto : typeOk b.fTypes[i] with
    | false => rfl
    | true =>
      cases hdt : dupType b.fTypes i with
      | true => rfl
      | false =>
        simp only [Bool.not_true, cond_false, Option.bind_some, Bool.or_false, Bool.false_or]
        cases i with
        | zero =>
          simp only [show (((0 : Nat) : Int) == 0) = true from rfl, cond_true, show Nat.beq 0 0 = true from rfl]
          have hway : (rootBad b.fTypes[0] = false) → decide (((way b.fTypes 0).length : Int) > 5) = false := by
            intro hrb
            have hpar : (b.fTypes[0]).fParent = -1 := by
              unfold rootBad at hrb
              simp only [Bool.or_eq_false_iff] at hrb
              simpa using hrb.1
            have : way b.fTypes 0 = [0] := by
              unfold way
              rw [chain, if_pos (by omega), Int.toNat_natCast, List.getElem?_eq_getElem hi]
              simp [chain]
            rw [this]; rfl
          have hroot : (bif ((b.fTypes[0]).fParent != (-1)) then (some (true)) else (bif (decide ((b.fTypes[0]).fKey < 0)) then (some (true)) else (bif (!(b.fTypes[0]).fUnique) then (some (true)) else ((idx (b.fTypes[0]).fFields (b.fTypes[0]).fKey).bind fun v32 => (some ((decide (v32.fBytes > 24)))))))) = some (rootBad b.fTypes[0]) := by
            unfold rootBad
            cases hx : idx (b.fTypes[0]).fFields (b.fTypes[0]).fKey with
            | none =>
              have hneg : decide ((b.fTypes[0]).fKey < 0) = true := by
                simp only [decide_eq_true_eq]
                by_cases h0 : (b.fTypes[0]).fKey < 0
                · exact h0
                · exfalso
                  have hko : keyOk b.fTypes[0] = true := by
                    unfold typeOk at hto
                    simp only [Bool.and_eq_true] at hto
                    exact hto.2
                  unfold keyOk at hko
                  have : ((b.fTypes[0]).fKey == (-1)) = false := by simp; omega
                  rw [this, cond_false] at hko
                  unfold keyFit at hko
                  rw [hx] at hko
                  simp at hko
              rw [hneg]
              cases ((b.fTypes[0]).fParent != (-1)) <;> rfl
            | some f =>
              simp only [Option.bind_some]
              cases ((b.fTypes[0]).fParent != (-1)) <;> cases decide ((b.fTypes[0]).fKey < 0) <;> cases (b.fTypes[0]).fUnique <;> cases decide (f.fBytes > 24) <;> rfl
          rw [hroot]
          cases hrb : rootBad b.fTypes[0] with
          | true => rfl
          | false => rw [hway hrb]; rfl
        | succ q =>
          have hq1 : q < b.fTypes.length := by omega
          have hpq := hup q hq1 (by omega)
          have hbe : before b.fTypes (q + 1) = chain b.fTypes (q + 1) q := rfl
          have hbw : before b.fTypes (q + 1) = chain b.fTypes (q + 1) (b.fTypes[q]).fParent ++ [(q : Int)] := way_succ hup (by omega) hq1
          have hab := ref11_above_spec (k := k) (a := (b.fTypes[q + 1]).fParent) hup (by omega) (by omega) (show q < q + 1 by omega) (by omega)
          have hwr : Go.IntKind.wrap .i64 (((q + 1 : Nat) : Int) - 1) = (q : Int) := by
            rw [wrap_in (by omega) (by omega)]; omega
          simp only [show ((((q + 1 : Nat)) : Int) == 0) = false by simp; omega, cond_false, show Nat.beq (q + 1) 0 = false from rfl, hwr, hab, Option.bind_some]
          have hmem : (before b.fTypes (q + 1)).any (fun z => (b.fTypes[q + 1]).fParent == z) = ((chain b.fTypes (q + 1) (b.fTypes[q]).fParent).any (fun z => (b.fTypes[q + 1]).fParent == z) || ((b.fTypes[q + 1]).fParent == (q : Int))) := by
            rw [hbw]; simp only [List.any_append, List.any_cons, List.any_nil, Bool.or_false]
          have hin : ((chain b.fTypes (q + 1) (b.fTypes[q]).fParent).any (fun z => (b.fTypes[q + 1]).fParent == z) || ((b.fTypes[q + 1]).fParent == (q : Int))) = true → ¬ (b.fTypes[q + 1]).fParent < 0 ∧ ¬ (b.fTypes[q + 1]).fParent ≥ ((q + 1 : Nat) : Int) := by
            intro h
            rw [← hmem] at h
            obtain ⟨y, hy, he⟩ := List.any_eq_true.1 h
            have he' : (b.fTypes[q + 1]).fParent = y := by simpa using he
            have := chain_lt hup (q + 1) q (by omega) y (by rw [← hbe]; exact hy)
            omega
          rw [hmem]
          cases hany : ((chain b.fTypes (q + 1) (b.fTypes[q]).fParent).any (fun z => (b.fTypes[q + 1]).fParent == z) || ((b.fTypes[q + 1]).fParent == (q : Int))) with
          | false =>
            rw [Bool.or_eq_false_iff] at hany
            obtain ⟨g1, g2⟩ := hany
            rw [g1]
            have g3 : ((b.fTypes[q + 1]).fParent != (q : Int)) = true := by rw [bne, g2]; rfl
            rw [g3]
            cases decide ((b.fTypes[q + 1]).fParent < 0) <;> cases decide ((b.fTypes[q + 1]).fParent ≥ ((q + 1 : Nat) : Int)) <;> rfl
          | true =>
            obtain ⟨g1, g2⟩ := hin hany
            have hup2 : Up b.fTypes (q + 2) := by
              intro jj hjj hjn
              by_cases e : jj < q + 1
              · exact hup jj hjj e
              · have : jj = q + 1 := by omega
                subst this
                omega
            have hwy := ref11_way_spec (k := k) hup2 (by omega) (by omega) (show q + 1 < q + 2 by omega) (by omega)
            rw [hwy]
            simp only [show decide ((b.fTypes[q + 1]).fParent < 0) = false by simp; omega, show decide ((b.fTypes[q + 1]).fParent ≥ ((q + 1 : Nat) : Int)) = false by simp; omega, cond_false, Option.bind_some]
            rw [Bool.or_eq_true] at hany
            rcases hany with g3 | g3
            · rw [g3]
              cases ((b.fTypes[q + 1]).fParent != (q : Int)) <;> cases decide (((way b.fTypes (q + 1)).length : Int) > 5) <;> rfl
            · have g4 : ((b.fTypes[q + 1]).fParent != (q : Int)) = false := by rw [bne, g3]; rfl
              rw [g4]
              cases decide (((way b.fTypes (q + 1)).length : Int) > 5) <;> rfl
  · intro m _
    simp only [ref11_Valid_L1, show decide ((b.fTypes.length : Int) < (b.fTypes.length : Int)) = false by simp, cond_false]
theorem ref11_valid {k : Nat} {b : T_api_Base} (hk : maxLen + 9 ≤ k) (hw : wf_T_api_Base b) : ref11_Valid k b = some (valid b) := by
  obtain ⟨k, rfl, hq⟩ := succ_of hk
  obtain ⟨h1, _, h3, h4, _⟩ := hw
  simp only [ref11_Valid, ref11_isName (show maxLen + 2 ≤ k by omega) h1, Option.bind_some]
  unfold valid typesOk indexesOk
  have e1 : decide (b.fKind < 1) = !decide (b.fKind ≥ 1) := by rw [← decide_not]; apply decide_eq_decide.2; omega
  have e2 : decide (b.fKind > 4) = !decide (b.fKind ≤ 4) := by rw [← decide_not]; apply decide_eq_decide.2; omega
  have e3 : decide ((b.fIndexes.length : Int) > 3) = !decide ((b.fIndexes.length : Int) ≤ 3) := by rw [← decide_not]; apply decide_eq_decide.2; omega
  rw [e1, e2, e3]
  by_cases h8 : b.fTypes.length ≤ 8
  · rw [ref11_Valid_L1_spec hq h3 h8, ref11_Valid_L3_spec (show maxLen + 6 ≤ k by omega) h4]
    cases nameOk b.fName <;> cases decide (b.fKind ≥ 1) <;> cases decide (b.fKind ≤ 4) <;> cases decide ((b.fTypes.length : Int) < 1) <;> cases decide ((b.fTypes.length : Int) > 8) <;> cases decide ((b.fIndexes.length : Int) ≤ 3) <;> cases anyB (badType b.fTypes) b.fTypes.length <;> cases anyB (badIndex b.fTypes b.fIndexes) b.fIndexes.length <;> rfl
  · have e4 : decide ((b.fTypes.length : Int) > 8) = true := by simp; omega
    rw [e4]
    cases nameOk b.fName <;> cases decide (b.fKind ≥ 1) <;> cases decide (b.fKind ≤ 4) <;> cases decide ((b.fTypes.length : Int) < 1) <;> rfl
end Go.Sh

namespace Go.Sh
open Go.AE
set_option linter.unusedVariables false
set_option linter.unusedSimpArgs false
def outside (b : T_api_Base) (x : Int) : Bool := decide (x < 0) || decide (x ≥ (b.fTypes.length : Int))
def asked (b : T_api_Base) (l : List Int) : Int := bif !valid b then 100 else bif l.any (outside b) then 2 else 0
theorem dbd_asked_spec {k : Nat} {b : T_api_Base} {l : List Int} (hk : maxLen + 10 ≤ k) (hw : wf_T_api_Base b) (hl : l.length ≤ 1000) : dbd_asked k b l = some (asked b l) := by
  have e63 := maxLen_eq
  obtain ⟨k, rfl, hq⟩ := succ_of hk
  have hc : slices_ContainsFunc_int k l (fun j x0 => dbd_asked_1 j x0 b) = some (l.any (outside b)) := by
    refine containsFunc_int (by omega) (by omega) (fun k' e x hx => ?_)
    obtain ⟨k', rfl, _⟩ := succ_of (show 0 + 1 ≤ k' by omega)
    simp only [dbd_asked_1, outside]
    cases decide (x < 0) <;> cases decide (x ≥ (b.fTypes.length : Int)) <;> rfl
  simp only [dbd_asked, dbd_valid (show maxLen + 9 ≤ k by omega) hw, hc, Option.bind_some]
  unfold asked
  cases valid b <;> cases l.any (outside b) <;> rfl
/-- What is known of a base that may be asked. -/
theorem asked_zero {b : T_api_Base} {l : List Int} (h : asked b l = 0) : valid b = true ∧ ∀ x ∈ l, 0 ≤ x ∧ x < (b.fTypes.length : Int) := by
  unfold asked at h
  cases hv : valid b with
  | false => rw [hv] at h; simp at h
  | true =>
    rw [hv] at h
    cases ha : l.any (outside b) with
    | true => rw [ha] at h; simp at h
    | false =>
      refine ⟨rfl, fun x hx => ?_⟩
      rw [List.any_eq_false] at ha
      have := ha x hx
      unfold outside at this
      simp at this
      omega
theorem valid_up {b : T_api_Base} (h : valid b = true) : Up b.fTypes b.fTypes.length ∧ 1 ≤ b.fTypes.length ∧ b.fTypes.length ≤ 8 := by
  unfold valid typesOk at h
  simp only [Bool.and_eq_true, Bool.not_eq_true', Bool.or_eq_false_iff, decide_eq_false_iff_not] at h
  obtain ⟨_, _, _, ⟨⟨h1, h2⟩, h3⟩, _⟩ := h
  exact ⟨up_of _ (anyB_false.1 h3), by omega, by omega⟩
theorem dbd_way_L1_spec {b : T_api_Base} {n : Nat} {K : Int → List Int → Option (List Int)} (hu : Up b.fTypes n) (hlen : n ≤ b.fTypes.length) (hs : n ≤ 1000) : ∀ (d : Nat) (x : Int) (w : List Int) (m : Nat), x < (d : Int) → x < (n : Int) → d < m → w.length + d ≤ 1000 →
    ∃ y, dbd_way_L1 b K m x w = K y (w ++ (chain b.fTypes d x).reverse)
  | d, x, w, 0, _, _, hm, _ => by omega
  | d, x, w, m + 1, hd, hn, hm, hwl => by
    rw [dbd_way_L1]
    by_cases h0 : 0 ≤ x
    · have hx : x.toNat < b.fTypes.length := by omega
      have hp := hu x.toNat hx (by omega)
      cases d with
      | zero => omega
      | succ d =>
        simp only [show decide (x ≥ 0) = true by simp; omega, cond_true, idx_of h0 (show x < (b.fTypes.length : Int) by omega), Option.bind_some]
        rw [app_ok (by simp only [List.length_cons, List.length_nil, maxList]; omega)]
        simp only [Option.bind_some]
        obtain ⟨y, hy⟩ := dbd_way_L1_spec (K := K) hu hlen hs d (b.fTypes[x.toNat]).fParent (w ++ [x]) m (by omega) (by omega) (by omega) (by simp; omega)
        refine ⟨y, hy.trans ?_⟩
        rw [chain, if_pos h0, List.getElem?_eq_getElem hx]
        simp
    · rw [chain_neg (by omega)]
      refine ⟨x, ?_⟩
      simp only [show decide (x ≥ 0) = false by simp; omega, cond_false, List.reverse_nil, List.append_nil]
theorem dbd_way_spec {k : Nat} {b : T_api_Base} {n i : Nat} (hu : Up b.fTypes n) (hlen : n ≤ b.fTypes.length) (hs : n ≤ 500) (hi : i < n) (hk : 1000 ≤ k) : dbd_way k b (i : Int) = some (way b.fTypes i) := by
  obtain ⟨k, rfl, hq⟩ := succ_of (c := 999) (by omega : 999 + 1 ≤ k)
  obtain ⟨y, hy⟩ := dbd_way_L1_spec (K := fun y11 y12 => (((slices_Reverse_int k y12).bind (sameLen y12)).bind fun o14 => (some o14))) hu hlen (by omega) (i + 1) (i : Int) [] k (by omega) (by omega) (by omega) (by simp; omega)
  refine Eq.trans (show dbd_way (k + 1) b (i : Int) = dbd_way_L1 b (fun y11 y12 => (((slices_Reverse_int k y12).bind (sameLen y12)).bind fun o14 => (some o14))) k (i : Int) [] from rfl) (hy.trans ?_)
  rw [List.nil_append]
  obtain ⟨k, rfl, _⟩ := succ_of (show 0 + 1 ≤ k by omega)
  have hl := chain_len (ts := b.fTypes) (i + 1) (i : Int)
  have hble : Nat.ble (chain b.fTypes (i + 1) (i : Int)).length 9223372036854775807 = true := Nat.ble_eq_true_of_le (by omega)
  simp only [slices_Reverse_int, revInt, List.length_reverse, hble, cond_true, List.reverse_reverse, Option.bind_some, sameLen, if_pos]
  rfl
def wayOf (b : T_api_Base) (t : Int) : List Int × Int := bif asked b [t] != 0 then ([], asked b [t]) else (way b.fTypes t.toNat, 0)
theorem dbd_Way_spec {k : Nat} {b : T_api_Base} {t : Int} (hk : maxLen + 11 ≤ k) (hw : wf_T_api_Base b) : dbd_Way k b t = some (wayOf b t) := by
  have e63 := maxLen_eq
  obtain ⟨k, rfl, hq⟩ := succ_of hk
  simp only [dbd_Way, dbd_asked_spec hq hw (show [t].length ≤ 1000 by simp), Option.bind_some]
  unfold wayOf
  by_cases h : asked b [t] = 0
  · obtain ⟨hv, hx⟩ := asked_zero h
    have ht := hx t (by simp)
    obtain ⟨hup, h1, h8⟩ := valid_up hv
    have := dbd_way_spec (k := k) hup (Nat.le_refl _) (by omega) (show t.toNat < b.fTypes.length by omega) (by omega)
    rw [show ((t.toNat : Nat) : Int) = t by omega] at this
    simp only [this, h, Option.bind_some]
    rfl
  · have : (asked b [t] != 0) = true := by simpa using h
    simp only [this, cond_true]
end Go.Sh

namespace Go.Sh
open Go.AE
set_option linter.unusedVariables false
set_option linter.unusedSimpArgs false
theorem contains_int {k : Nat} {l : List Int} {y : Int} (hk : l.length + 3 ≤ k) (hn : l.length ≤ maxLen) : slices_Contains_int k l y = some (l.any (fun x => y == x)) := by
  obtain ⟨k, rfl, hq⟩ := succ_of hk
  simp only [slices_Contains_int, index_int hq hn, Option.bind_some, pos_any]
theorem ref11_asked_spec {k : Nat} {b : T_api_Base} {l : List Int} (hk : maxLen + 10 ≤ k) (hw : wf_T_api_Base b) (hl : l.length ≤ 10) : ref11_asked k b l = some (asked b l) := by
  have e63 := maxLen_eq
  obtain ⟨k, rfl, hq⟩ := succ_of hk
  simp only [ref11_asked, ref11_valid (show maxLen + 9 ≤ k by omega) hw, Option.bind_some]
  unfold asked
  cases valid b with
  | false => rfl
  | true =>
    simp only [Bool.not_true, cond_false]
    rw [← anyB_any]
    refine Eq.trans (loop0 (L := fun m x => ref11_asked_L1 k b l _ m x) (n := l.length) (g := at' l (outside b)) (r := fun _ => some 2) (z := some 0) ?_ ?_ (by omega)) ?_
    rotate_left 2
    · rw [scan_const]
      cases anyB (at' l (outside b)) l.length <;> rfl
    · intro m i hi _
      obtain ⟨k, rfl, _⟩ := succ_of (show 0 + 1 ≤ k by omega)
      simp only [ref11_asked_L1, ref11_isType, at'_eq hi, idx_at hi, wrap_next hi (show l.length ≤ maxLen by omega), Option.bind_some, show decide ((i : Int) < (l.length : Int)) = true by simp; exact hi, cond_true, outside]
      have e1 : decide (l[i] ≥ 0) = !decide (l[i] < 0) := by rw [← decide_not]; apply decide_eq_decide.2; omega
      have e2 : decide (l[i] < (b.fTypes.length : Int)) = !decide (l[i] ≥ (b.fTypes.length : Int)) := by rw [← decide_not]; apply decide_eq_decide.2; omega
      rw [e1, e2]
      cases decide (l[i] < 0) <;> cases decide (l[i] ≥ (b.fTypes.length : Int)) <;> rfl
    · intro m _
      simp only [ref11_asked_L1, show decide ((l.length : Int) < (l.length : Int)) = false by simp, cond_false]
theorem ref11_Way_spec {k : Nat} {b : T_api_Base} {t : Int} (hk : maxLen + 11 ≤ k) (hw : wf_T_api_Base b) : ref11_Way k b t = some (wayOf b t) := by
  have e63 := maxLen_eq
  obtain ⟨k, rfl, hq⟩ := succ_of hk
  simp only [ref11_Way, ref11_asked_spec hq hw (show [t].length ≤ 10 by simp), Option.bind_some]
  unfold wayOf
  by_cases h : asked b [t] = 0
  · obtain ⟨hv, hx⟩ := asked_zero h
    have ht := hx t (by simp)
    obtain ⟨hup, h1, h8⟩ := valid_up hv
    have := ref11_way_spec (k := k) hup (Nat.le_refl _) (by omega) (show t.toNat < b.fTypes.length by omega) (by omega)
    rw [show ((t.toNat : Nat) : Int) = t by omega] at this
    simp only [this, h, Option.bind_some]
    rfl
  · have : (asked b [t] != 0) = true := by simpa using h
    simp only [this, cond_true]
theorem dbd_Depth_spec {k : Nat} {b : T_api_Base} {t : Int} (hk : maxLen + 12 ≤ k) (hw : wf_T_api_Base b) : dbd_Depth k b t = some (((wayOf b t).1.length : Int), (wayOf b t).2) := by
  obtain ⟨k, rfl, hq⟩ := succ_of hk
  simp only [dbd_Depth, dbd_Way_spec hq hw, Option.bind_some]
def aboveOf (b : T_api_Base) (a t : Int) : Bool × Int := bif asked b [a, t] != 0 then (false, asked b [a, t]) else ((a != t) && (way b.fTypes t.toNat).any (fun z => a == z), 0)
theorem dbd_IsAbove_spec {k : Nat} {b : T_api_Base} {a t : Int} (hk : maxLen + 11 ≤ k) (hw : wf_T_api_Base b) : dbd_IsAbove k b a t = some (aboveOf b a t) := by
  have e63 := maxLen_eq
  obtain ⟨k, rfl, hq⟩ := succ_of hk
  simp only [dbd_IsAbove, dbd_asked_spec hq hw (show [a, t].length ≤ 1000 by simp), Option.bind_some]
  unfold aboveOf
  by_cases h : asked b [a, t] = 0
  · obtain ⟨hv, hx⟩ := asked_zero h
    have ht := hx t (by simp)
    obtain ⟨hup, h1, h8⟩ := valid_up hv
    have := dbd_way_spec (k := k) hup (Nat.le_refl _) (by omega) (show t.toNat < b.fTypes.length by omega) (by omega)
    rw [show ((t.toNat : Nat) : Int) = t by omega] at this
    have hl := chain_len (ts := b.fTypes) (t.toNat + 1) (t.toNat : Int)
    have hl' : (way b.fTypes t.toNat).length ≤ 8 := by unfold way; omega
    simp only [this, h, bne_self_eq_false, cond_false, Option.bind_some, contains_int (show (way b.fTypes t.toNat).length + 3 ≤ k by omega) (show (way b.fTypes t.toNat).length ≤ maxLen by omega)]
    cases (a != t) <;> rfl
  · have : (asked b [a, t] != 0) = true := by simpa using h
    simp only [this, cond_true]
def found (x : Int) : Int × Int := bif decide (x < 0) then (0, 5) else (x, 0)
theorem dbd_index_spec {k : Nat} {x : Int} (hk : 1 ≤ k) : dbd_index k x = some (found x) := by
  obtain ⟨k, rfl, hq⟩ := succ_of (c := 0) hk
  simp only [dbd_index, found]
  cases decide (x < 0) <;> rfl
def typeOf (b : T_api_Base) (s : Str) : Int × Int := bif asked b [] != 0 then (0, asked b []) else found (pos b.fTypes (fun t => t.fName == s))
theorem dbd_Type_spec {k : Nat} {b : T_api_Base} {s : Str} (hk : maxLen + 11 ≤ k) (hw : wf_T_api_Base b) : dbd_Type k b s = some (typeOf b s) := by
  obtain ⟨k, rfl, hq⟩ := succ_of hk
  have hl := hw.2.2.1.1
  have hi : slices_IndexFunc_Type k b.fTypes (fun j x0 => dbd_Type_1 j x0 s) = some (pos b.fTypes (fun t => t.fName == s)) := by
    refine indexFunc_Type (by omega) hl (fun k' e x hx => ?_)
    obtain ⟨k', rfl, _⟩ := succ_of (show 0 + 1 ≤ k' by omega)
    rfl
  simp only [dbd_Type, dbd_asked_spec hq hw (show ([] : List Int).length ≤ 1000 by simp), hi, dbd_index_spec (show 1 ≤ k by omega), Option.bind_some]
  unfold typeOf
  cases (asked b [] != 0) <;> rfl
end Go.Sh

namespace Go.Sh
open Go.AE
set_option linter.unusedVariables false
set_option linter.unusedSimpArgs false
theorem type_ok {b : T_api_Base} (hv : valid b = true) {i : Nat} (hi : i < b.fTypes.length) : typeOk b.fTypes[i] = true := by
  unfold valid typesOk at hv
  simp only [Bool.and_eq_true, Bool.not_eq_true'] at hv
  obtain ⟨_, _, _, ⟨_, h3⟩, _⟩ := hv
  have := anyB_false.1 h3 i hi
  rw [badType, at'_eq hi] at this
  simp only [Bool.or_eq_false_iff] at this
  simpa using this.1.1
end Go.Sh

namespace Go.Sh
open Go.AE
set_option linter.unusedVariables false
set_option linter.unusedSimpArgs false
abbrev Cond := List (List T_api_Term)
theorem indexFunc_Term {k : Nat} {l : List T_api_Term} {p : T_api_Term → Bool} {f : Nat → T_api_Term → Option Bool} (hk : l.length + 2 ≤ k) (hn : l.length ≤ maxLen) (hp : ∀ k', k' + 1 = k → ∀ x ∈ l, f k' x = some (p x)) : slices_IndexFunc_Term k l f = some (pos l p) := by
  obtain ⟨k, rfl, hq⟩ := succ_of hk
  exact indexFunc_gen (hp k rfl) (L := fun m x => slices_IndexFunc_Term_L1 k l f _ m x) (fun m x => rfl) rfl hn (by omega)
theorem containsFunc_Term {k : Nat} {l : List T_api_Term} {p : T_api_Term → Bool} {f : Nat → T_api_Term → Option Bool} (hk : l.length + 3 ≤ k) (hn : l.length ≤ maxLen) (hp : ∀ k', k' + 2 = k → ∀ x ∈ l, f k' x = some (p x)) : slices_ContainsFunc_Term k l f = some (l.any p) := by
  obtain ⟨k, rfl, hq⟩ := succ_of hk
  simp only [slices_ContainsFunc_Term, indexFunc_Term hq hn (fun k' e => hp k' (by omega)), Option.bind_some, pos_any]
theorem indexFunc_TermL {k : Nat} {l : List (List T_api_Term)} {p : List T_api_Term → Bool} {f : Nat → List T_api_Term → Option Bool} (hk : l.length + 2 ≤ k) (hn : l.length ≤ maxLen) (hp : ∀ k', k' + 1 = k → ∀ x ∈ l, f k' x = some (p x)) : slices_IndexFunc_TermL k l f = some (pos l p) := by
  obtain ⟨k, rfl, hq⟩ := succ_of hk
  exact indexFunc_gen (hp k rfl) (L := fun m x => slices_IndexFunc_TermL_L1 k l f _ m x) (fun m x => rfl) rfl hn (by omega)
theorem containsFunc_TermL {k : Nat} {l : List (List T_api_Term)} {p : List T_api_Term → Bool} {f : Nat → List T_api_Term → Option Bool} (hk : l.length + 3 ≤ k) (hn : l.length ≤ maxLen) (hp : ∀ k', k' + 2 = k → ∀ x ∈ l, f k' x = some (p x)) : slices_ContainsFunc_TermL k l f = some (l.any p) := by
  obtain ⟨k, rfl, hq⟩ := succ_of hk
  simp only [slices_ContainsFunc_TermL, indexFunc_TermL hq hn (fun k' e => hp k' (by omega)), Option.bind_some, pos_any]
theorem indexFunc_TermLL {k : Nat} {l : List (List (List T_api_Term))} {p : List (List T_api_Term) → Bool} {f : Nat → List (List T_api_Term) → Option Bool} (hk : l.length + 2 ≤ k) (hn : l.length ≤ maxLen) (hp : ∀ k', k' + 1 = k → ∀ x ∈ l, f k' x = some (p x)) : slices_IndexFunc_TermLL k l f = some (pos l p) := by
  obtain ⟨k, rfl, hq⟩ := succ_of hk
  exact indexFunc_gen (hp k rfl) (L := fun m x => slices_IndexFunc_TermLL_L1 k l f _ m x) (fun m x => rfl) rfl hn (by omega)
theorem containsFunc_TermLL {k : Nat} {l : List (List (List T_api_Term))} {p : List (List T_api_Term) → Bool} {f : Nat → List (List T_api_Term) → Option Bool} (hk : l.length + 3 ≤ k) (hn : l.length ≤ maxLen) (hp : ∀ k', k' + 2 = k → ∀ x ∈ l, f k' x = some (p x)) : slices_ContainsFunc_TermLL k l f = some (l.any p) := by
  obtain ⟨k, rfl, hq⟩ := succ_of hk
  simp only [slices_ContainsFunc_TermLL, indexFunc_TermLL hq hn (fun k' e => hp k' (by omega)), Option.bind_some, pos_any]
def fieldAt (x : T_api_Type) (s : Str) : Int := pos x.fFields (fun f => f.fName == s)
def termOk (x : T_api_Type) (t : T_api_Term) : Bool := decide (fieldAt x t.fField ≥ 0) && (decide (t.fOp ≥ 1) && (decide (t.fOp ≤ 6) && (match idx x.fFields (fieldAt x t.fField) with | some f => ((t.fValue.length : Int) == f.fBytes) | none => false)))
def groupBad (x : T_api_Type) (g : List T_api_Term) : Bool := decide ((g.length : Int) < 1) || (decide ((g.length : Int) > 4) || g.any (fun t => !termOk x t))
def condOk (x : T_api_Type) (c : Cond) : Bool := decide ((c.length : Int) ≤ 4) && !c.any (groupBad x)
theorem fieldAt_lt (x : T_api_Type) (s : Str) : fieldAt x s < (x.fFields.length : Int) := by
  unfold fieldAt
  rcases pos_cases x.fFields (fun f => f.fName == s) with ⟨_, h⟩ | ⟨j, h1, _, _, h⟩ <;> rw [h] <;> omega
theorem match_asked_ok {k : Nat} {b : T_api_Base} {t : Int} (hk : maxLen + 13 ≤ k) (hw : wf_T_api_Base b) : match_asked k b t = some (asked b [t]) := by
  obtain ⟨k, rfl, hq⟩ := succ_of hk
  simp only [match_asked, dbd_Depth_spec hq hw, Option.bind_some, wayOf]
  by_cases h : asked b [t] = 0
  · rw [h]; rfl
  · have : (asked b [t] != 0) = true := by simpa using h
    simp only [this, cond_true]
theorem match_field_ok {k : Nat} {x : T_api_Type} {s : Str} (hk : maxLen + 4 ≤ k) (hx : x.fFields.length ≤ maxLen) : match_field k x s = some (fieldAt x s, decide (fieldAt x s ≥ 0)) := by
  obtain ⟨k, rfl, hq⟩ := succ_of hk
  have : slices_IndexFunc_Field k x.fFields (fun j x0 => match_field_1 j x0 s) = some (fieldAt x s) := by
    refine indexFunc_Field (by omega) hx (fun k' e f hf => ?_)
    obtain ⟨k', rfl, _⟩ := succ_of (show 0 + 1 ≤ k' by omega)
    rfl
  simp only [match_field, this, Option.bind_some]
theorem match_isTerm_ok {k : Nat} {x : T_api_Type} {t : T_api_Term} (hk : maxLen + 5 ≤ k) (hx : x.fFields.length ≤ maxLen) : match_isTerm k x t = some (termOk x t) := by
  obtain ⟨k, rfl, hq⟩ := succ_of hk
  simp only [match_isTerm, match_field_ok hq hx, Option.bind_some, termOk]
  by_cases h : fieldAt x t.fField ≥ 0
  · rw [decide_eq_true h, idx_of h (fieldAt_lt x _)]
    cases decide (t.fOp ≥ 1) <;> cases decide (t.fOp ≤ 6) <;> rfl
  · rw [decide_eq_false h]
    rfl
theorem match_valid_1_ok {k : Nat} {x : T_api_Type} {g : List T_api_Term} (hk : maxLen + 9 ≤ k) (hx : x.fFields.length ≤ maxLen) (hg : g.length ≤ maxLen) : match_valid_1 k g x = some (groupBad x g) := by
  obtain ⟨k, rfl, hq⟩ := succ_of hk
  have : slices_ContainsFunc_Term k g (fun j x0 => match_valid_1_1 j x0 x) = some (g.any (fun t => !termOk x t)) := by
    refine containsFunc_Term (by omega) hg (fun k' e t _ => ?_)
    obtain ⟨k', rfl, hq'⟩ := succ_of (show maxLen + 5 + 1 ≤ k' by omega)
    simp only [match_valid_1_1, match_isTerm_ok hq' hx, Option.bind_some]
  simp only [match_valid_1, this, groupBad]
  cases decide ((g.length : Int) < 1) <;> cases decide ((g.length : Int) > 4) <;> rfl
theorem match_valid_ok {k : Nat} {x : T_api_Type} {c : Cond} (hk : maxLen + 13 ≤ k) (hx : x.fFields.length ≤ maxLen) (hc : wfL (wfL wf_T_api_Term) c) : match_valid k x c = some (condOk x c) := by
  obtain ⟨k, rfl, hq⟩ := succ_of hk
  have : slices_ContainsFunc_TermL k c (fun j x0 => match_valid_1 j x0 x) = some (c.any (groupBad x)) :=
    containsFunc_TermL (by have := hc.1; omega) hc.1 (fun k' e g hg => match_valid_1_ok (by omega) hx (hc.2 g hg).1)
  simp only [match_valid, this, condOk]
  cases decide ((c.length : Int) ≤ 4) <;> rfl
def zeroT : T_api_Type := { fName := [], fParent := 0, fMin := 0, fSize := 0, fFields := [], fKey := 0, fUnique := false, fLast := false }
def condsOf (b : T_api_Base) (t : Int) (cs : List Cond) : T_api_Type × Int := bif asked b [t] != 0 then (zeroT, asked b [t]) else match idx b.fTypes t with
  | some x => bif cs.any (fun c => !condOk x c) then (zeroT, 110) else (x, 0)
  | none => (zeroT, 0)
/-- What is known of a type that may be asked. -/
theorem asked_type {b : T_api_Base} {t : Int} (hw : wf_T_api_Base b) (h : asked b [t] = 0) : ∃ x, idx b.fTypes t = some x ∧ wf_T_api_Type x ∧ typeOk x = true ∧ 0 ≤ t ∧ t < (b.fTypes.length : Int) ∧ x ∈ b.fTypes := by
  obtain ⟨hv, hx⟩ := asked_zero h
  have ht := hx t (by simp)
  have htl : t.toNat < b.fTypes.length := by omega
  exact ⟨_, idx_of ht.1 ht.2, hw.2.2.1.2 _ (List.getElem_mem htl), type_ok hv htl, ht.1, ht.2, List.getElem_mem htl⟩
theorem match_conditions_ok {k : Nat} {b : T_api_Base} {t : Int} {cs : List Cond} (hk : maxLen + 18 ≤ k) (hw : wf_T_api_Base b) (hl : cs.length ≤ 10) (hc : ∀ c ∈ cs, wfL (wfL wf_T_api_Term) c) : match_conditions k b t cs = some (condsOf b t cs) := by
  have e63 := maxLen_eq
  obtain ⟨k, rfl, hq⟩ := succ_of hk
  simp only [match_conditions, match_asked_ok (show maxLen + 13 ≤ k by omega) hw, Option.bind_some, condsOf]
  by_cases h : asked b [t] = 0
  · obtain ⟨x, hx, hwx, hok, _, _, _⟩ := asked_type hw h
    have : slices_ContainsFunc_TermLL k cs (fun j x0 => match_conditions_1 j x0 x) = some (cs.any (fun c => !condOk x c)) := by
      refine containsFunc_TermLL (by omega) (by omega) (fun k' e c hcc => ?_)
      obtain ⟨k', rfl, hq'⟩ := succ_of (show maxLen + 13 + 1 ≤ k' by omega)
      simp only [match_conditions_1, match_valid_ok hq' hwx.2.2.2.2.1.1 (hc c hcc), Option.bind_some]
    simp only [h, bne_self_eq_false, cond_false, hx, Option.bind_some, this]
    cases cs.any (fun c => !condOk x c) <;> rfl
  · have : (asked b [t] != 0) = true := by simpa using h
    simp only [this, cond_true]
    rfl
end Go.Sh

namespace Go.Sh
open Go.AE
set_option linter.unusedVariables false
set_option linter.unusedSimpArgs false
/-- A loop that goes through the places of a list and may stop comes to something. -/
theorem total_loop {S β : Type} {n : Nat} {L : Nat → Int → S → Option β}
    (hs : ∀ m i s, i < n → (∃ r, L (m + 1) (i : Int) s = some r) ∨ ∃ s', L (m + 1) (i : Int) s = L m ((i + 1 : Nat) : Int) s')
    (he : ∀ m s, ∃ r, L (m + 1) (n : Int) s = some r) : ∀ d i m, i + d = n → d < m → ∀ s, ∃ r, L m (i : Int) s = some r
  | 0, i, m, hd, hm, s => by
    obtain ⟨m, rfl⟩ : ∃ q, m = q + 1 := ⟨m - 1, by omega⟩
    obtain rfl : i = n := by omega
    exact he m s
  | d + 1, i, m, hd, hm, s => by
    obtain ⟨m, rfl⟩ : ∃ q, m = q + 1 := ⟨m - 1, by omega⟩
    rcases hs m i s (by omega) with h | ⟨s', h⟩
    · exact h
    · rw [h]
      exact total_loop hs he d (i + 1) m (by omega) (by omega) s'
theorem bif3 {b1 b2 b3 : Bool} {β : Type} {f : Bool → Option β} : ((bif b1 then some true else (bif b2 then some true else some b3)).bind f) = f (b1 || (b2 || b3)) := by
  cases b1 <;> cases b2 <;> rfl
theorem loopT {β : Type} {n : Nat} {L : Nat → Int → Option β} (hs : ∀ m i, i < n → (∃ r, L (m + 1) (i : Int) = some r) ∨ L (m + 1) (i : Int) = L m ((i + 1 : Nat) : Int)) (he : ∀ m, ∃ r, L (m + 1) (n : Int) = some r) {m : Nat} (hm : n < m) : ∃ r, L m 0 = some r :=
  total_loop (S := Unit) (L := fun m x _ => L m x) (fun m i _ hi => (hs m i hi).imp id (fun h => ⟨(), h⟩)) (fun m _ => he m) n 0 m (by omega) hm ()
/-- A loop inside, of which it is known that it stops or goes on. -/
theorem loopI {β : Type} {n : Nat} {L : Nat → Int → Option β} {K : Option β} (hs : ∀ m i, i < n → (∃ r, L (m + 1) (i : Int) = some r) ∨ L (m + 1) (i : Int) = L m ((i + 1 : Nat) : Int)) (he : ∀ m, (∃ r, L (m + 1) (n : Int) = some r) ∨ L (m + 1) (n : Int) = K) {m : Nat} (hm : n < m) : (∃ r, L m 0 = some r) ∨ L m 0 = K := by
  have : ∀ d i m, i + d = n → d < m → (∃ r, L m (i : Int) = some r) ∨ L m (i : Int) = K := by
    intro d
    induction d with
    | zero =>
      intro i m hd hm
      obtain ⟨m, rfl⟩ : ∃ q, m = q + 1 := ⟨m - 1, by omega⟩
      obtain rfl : i = n := by omega
      exact he m
    | succ d ih =>
      intro i m hd hm
      obtain ⟨m, rfl⟩ : ∃ q, m = q + 1 := ⟨m - 1, by omega⟩
      rcases hs m i (by omega) with h | h
      · exact .inl h
      · rw [h]; exact ih (i + 1) m (by omega) (by omega)
  exact this n 0 m (by omega) hm
theorem bif2 {b1 b2 : Bool} {β : Type} {f : Bool → Option β} : ((bif b1 then some true else some b2).bind f) = f (b1 || b2) := by
  cases b1 <;> rfl
theorem stop_or {β : Type} {b : Bool} {r : β} {x : Option β} : (∃ q, (bif b then some r else x) = some q) ∨ (bif b then some r else x) = x := by
  cases b
  · exact .inr rfl
  · exact .inl ⟨_, rfl⟩
theorem large_total {k : Nat} {b : T_api_Base} (hk : maxLen + 2 ≤ k) (hw : wf_T_api_Base b) : ∃ r, law12_Large k b = some r := by
  obtain ⟨k, rfl, hq⟩ := succ_of (c := maxLen + 1) hk
  have hl := hw.2.2.1.1
  have hl3 := hw.2.2.2.1.1
  simp only [law12_Large, bif3]
  cases decide ((b.fTypes.length : Int) > 20) || (decide ((b.fIndexes.length : Int) > 20) || decide ((b.fName.length : Int) > 40)) with
  | true => exact ⟨_, rfl⟩
  | false =>
    simp only [cond_false]
    refine loopT (L := fun m x => law12_Large_L1 k b _ m x) (n := b.fTypes.length) ?_ ?_ (by omega)
    · intro m i hi
      simp only [law12_Large_L1, idx_at hi, Option.bind_some, wrap_next hi hl, show decide ((i : Int) < (b.fTypes.length : Int)) = true by simp; exact hi, cond_true, bif2]
      cases decide (((b.fTypes[i]).fFields.length : Int) > 20) || decide (((b.fTypes[i]).fName.length : Int) > 40) with
      | true => exact .inl ⟨_, rfl⟩
      | false =>
        simp only [cond_false]
        have hlf := (hw.2.2.1.2 _ (List.getElem_mem hi)).2.2.2.2.1.1
        refine loopI (L := fun m x => law12_Large_L2 b (i : Int) _ m x) (n := (b.fTypes[i]).fFields.length) ?_ ?_ (by omega)
        · intro m j hj
          simp only [law12_Large_L2, idx_at hi, idx_at hj, Option.bind_some, wrap_next hj hlf, show decide ((j : Int) < ((b.fTypes[i]).fFields.length : Int)) = true by simp; exact hj, cond_true]
          exact stop_or
        · intro m
          simp only [law12_Large_L2, idx_at hi, Option.bind_some, show decide (((b.fTypes[i]).fFields.length : Int) < ((b.fTypes[i]).fFields.length : Int)) = false by simp, cond_false]
          exact .inr trivial
    · intro m
      simp only [law12_Large_L1, show decide ((b.fTypes.length : Int) < (b.fTypes.length : Int)) = false by simp, cond_false]
      refine loopT (L := fun m x => law12_Large_L3 b _ m x) (n := b.fIndexes.length) ?_ ?_ (by omega)
      · intro m i hi
        simp only [law12_Large_L3, idx_at hi, Option.bind_some, wrap_next hi hl3, show decide ((i : Int) < (b.fIndexes.length : Int)) = true by simp; exact hi, cond_true, bif2]
        exact stop_or
      · intro m
        simp only [law12_Large_L3, show decide ((b.fIndexes.length : Int) < (b.fIndexes.length : Int)) = false by simp, cond_false]
        exact ⟨_, rfl⟩
theorem wfS_short {l : Str} (h : l.length ≤ 1000) : wfS l := by
  have e63 := maxLen_eq
  show l.length ≤ maxLen
  omega
theorem wfI_small {n : Int} (h : -1000 ≤ n) (h' : n ≤ 1000) : wfI .i64 n := by
  unfold wfI Lit.wf
  have e1 : IntKind.i64.min = -9223372036854775808 := by decide
  have e2 : IntKind.i64.max = 9223372036854775807 := by decide
  simp only [e1, e2, Bool.and_eq_true, decide_eq_true_eq]
  omega
end Go.Sh

namespace Go.Sh
open Go.AE
set_option linter.unusedVariables false
set_option linter.unusedSimpArgs false
end Go.Sh

namespace Go.Sh
open Go.AE
set_option linter.unusedVariables false
set_option linter.unusedSimpArgs false
def nextC (a : Nat) (c : UInt8) : Nat := if a = 0 ∧ c = 68 then 1 else if a ≤ 1 ∧ c = 76 then 2 else if a ≤ 2 ∧ c = 80 then 3 else 0
def codesGo : Nat → Str → Bool
  | _, [] => true
  | a, c :: r => bif Nat.beq (nextC a c) 0 then false else codesGo (nextC a c) r
theorem nextC_le (a : Nat) (c : UInt8) : nextC a c ≤ 3 := by
  unfold nextC
  split
  · omega
  · split
    · omega
    · split <;> omega
theorem nextC_cases (a : Nat) (c : UInt8) : (nextC a c = 1 ∧ a = 0 ∧ c = 68) ∨ (nextC a c = 2 ∧ a ≤ 1 ∧ c = 76) ∨ (nextC a c = 3 ∧ a ≤ 2 ∧ c = 80) ∨ (nextC a c = 0 ∧ ¬ (a = 0 ∧ c = 68) ∧ ¬ (a ≤ 1 ∧ c = 76) ∧ ¬ (a ≤ 2 ∧ c = 80)) := by
  unfold nextC
  by_cases h1 : a = 0 ∧ c = 68
  · rw [if_pos h1]; exact .inl ⟨rfl, h1⟩
  · rw [if_neg h1]
    by_cases h2 : a ≤ 1 ∧ c = 76
    · rw [if_pos h2]; exact .inr (.inl ⟨rfl, h2⟩)
    · rw [if_neg h2]
      by_cases h3 : a ≤ 2 ∧ c = 80
      · rw [if_pos h3]; exact .inr (.inr (.inl ⟨rfl, h3⟩))
      · rw [if_neg h3]; exact .inr (.inr (.inr ⟨rfl, h1, h2, h3⟩))
theorem idxB_skip {b c : UInt8} {l : Str} (h : c ≠ b) : idxB (b :: l) c = if idxB l c == -1 then -1 else idxB l c + 1 := by
  rw [idxB, if_neg]
  rw [beq_iff_eq]
  exact fun e => h e.symm
theorem letters_step {a : Nat} (ha : a ≤ 3) (c : UInt8) : ∃ l, cut ([68, 76, 80] : Str) (a : Int) 3 = some l ∧ idxB l c = (if nextC a c = 0 then -1 else ((nextC a c : Int) - 1 - (a : Int))) := by
  have hn : idxB [] c = -1 := rfl
  rcases (show a = 0 ∨ a = 1 ∨ a = 2 ∨ a = 3 by omega) with rfl | rfl | rfl | rfl
  · refine ⟨[68, 76, 80], rfl, ?_⟩
    by_cases h1 : c = 68
    · subst h1; rfl
    by_cases h2 : c = 76
    · subst h2; rfl
    by_cases h3 : c = 80
    · subst h3; rfl
    rw [idxB_skip h1, idxB_skip h2, idxB_skip h3, hn]
    simp [nextC, h1, h2, h3]
  · refine ⟨[76, 80], rfl, ?_⟩
    by_cases h2 : c = 76
    · subst h2; rfl
    by_cases h3 : c = 80
    · subst h3; rfl
    rw [idxB_skip h2, idxB_skip h3, hn]
    simp [nextC, h2, h3]
  · refine ⟨[80], rfl, ?_⟩
    by_cases h3 : c = 80
    · subst h3; rfl
    rw [idxB_skip h3, hn]
    simp [nextC, h3]
  · refine ⟨[], rfl, ?_⟩
    rw [hn]
    simp [nextC]
theorem areCodes_L1 {k : Nat} {s : Str} (hk : 1 ≤ k) (hs : s.length ≤ maxLen) : ∀ (d i a m : Nat), a ≤ 3 → i + d = s.length → d < m → ssa_areCodes_L1 k s (fun _ _ => some true) m (a : Int) (i : Int) = some (codesGo a (s.drop i))
  | 0, i, a, m, ha, hd, hm => by
    obtain ⟨m, rfl⟩ : ∃ q, m = q + 1 := ⟨m - 1, by omega⟩
    obtain rfl : i = s.length := by omega
    simp only [ssa_areCodes_L1, show decide ((s.length : Int) < (s.length : Int)) = false by simp, cond_false, List.drop_length, codesGo]
  | d + 1, i, a, m, ha, hd, hm => by
    obtain ⟨m, rfl⟩ : ∃ q, m = q + 1 := ⟨m - 1, by omega⟩
    have hi : i < s.length := by omega
    obtain ⟨l, hl, hx⟩ := letters_step ha s[i]
    obtain ⟨k, rfl, _⟩ := succ_of (c := 0) hk
    have e3 : ((([68, 76, 80] : Str).length : Nat) : Int) = 3 := rfl
    have e4 : ∀ l, strings_IndexByte (k + 1) l ((s[i].toNat : Nat) : Int) = some (idxB l s[i]) := fun l => by
      show some (idxB l (((s[i].toNat : Nat) : Int).toNat.toUInt8)) = _
      rw [Int.toNat_natCast, Nat.toUInt8_eq, UInt8.ofNat_toNat]
    simp only [ssa_areCodes_L1, show decide ((i : Int) < (s.length : Int)) = true by simp; exact hi, cond_true, e3, hl, idxS_at hi, e4, Option.bind_some, hx, wrap_next hi hs]
    rw [List.drop_eq_getElem_cons hi, codesGo]
    have hle := nextC_le a s[i]
    rcases nextC_cases a s[i] with ⟨h1, h2, _⟩ | ⟨h1, h2, _⟩ | ⟨h1, h2, _⟩ | ⟨h1, h2⟩ <;> rw [h1]
    · subst h2
      exact areCodes_L1 (k := k + 1) hk hs d (i + 1) 1 m (by omega) (by omega) (by omega)
    · rw [if_neg (by decide), decide_eq_false (by omega)]
      simp only [cond_false]
      rw [wrap_in (x := ((2 : Nat) : Int) - 1 - (a : Int) + 1) (by omega) (by omega), wrap_in (by omega) (by omega), show (a : Int) + (((2 : Nat) : Int) - 1 - (a : Int) + 1) = ((2 : Nat) : Int) by omega]
      exact areCodes_L1 (k := k + 1) hk hs d (i + 1) 2 m (by omega) (by omega) (by omega)
    · rw [if_neg (by decide), decide_eq_false (by omega)]
      simp only [cond_false]
      rw [wrap_in (x := ((3 : Nat) : Int) - 1 - (a : Int) + 1) (by omega) (by omega), wrap_in (by omega) (by omega), show (a : Int) + (((3 : Nat) : Int) - 1 - (a : Int) + 1) = ((3 : Nat) : Int) by omega]
      exact areCodes_L1 (k := k + 1) hk hs d (i + 1) 3 m (by omega) (by omega) (by omega)
    · rfl
theorem ssa_areCodes_ok {k : Nat} {s : Str} (hk : maxLen + 3 ≤ k) (hs : s.length ≤ maxLen) : ssa_areCodes k s = some (codesGo 0 s) := by
  obtain ⟨k, rfl, hq⟩ := succ_of (c := maxLen + 2) hk
  exact areCodes_L1 (k := k) (by omega) hs s.length 0 0 k (by omega) (by omega) (by omega)
def validOf (b : T_api_Base) (t : Int) (c : Cond) : Bool × Int := bif asked b [t] != 0 then (false, asked b [t]) else match idx b.fTypes t with | some x => (condOk x c, 0) | none => (false, 0)
theorem validOf_ok {k : Nat} {b : T_api_Base} {t : Int} {c : Cond} (hk : maxLen + 16 ≤ k) (hw : wf_T_api_Base b) (hc : wfL (wfL wf_T_api_Term) c) : match_Valid k b t c = some (validOf b t c) := by
  obtain ⟨k, rfl, hq⟩ := succ_of (c := maxLen + 15) hk
  simp only [match_Valid, validOf, match_asked_ok (show maxLen + 13 ≤ k by omega) hw, Option.bind_some]
  by_cases h : asked b [t] = 0
  · obtain ⟨x, hx, hwx, _⟩ := asked_type hw h
    simp only [h, hx, bne_self_eq_false, cond_false, match_valid_ok (show maxLen + 13 ≤ k by omega) hwx.2.2.2.2.1.1 hc, Option.bind_some]
  · have : (asked b [t] != 0) = true := by simpa using h
    simp only [this, cond_true]
def sAJ : Str := [65, 74]
def sAC : Str := [65, 67]
def sAK : Str := [65, 75]
def sOK : Str := [32, 32]
def typeI (b : T_api_Base) (a : T_api_Arg) : Int := (typeOf b a.fSegment).1
def statusOf (b : T_api_Base) (above : Int) (a : T_api_Arg) : Str × Int :=
  bif !codesGo 0 a.fCodes then (sAJ, 0) else bif (typeOf b a.fSegment).2 != 0 then (sAC, 0) else
    bif decide (above ≥ 0) && !(aboveOf b above (typeI b a)).1 then (sAC, 0) else bif !(validOf b (typeI b a) a.fWhen).1 then (sAK, 0) else (sOK, typeI b a)
theorem ssa_status_ok {k : Nat} {b : T_api_Base} {above : Int} {a : T_api_Arg} (hk : maxLen + 17 ≤ k) (hw : wf_T_api_Base b) (ha : wf_T_api_Arg a) : ssa_status k b above a = some (statusOf b above a) := by
  obtain ⟨k, rfl, hq⟩ := succ_of (c := maxLen + 16) hk
  have hc : a.fCodes.length ≤ maxLen := ha.2.1
  simp only [ssa_status, statusOf, ssa_areCodes_ok (show maxLen + 3 ≤ k by omega) hc, dbd_Type_spec (show maxLen + 11 ≤ k by omega) hw, dbd_IsAbove_spec (show maxLen + 11 ≤ k by omega) hw, validOf_ok hq hw ha.2.2.1, Option.bind_some, typeI]
  cases codesGo 0 a.fCodes with
  | false => rfl
  | true =>
    cases (typeOf b a.fSegment).2 != 0 with
    | true => rfl
    | false =>
      cases decide (above ≥ 0) with
      | false => cases (validOf b (typeOf b a.fSegment).1 a.fWhen).1 <;> rfl
      | true => cases (aboveOf b above (typeOf b a.fSegment).1).1 <;> cases (validOf b (typeOf b a.fSegment).1 a.fWhen).1 <;> rfl
def checkGo (b : T_api_Base) : Int → List Int → List T_api_Arg → Str × List Int
  | _, ts, [] => (sOK, ts)
  | above, ts, a :: r => bif !((statusOf b above a).1 == sOK) then ((statusOf b above a).1, []) else checkGo b (statusOf b above a).2 (ts ++ [(statusOf b above a).2]) r
def checkOf (b : T_api_Base) (l : List T_api_Arg) : Str × List Int := bif decide ((l.length : Int) > 5) then (sAJ, []) else checkGo b (-1) [] l
theorem ssa_check_L1_ok {k : Nat} {b : T_api_Base} {l : List T_api_Arg} (hk : maxLen + 17 ≤ k) (hw : wf_T_api_Base b) (hl : ∀ a ∈ l, wf_T_api_Arg a) (hn : l.length ≤ 5) : ∀ (d i m : Nat) (above : Int) (ts : List Int), i + d = l.length → d < m → ts.length ≤ i →
    ssa_check_L1 k b l (fun _ y17 _ => some (([32, 32] : Str), y17)) m above ts (i : Int) = some (checkGo b above ts (l.drop i))
  | 0, i, m, above, ts, hd, hm, ht => by
    obtain ⟨m, rfl⟩ : ∃ q, m = q + 1 := ⟨m - 1, by omega⟩
    obtain rfl : i = l.length := by omega
    simp only [ssa_check_L1, show decide ((l.length : Int) < (l.length : Int)) = false by simp, cond_false, List.drop_length, checkGo, sOK]
  | d + 1, i, m, above, ts, hd, hm, ht => by
    obtain ⟨m, rfl⟩ : ∃ q, m = q + 1 := ⟨m - 1, by omega⟩
    have hi : i < l.length := by omega
    simp only [ssa_check_L1, show decide ((i : Int) < (l.length : Int)) = true by simp; exact hi, cond_true, idx_at hi, Option.bind_some, ssa_status_ok hk hw (hl _ (List.getElem_mem hi)), wrap_next hi (show l.length ≤ maxLen by rw [maxLen_eq]; omega)]
    rw [List.drop_eq_getElem_cons hi, checkGo]
    show (bif !((statusOf b above l[i]).1 == sOK) then _ else _) = _
    cases (statusOf b above l[i]).1 == sOK with
    | false => rfl
    | true =>
      simp only [Bool.not_true, cond_false]
      rw [app_ok (by simp only [List.length_cons, List.length_nil, maxList]; omega), Option.bind_some]
      exact ssa_check_L1_ok hk hw hl hn d (i + 1) m _ _ (by omega) (by omega) (by simp; omega)
theorem ssa_check_ok {k : Nat} {b : T_api_Base} {l : List T_api_Arg} (hk : maxLen + 18 ≤ k) (hw : wf_T_api_Base b) (hl : ∀ a ∈ l, wf_T_api_Arg a) : ssa_check k b l = some (checkOf b l) := by
  obtain ⟨k, rfl, hq⟩ := succ_of (c := maxLen + 17) hk
  simp only [ssa_check, checkOf]
  by_cases h : (l.length : Int) > 5
  · rw [decide_eq_true h]; rfl
  · rw [decide_eq_false h]
    exact ssa_check_L1_ok hq hw hl (by omega) l.length 0 k (-1) [] (by omega) (by omega) (by simp)
def chk (b : T_api_Base) (l : List T_api_Arg) : Str × Int := bif !valid b then ([], 100) else ((checkOf b l).1, 0)
def typesOf (b : T_api_Base) (l : List T_api_Arg) : List Int × Int := bif !valid b then ([], 100) else bif !((checkOf b l).1 == sOK) then ([], 2) else ((checkOf b l).2, 0)
theorem ssa_Check_ok {k : Nat} {b : T_api_Base} {l : List T_api_Arg} (hk : maxLen + 19 ≤ k) (hw : wf_T_api_Base b) (hl : ∀ a ∈ l, wf_T_api_Arg a) : ssa_Check k b l = some (chk b l) := by
  obtain ⟨k, rfl, hq⟩ := succ_of (c := maxLen + 18) hk
  simp only [ssa_Check, chk, dbd_valid (show maxLen + 9 ≤ k by omega) hw, ssa_check_ok hq hw hl, Option.bind_some]
  cases valid b <;> rfl
theorem ssa_Types_ok {k : Nat} {b : T_api_Base} {l : List T_api_Arg} (hk : maxLen + 19 ≤ k) (hw : wf_T_api_Base b) (hl : ∀ a ∈ l, wf_T_api_Arg a) : ssa_Types k b l = some (typesOf b l) := by
  obtain ⟨k, rfl, hq⟩ := succ_of (c := maxLen + 18) hk
  simp only [ssa_Types, typesOf, dbd_valid (show maxLen + 9 ≤ k by omega) hw, ssa_check_ok hq hw hl, Option.bind_some]
  cases valid b with
  | false => rfl
  | true =>
    show (bif !((checkOf b l).1 == sOK) then _ else _) = _
    cases (checkOf b l).1 == sOK <;> rfl
def typeC : T_api_Type := { fName := [67, 85, 83, 84], fParent := (-1), fMin := 4, fSize := 10, fFields := [{ fName := [67, 85, 83, 84, 78, 79], fAt := 0, fBytes := 4 }], fKey := 0, fUnique := true, fLast := false }
def typeD : T_api_Type := { fName := [79, 82, 68, 69, 82], fParent := 0, fMin := 4, fSize := 8, fFields := [{ fName := [79, 82, 68, 78, 79], fAt := 0, fBytes := 4 }], fKey := 0, fUnique := false, fLast := false }
def shop14 : T_api_Base := { fName := [83, 72, 79, 80], fKind := 4, fTypes := [typeC, typeD], fIndexes := [] }
def arg1 : T_api_Arg := { fSegment := [79, 82, 68, 69, 82], fCodes := [68], fWhen := [[{ fField := [79, 82, 68, 78, 79], fOp := 1, fValue := [48, 48, 48, 53] }]] }
def arg2 : T_api_Arg := { fSegment := [67, 85, 83, 84], fCodes := [], fWhen := [] }
theorem wfL_short {α : Type} {p : α → Prop} {l : List α} (h : l.length ≤ 1000) (hp : ∀ x ∈ l, p x) : wfL p l := by
  have e63 := maxLen_eq
  exact ⟨by omega, hp⟩
theorem field_wf {f : T_api_Field} (h1 : f.fName.length ≤ 1000) (h2 : -1000 ≤ f.fAt) (h3 : f.fAt ≤ 1000) (h4 : -1000 ≤ f.fBytes) (h5 : f.fBytes ≤ 1000) : wf_T_api_Field f := ⟨wfS_short h1, wfI_small h2 h3, wfI_small h4 h5, trivial⟩
theorem typeC_wf : wf_T_api_Type typeC := by
  refine ⟨wfS_short (by decide), wfI_small (by decide) (by decide), wfI_small (by decide) (by decide), wfI_small (by decide) (by decide), wfL_short (by decide) (fun f hf => ?_), wfI_small (by decide) (by decide), trivial, trivial, trivial⟩
  obtain rfl : f = { fName := [67, 85, 83, 84, 78, 79], fAt := 0, fBytes := 4 } := by simpa [typeC] using hf
  exact field_wf (by decide) (by decide) (by decide) (by decide) (by decide)
theorem typeD_wf : wf_T_api_Type typeD := by
  refine ⟨wfS_short (by decide), wfI_small (by decide) (by decide), wfI_small (by decide) (by decide), wfI_small (by decide) (by decide), wfL_short (by decide) (fun f hf => ?_), wfI_small (by decide) (by decide), trivial, trivial, trivial⟩
  obtain rfl : f = { fName := [79, 82, 68, 78, 79], fAt := 0, fBytes := 4 } := by simpa [typeD] using hf
  exact field_wf (by decide) (by decide) (by decide) (by decide) (by decide)
theorem shop14_wf : wf_T_api_Base shop14 := by
  refine ⟨wfS_short (by decide), wfI_small (by decide) (by decide), wfL_short (by decide) (fun t ht => ?_), wfL_short (by decide) (fun x hx => by cases hx), trivial⟩
  rcases (by simpa [shop14] using ht : t = typeC ∨ t = typeD) with rfl | rfl
  · exact typeC_wf
  · exact typeD_wf
theorem arg1_wf : wf_T_api_Arg arg1 := by
  refine ⟨wfS_short (by decide), wfS_short (by decide), wfL_short (by decide) (fun g hg => wfL_short ?_ (fun t ht => ?_)), trivial⟩
  · obtain rfl : g = [{ fField := [79, 82, 68, 78, 79], fOp := 1, fValue := [48, 48, 48, 53] }] := by simpa [arg1] using hg
    decide
  · obtain rfl : g = [{ fField := [79, 82, 68, 78, 79], fOp := 1, fValue := [48, 48, 48, 53] }] := by simpa [arg1] using hg
    obtain rfl : t = { fField := [79, 82, 68, 78, 79], fOp := 1, fValue := [48, 48, 48, 53] } := by simpa using ht
    exact ⟨wfS_short (by decide), wfI_small (by decide) (by decide), wfS_short (by decide), trivial⟩
theorem arg2_wf : wf_T_api_Arg arg2 := ⟨wfS_short (by decide), wfS_short (by decide), wfL_short (by decide) (fun g hg => by cases hg), trivial⟩
theorem types1 : typesOf shop14 [arg1] = ([1], 0) := by
  have : (typesOf shop14 [arg1] == ([1], (0 : Int))) = true := by decide +kernel
  exact eq_of_beq this
theorem types2 : typesOf shop14 [arg2] = ([0], 0) := by
  have : (typesOf shop14 [arg2] == ([0], (0 : Int))) = true := by decide +kernel
  exact eq_of_beq this
theorem conds14 : condsOf shop14 1 [arg1.fWhen] = (typeD, 0) := by
  have : (condsOf shop14 1 [arg1.fWhen] == (typeD, (0 : Int))) = true := by decide +kernel
  exact eq_of_beq this
theorem awake14 {k : Nat} (hk : maxLen + 30 ≤ k) : law14_Awake k = some true := by
  have e63 := maxLen_eq
  obtain ⟨k, rfl⟩ : ∃ q, k = q + 12 := ⟨k - 12, by omega⟩
  have hs : law14_shop (k + 11) = some shop14 := rfl
  have t1 : ssa_Types (k + 10) shop14 [arg1] = some ([1], 0) := by
    rw [ssa_Types_ok (by omega) shop14_wf (fun a ha => by have e : a = arg1 := by simpa using ha
                                                          rw [e]; exact arg1_wf), types1]
  have t2 : ssa_Types (k + 10) shop14 [arg2] = some ([0], 0) := by
    rw [ssa_Types_ok (by omega) shop14_wf (fun a ha => by have e : a = arg2 := by simpa using ha
                                                          rw [e]; exact arg2_wf), types2]
  have hc : match_conditions (k + 9) shop14 1 [arg1.fWhen] = some (typeD, 0) := by
    rw [match_conditions_ok (by omega) shop14_wf (by simp) (fun c hc => by have e : c = arg1.fWhen := by simpa using hc
                                                                           rw [e]; exact arg1_wf.2.2.1), conds14]
  have hm : match_Format (k + 10) shop14 1 arg1.fWhen = some ([79, 82, 68, 78, 79, 32, 32, 32, 61, 32, 48, 48, 48, 53], 0) := by
    simp only [match_Format, hc, Option.bind_some]
    rfl
  have f1 : ssa_Format (k + 11) shop14 arg1 = some ([79, 82, 68, 69, 82, 32, 32, 32, 42, 68, 40, 79, 82, 68, 78, 79, 32, 32, 32, 61, 32, 48, 48, 48, 53, 41], 0) := by
    simp only [ssa_Format, t1, Option.bind_some]
    have e : idx ([1] : List Int) 0 = some 1 := rfl
    simp only [e, Option.bind_some, hm]
    rfl
  have f2 : ssa_Format (k + 11) shop14 arg2 = some ([67, 85, 83, 84, 32, 32, 32, 32, 32], 0) := by
    simp only [ssa_Format, t2, Option.bind_some]
    rfl
  unfold arg1 at f1
  unfold arg2 at f2
  simp only [law14_Awake, hs, f1, f2, Option.bind_some]
  rfl
end Go.Sh

namespace Go.Sh
open Go.AE
set_option linter.unusedVariables false
set_option linter.unusedSimpArgs false
end Go.Sh

namespace Go.Sh
open Go.AE
set_option linter.unusedVariables false
set_option linter.unusedSimpArgs false
/-- One type is above the other. -/
def Abv (ts : List T_api_Type) (a x : Int) : Prop := a < x ∧ a ∈ way ts x.toNat
theorem chain_pair {ts : List T_api_Type} {n : Nat} (hu : Up ts n) : ∀ (d : Nat) (x : Int), x < (d : Int) → x < (n : Int) → (chain ts d x).Pairwise (Abv ts)
  | 0, x, _, _ => List.Pairwise.nil
  | d + 1, x, hd, hn => by
    by_cases h0 : 0 ≤ x
    · have hself := chain_way hu h0 hd hn
      simp only [chain, if_pos h0] at hself ⊢
      cases ht : ts[x.toNat]? with
      | none => exact List.Pairwise.nil
      | some t =>
        rw [ht] at hself
        simp only at hself ⊢
        have hlt : x.toNat < ts.length := by
          rcases Nat.lt_or_ge x.toNat ts.length with h | h
          · exact h
          · rw [List.getElem?_eq_none h] at ht; cases ht
        have hte : ts[x.toNat] = t := by rw [List.getElem?_eq_getElem hlt] at ht; exact Option.some.inj ht
        have hp : t.fParent < x := by have := hu x.toNat hlt (by omega); rw [hte] at this; omega
        rw [List.pairwise_append]
        refine ⟨chain_pair hu d t.fParent (by omega) (by omega), List.pairwise_singleton _ _, fun a ha y hy => ?_⟩
        rw [List.mem_singleton] at hy
        subst hy
        have := (chain_lt hu d t.fParent (by omega) a ha).2
        exact ⟨by omega, by rw [← hself]; exact List.mem_append_left _ ha⟩
    · rw [chain_neg (by omega)]
      exact List.Pairwise.nil
/-- What is left of a way. -/
def selGo (out : Int) : Nat → List Int → List Int
  | _, [] => []
  | i, x :: r => bif (andI .u8 (out.fdiv (2 ^ (min i 8))) 1 == 1) then selGo out (i + 1) r else x :: selGo out (i + 1) r
theorem selGo_sub (out : Int) : ∀ (l : List Int) (i : Nat), (selGo out i l).Sublist l
  | [], _ => List.Sublist.refl _
  | x :: l, i => by
    rw [selGo]
    cases (andI .u8 (out.fdiv (2 ^ (min i 8))) 1 == 1)
    · exact (selGo_sub out l (i + 1)).cons_cons x
    · exact (selGo_sub out l (i + 1)).cons x
def argOf (b : T_api_Base) (x : Int) : T_api_Arg := { fSegment := (match idx b.fTypes x with | some t => t.fName | none => []), fCodes := [], fWhen := [] }
theorem ways_L1 {b : T_api_Base} {out : Int} {W : List Int} {K : List T_api_Arg → List T_api_Arg → List Int → Option Bool} (hW : W.length ≤ 8) (hin : ∀ x ∈ W, 0 ≤ x ∧ x < (b.fTypes.length : Int)) : ∀ (d i m : Nat) (l u : List T_api_Arg) (ts : List Int), i + d = W.length → d < m → u.length ≤ i → l.length ≤ i → ts.length ≤ i →
    law14_SsaWays_L1 b out W (fun y35 y36 y37 _ => K y35 y36 y37) m (i : Int) l u ts = K (l ++ (selGo out i (W.drop i)).map (argOf b)) (((selGo out i (W.drop i)).map (argOf b)).reverse ++ u) (ts ++ selGo out i (W.drop i))
  | 0, i, m, l, u, ts, hd, hm, h1, h2, h3 => by
    obtain ⟨m, rfl⟩ : ∃ q, m = q + 1 := ⟨m - 1, by omega⟩
    obtain rfl : i = W.length := by omega
    simp only [law14_SsaWays_L1, show decide ((W.length : Int) < (W.length : Int)) = false by simp, cond_false, List.drop_length, selGo, List.map_nil, List.reverse_nil, List.nil_append, List.append_nil]
  | d + 1, i, m, l, u, ts, hd, hm, h1, h2, h3 => by
    obtain ⟨m, rfl⟩ : ∃ q, m = q + 1 := ⟨m - 1, by omega⟩
    have hi : i < W.length := by omega
    have hs : shrI .u8 out (i : Int) = some (out.fdiv (2 ^ (min i 8))) := by
      unfold shrI
      rw [if_neg (by omega), Int.toNat_natCast]
      rfl
    obtain ⟨g1, g2⟩ := hin W[i] (List.getElem_mem hi)
    obtain ⟨t, ht⟩ : ∃ t, idx b.fTypes W[i] = some t := ⟨b.fTypes[W[i].toNat]'(by omega), idx_of g1 g2⟩
    have ha : ({ fSegment := t.fName, fCodes := [], fWhen := [] } : T_api_Arg) = argOf b W[i] := by
      unfold argOf
      rw [ht]
    simp only [law14_SsaWays_L1, show decide ((i : Int) < (W.length : Int)) = true by simp; exact hi, cond_true, hs, Option.bind_some, wrap_next hi (show W.length ≤ maxLen by have := maxLen_eq; omega), idx_at hi, ht, ha]
    rw [List.drop_eq_getElem_cons hi, selGo]
    cases (andI .u8 (out.fdiv (2 ^ (min i 8))) 1 == 1) with
    | true =>
      simp only [cond_true]
      exact ways_L1 hW hin d (i + 1) m l u ts (by omega) (by omega) (by omega) (by omega) (by omega)
    | false =>
      have e1 : app l [argOf b W[i]] = some (l ++ [argOf b W[i]]) := app_ok (by simp only [List.length_cons, List.length_nil, maxList]; omega)
      have e2 : app ts [W[i]] = some (ts ++ [W[i]]) := app_ok (by simp only [List.length_cons, List.length_nil, maxList]; omega)
      have e3 : app [argOf b W[i]] u = some ([argOf b W[i]] ++ u) := app_ok (by simp only [List.length_cons, List.length_nil, maxList]; omega)
      simp only [cond_false, e1, e2, e3, Option.bind_some]
      rw [ways_L1 hW hin d (i + 1) m _ _ _ (by omega) (by omega) (by simp; omega) (by simp; omega) (by simp; omega)]
      simp only [List.map_cons, List.reverse_cons, List.append_assoc, List.cons_append, List.nil_append]
theorem valid_types {b : T_api_Base} (hv : valid b = true) : ∀ j, j < b.fTypes.length → badType b.fTypes j = false := by
  unfold valid typesOk at hv
  simp only [Bool.and_eq_true, Bool.not_eq_true'] at hv
  exact anyB_false.1 hv.2.2.2.1.2
theorem asked_in {b : T_api_Base} {l : List Int} (hv : valid b = true) (h : ∀ x ∈ l, 0 ≤ x ∧ x < (b.fTypes.length : Int)) : asked b l = 0 := by
  unfold asked
  have : l.any (outside b) = false := by
    rw [List.any_eq_false]
    intro x hx
    obtain ⟨h1, h2⟩ := h x hx
    unfold outside
    simp
    omega
  rw [hv, this]
  rfl
theorem way_short {b : T_api_Base} (hv : valid b = true) {n : Nat} (hn : n < b.fTypes.length) : (way b.fTypes n).length ≤ 5 := by
  have := valid_types hv n hn
  rw [badType, at'_eq hn] at this
  simp only [Bool.or_eq_false_iff, decide_eq_false_iff_not] at this
  have := this.2.2
  omega
theorem type_named {b : T_api_Base} (hv : valid b = true) {x : Int} (h0 : 0 ≤ x) (h1 : x < (b.fTypes.length : Int)) : typeOf b (argOf b x).fSegment = (x, 0) := by
  have hj : x.toNat < b.fTypes.length := by omega
  unfold typeOf argOf
  rw [asked_in hv (l := []) (fun y hy => by cases hy), idx_of h0 h1]
  simp only [bne_self_eq_false, cond_false]
  have := valid_types hv x.toNat hj
  rw [badType, at'_eq hj] at this
  simp only [Bool.or_eq_false_iff] at this
  have hd := this.1.2
  rw [dupType, at'_eq hj, List.any_eq_false] at hd
  rw [pos_eq (p := fun t => t.fName == (b.fTypes[x.toNat]).fName) hj (beq_self_eq_true _) (fun i hi hij => ?_)]
  · unfold found
    rw [show ((x.toNat : Nat) : Int) = x by omega, decide_eq_false (by omega)]
    rfl
  · have hm : b.fTypes[i] ∈ b.fTypes.take x.toNat := by
      rw [List.mem_take_iff_getElem]
      exact ⟨i, by omega, rfl⟩
    have := hd _ hm
    simpa using this
theorem status_named {b : T_api_Base} (hv : valid b = true) {above x : Int} (h0 : 0 ≤ x) (h1 : x < (b.fTypes.length : Int)) : statusOf b above (argOf b x) = bif decide (above ≥ 0) && !(aboveOf b above x).1 then (sAC, 0) else (sOK, x) := by
  have ht := type_named hv h0 h1
  have hv2 : (validOf b x []).1 = true := by
    unfold validOf
    rw [asked_in hv (l := [x]) (fun y hy => by rw [List.mem_singleton] at hy; subst hy; exact ⟨h0, h1⟩), idx_of h0 h1]
    rfl
  have hI : typeI b (argOf b x) = x := by unfold typeI; rw [ht]
  unfold statusOf
  rw [hI, ht]
  show (bif !codesGo 0 [] then _ else bif (0 : Int) != 0 then _ else bif decide (above ≥ 0) && !(aboveOf b above x).1 then _ else bif !(validOf b x []).1 then _ else _) = _
  rw [hv2]
  rfl
theorem above_true {b : T_api_Base} (hv : valid b = true) {a x : Int} (ha : 0 ≤ a ∧ a < (b.fTypes.length : Int)) (hx : 0 ≤ x ∧ x < (b.fTypes.length : Int)) (h : Abv b.fTypes a x) : (aboveOf b a x).1 = true := by
  unfold aboveOf
  rw [asked_in hv (l := [a, x]) (fun y hy => by
    rcases List.mem_cons.1 hy with rfl | hy
    · exact ha
    · rw [List.mem_singleton] at hy; subst hy; exact hx)]
  simp only [bne_self_eq_false, cond_false, Bool.and_eq_true, bne_iff_ne]
  exact ⟨by have := h.1; omega, List.any_eq_true.2 ⟨a, h.2, beq_self_eq_true a⟩⟩
theorem above_false {b : T_api_Base} (hv : valid b = true) {a x : Int} (ha : 0 ≤ a ∧ a < (b.fTypes.length : Int)) (hx : 0 ≤ x ∧ x < (b.fTypes.length : Int)) (h : x < a) : (aboveOf b a x).1 = false := by
  unfold aboveOf
  rw [asked_in hv (l := [a, x]) (fun y hy => by
    rcases List.mem_cons.1 hy with rfl | hy
    · exact ha
    · rw [List.mem_singleton] at hy; subst hy; exact hx)]
  simp only [bne_self_eq_false, cond_false, Bool.and_eq_false_iff]
  refine .inr (List.any_eq_false.2 fun z hz => ?_)
  have := (chain_lt (valid_up hv).1 _ _ (by omega) z hz).2
  simp
  omega
theorem check_line {b : T_api_Base} (hv : valid b = true) : ∀ (S : List Int) (above : Int) (ts : List Int), (∀ x ∈ S, 0 ≤ x ∧ x < (b.fTypes.length : Int)) → S.Pairwise (Abv b.fTypes) → (above < 0 ∨ (0 ≤ above ∧ above < (b.fTypes.length : Int)) ∧ ∀ x ∈ S, Abv b.fTypes above x) → checkGo b above ts (S.map (argOf b)) = (sOK, ts ++ S)
  | [], above, ts, _, _, _ => by simp [checkGo]
  | x :: S, above, ts, hin, hp, ha => by
    have hx := hin x List.mem_cons_self
    have h1 : statusOf b above (argOf b x) = (sOK, x) := by
      rw [status_named hv hx.1 hx.2]
      rcases ha with ha | ⟨ha, hr⟩
      · rw [decide_eq_false (by omega)]; rfl
      · rw [above_true hv ha hx (hr x List.mem_cons_self), Bool.not_true, Bool.and_false]; rfl
    rw [List.map_cons, checkGo, h1]
    simp only [beq_self_eq_true, Bool.not_true, cond_false]
    rw [List.pairwise_cons] at hp
    rw [check_line hv S x _ (fun y hy => hin y (List.mem_cons_of_mem _ hy)) hp.2 (.inr ⟨hx, hp.1⟩)]
    simp only [List.append_assoc, List.cons_append, List.nil_append]
theorem check_turned {b : T_api_Base} (hv : valid b = true) {S : List Int} (hin : ∀ x ∈ S, 0 ≤ x ∧ x < (b.fTypes.length : Int)) (hp : S.Pairwise (Abv b.fTypes)) : ((checkGo b (-1) [] (S.map (argOf b)).reverse).1 == sOK) = decide ((S.length : Int) < 2) := by
  rw [← List.map_reverse]
  have hp' := List.pairwise_reverse.2 hp
  have hl : S.reverse.length = S.length := List.length_reverse
  have hin' : ∀ x ∈ S.reverse, 0 ≤ x ∧ x < (b.fTypes.length : Int) := fun x hx => hin x (List.mem_reverse.1 hx)
  generalize S.reverse = R at hp' hl hin'
  match R, hp', hl, hin' with
  | [], _, hl, _ =>
    rw [← hl]; rfl
  | [x], _, hl, hin' =>
    have hx := hin' x List.mem_cons_self
    rw [← hl]
    simp only [List.map_cons, List.map_nil, checkGo, status_named hv hx.1 hx.2]
    rfl
  | x :: y :: r, hp', hl, hin' =>
    have hx := hin' x List.mem_cons_self
    have hy := hin' y (List.mem_cons_of_mem _ List.mem_cons_self)
    rw [List.pairwise_cons] at hp'
    have hxy : y < x := (hp'.1 y List.mem_cons_self).1
    have h1 : statusOf b (-1) (argOf b x) = (sOK, x) := by
      rw [status_named hv hx.1 hx.2]; rfl
    have h2 : statusOf b x (argOf b y) = (sAC, 0) := by
      rw [status_named hv hy.1 hy.2, above_false hv hx hy hxy, decide_eq_true (show x ≥ 0 by omega)]; rfl
    rw [← hl, List.map_cons, List.map_cons, checkGo, h1]
    simp only [beq_self_eq_true, Bool.not_true, cond_false]
    rw [checkGo, h2]
    rw [decide_eq_false (by simp only [List.length_cons]; omega)]
    rfl
theorem ways_L2 {S : List Int} {K : Option Bool} (hS : S.length ≤ 8) : ∀ (d i m : Nat), i + d = S.length → d < m → law14_SsaWays_L2 S (S, 0) (fun _ => K) m (i : Int) = K
  | 0, i, m, hd, hm => by
    obtain ⟨m, rfl⟩ : ∃ q, m = q + 1 := ⟨m - 1, by omega⟩
    obtain rfl : i = S.length := by omega
    simp only [law14_SsaWays_L2, show decide ((S.length : Int) < (S.length : Int)) = false by simp, cond_false]
  | d + 1, i, m, hd, hm => by
    obtain ⟨m, rfl⟩ : ∃ q, m = q + 1 := ⟨m - 1, by omega⟩
    have hi : i < S.length := by omega
    simp only [law14_SsaWays_L2, show decide ((i : Int) < (S.length : Int)) = true by simp; exact hi, cond_true, idx_at hi, Option.bind_some, bne_self_eq_false, cond_false, wrap_next hi (show S.length ≤ maxLen by have := maxLen_eq; omega)]
    exact ways_L2 hS d (i + 1) m (by omega) (by omega)
theorem argOf_wf {b : T_api_Base} (hw : wf_T_api_Base b) (x : Int) : wf_T_api_Arg (argOf b x) := by
  refine ⟨?_, (show wfS ([] : Str) from wfS_short (by decide)), (show wfL (wfL wf_T_api_Term) [] from ⟨Nat.zero_le _, fun g hg => by cases hg⟩), trivial⟩
  unfold argOf
  cases h : idx b.fTypes x with
  | none => exact wfS_short (by decide)
  | some t =>
    unfold idx at h
    split at h
    · exact (hw.2.2.1.2 t (List.mem_of_getElem? h)).1
    · cases h
theorem law_law14_SsaWays (b : T_api_Base) (t out : Int) (hb : wf_T_api_Base b) (ht : wfI .u8 t) (ho : wfI .u8 out) : ∃ k, law14_SsaWays k b t out = some true := by
  obtain ⟨k, hk⟩ : ∃ k, maxLen + 59 ≤ k := ⟨_, Nat.le_refl _⟩
  refine ⟨k + 1, ?_⟩
  obtain ⟨r1, h1⟩ := large_total (k := k) (by omega) hb
  have h5 := awake14 (k := k) (by omega)
  simp only [law14_SsaWays, h1, h5, ref11_valid (show maxLen + 9 ≤ k by omega) hb, Option.bind_some]
  cases r1 with
  | true => rfl
  | false =>
  cases hv : valid b with
  | false => rfl
  | true =>
  simp only [cond_false, Bool.not_true, Option.bind_some]
  obtain ⟨hu, hl1, hl8⟩ := valid_up hv
  obtain ⟨t0, t1⟩ : 0 ≤ t ∧ t ≤ 255 := by
    have := ht
    unfold wfI Lit.wf at this
    have e1 : IntKind.u8.min = 0 := by decide
    have e2 : IntKind.u8.max = 255 := by decide
    simp only [e1, e2, Bool.and_eq_true, decide_eq_true_eq] at this
    exact this
  have hwr : Go.IntKind.wrap .i64 t = t := wrap_in (by omega) (by omega)
  have hrem : remE t (b.fTypes.length : Int) = some (t.tmod (b.fTypes.length : Int)) := by
    unfold remE
    rw [if_neg (by omega)]
  have hn0 : 0 ≤ t.tmod (b.fTypes.length : Int) := Int.tmod_nonneg _ t0
  have hn1 : t.tmod (b.fTypes.length : Int) < (b.fTypes.length : Int) := Int.tmod_lt_of_pos _ (by omega)
  simp only [hwr, hrem, Option.bind_some]
  generalize t.tmod (b.fTypes.length : Int) = n at hn0 hn1
  have hway : wayOf b n = (way b.fTypes n.toNat, 0) := by
    unfold wayOf
    rw [asked_in hv (l := [n]) (fun y hy => by rw [List.mem_singleton] at hy; subst hy; exact ⟨hn0, hn1⟩)]
    rfl
  have hN : n.toNat < b.fTypes.length := by omega
  have hin : ∀ x ∈ way b.fTypes n.toNat, 0 ≤ x ∧ x < (b.fTypes.length : Int) := fun x hx => by
    have := chain_lt hu _ _ (by omega) x hx
    omega
  have hpair : (way b.fTypes n.toNat).Pairwise (Abv b.fTypes) := chain_pair hu _ _ (by omega) (by omega)
  have hlen := way_short hv hN
  simp only [ref11_Way_spec (show maxLen + 11 ≤ k by omega) hb, hway, Option.bind_some]
  generalize way b.fTypes n.toNat = W at hin hpair hlen
  have hL1 := fun K => ways_L1 (b := b) (out := out) (W := W) (K := K) (by omega) hin W.length 0 k [] [] [] (by omega) (by omega) (by simp) (by simp) (by simp)
  refine Eq.trans (hL1 (fun y35 y36 y37 => _)) ?_
  rw [List.drop_zero]
  simp only [List.append_nil, List.nil_append]
  have hsub := selGo_sub out W 0
  have sin : ∀ x ∈ selGo out 0 W, 0 ≤ x ∧ x < (b.fTypes.length : Int) := fun x hx => hin x (hsub.subset hx)
  have spair := hpair.sublist hsub
  have slen := hsub.length_le
  generalize selGo out 0 W = S at sin spair slen
  have hwf : ∀ a ∈ S.map (argOf b), wf_T_api_Arg a := fun a ha => by
    obtain ⟨x, _, rfl⟩ := List.mem_map.1 ha
    exact argOf_wf hb x
  have hwf' : ∀ a ∈ (S.map (argOf b)).reverse, wf_T_api_Arg a := fun a ha => hwf a (List.mem_reverse.1 ha)
  have hc : checkOf b (S.map (argOf b)) = (sOK, S) := by
    unfold checkOf
    rw [decide_eq_false (by rw [List.length_map]; omega)]
    exact (check_line hv S (-1) [] sin spair (.inl (by omega))).trans (by rw [List.nil_append])
  have hc2 : ((checkOf b (S.map (argOf b)).reverse).1 == sOK) = decide ((S.length : Int) < 2) := by
    unfold checkOf
    rw [decide_eq_false (by rw [List.length_reverse, List.length_map]; omega)]
    exact check_turned hv sin spair
  simp only [ssa_Check_ok (show maxLen + 19 ≤ k by omega) hb hwf, ssa_Check_ok (show maxLen + 19 ≤ k by omega) hb hwf', ssa_Types_ok (show maxLen + 19 ≤ k by omega) hb hwf, Option.bind_some, chk, typesOf, hv, hc, Bool.not_true, cond_false, beq_self_eq_true, bne_self_eq_false]
  have hc3 : ((checkOf b (S.map (argOf b)).reverse).1 == ([32, 32] : Str)) = decide ((S.length : Int) < 2) := hc2
  simp only [show (sOK == ([32, 32] : Str)) = true from rfl, hc3, List.length_map, beq_self_eq_true, Bool.not_true, cond_false, Option.bind_some]
  exact ways_L2 (S := S) (by omega) S.length 0 k (by omega) (by omega)
end Go.Sh

