/- The functions as functions on lists, and what they come to: no program in sight. Conditions: those that each theorem names. -/
import Derived.Test.YtgideolbpeidmaaA2
import Derived.IntWalk
namespace Go.Sh
open Go.AE (idx idxS cut cat app upTo inB sameLen revInt wfI wfS wfL wfT)
set_option linter.unusedVariables false
abbrev Str := List UInt8
structure T_api_Field where
  fName : Str
  fAt : Int
  fBytes : Int
  deriving DecidableEq
structure T_api_Type where
  fName : Str
  fParent : Int
  fMin : Int
  fSize : Int
  fFields : (List T_api_Field)
  fKey : Int
  fUnique : Bool
  fLast : Bool
  deriving DecidableEq
structure T_api_Search where
  fName : Str
  fType : Int
  fField : Int
  fSparse : Str
  deriving DecidableEq
structure T_api_Base where
  fName : Str
  fKind : Int
  fTypes : (List T_api_Type)
  fIndexes : (List T_api_Search)
  deriving DecidableEq
def wf_T_api_Field (a : T_api_Field) : Prop := wfS a.fName ∧ (wfI .i64) a.fAt ∧ (wfI .i64) a.fBytes ∧ wfT ()
def wf_T_api_Type (a : T_api_Type) : Prop := wfS a.fName ∧ (wfI .i64) a.fParent ∧ (wfI .i64) a.fMin ∧ (wfI .i64) a.fSize ∧ (wfL wf_T_api_Field) a.fFields ∧ (wfI .i64) a.fKey ∧ wfT a.fUnique ∧ wfT a.fLast ∧ wfT ()
def wf_T_api_Search (a : T_api_Search) : Prop := wfS a.fName ∧ (wfI .i64) a.fType ∧ (wfI .i64) a.fField ∧ wfS a.fSparse ∧ wfT ()
def wf_T_api_Base (a : T_api_Base) : Prop := wfS a.fName ∧ (wfI .i64) a.fKind ∧ (wfL wf_T_api_Type) a.fTypes ∧ (wfL wf_T_api_Search) a.fIndexes ∧ wfT ()
def law11_Small_L1 (a0 : T_api_Base)  (K0 : Int → Option Bool) : Nat → Int → Option Bool
  | 0, _ => none
  | m + 1, x3 =>
    (bif (decide (x3 < (a0.fTypes.length : Int))) then (((idx a0.fTypes x3).bind fun v4 => (some ((decide ((v4.fFields.length : Int) > 10))))).bind fun o5 =>
          (bif o5 then (some false) else
          (law11_Small_L1 a0 K0 m (Go.IntKind.wrap .i64 (x3 + 1))))) else
        (K0 x3))
def law11_Small : Nat → (T_api_Base) → Option Bool
  | 0, _ => none
  | k + 1, a0 =>
    (law11_Small_L1 a0 (fun y6 =>
      ((bif (decide ((a0.fTypes.length : Int) ≤ 12)) then (some ((decide ((a0.fIndexes.length : Int) ≤ 6)))) else (some (false))).bind fun o7 =>
        (some o7))) k 0)
def law11_shop : Nat → Option T_api_Base
  | 0 => none
  | k + 1 =>
    (some ({ fName := ([83, 72, 79, 80] : Str), fKind := 4, fTypes := ([({ fName := ([67, 85, 83, 84] : Str), fParent := (-1), fMin := 4, fSize := 10, fFields := ([({ fName := ([67, 85, 83, 84, 78, 79] : Str), fAt := 0, fBytes := 4 } : T_api_Field)] : List T_api_Field), fKey := 0, fUnique := true, fLast := false } : T_api_Type), ({ fName := ([79, 82, 68, 69, 82] : Str), fParent := 0, fMin := 4, fSize := 12, fFields := ([({ fName := ([79, 82, 68, 78, 79] : Str), fAt := 0, fBytes := 4 } : T_api_Field)] : List T_api_Field), fKey := 0, fUnique := false, fLast := false } : T_api_Type), ({ fName := ([73, 84, 69, 77] : Str), fParent := 1, fMin := 1, fSize := 8, fFields := ([] : List T_api_Field), fKey := (-1), fUnique := false, fLast := true } : T_api_Type), ({ fName := ([80, 72, 79, 78, 69] : Str), fParent := 0, fMin := 1, fSize := 8, fFields := ([] : List T_api_Field), fKey := (-1), fUnique := false, fLast := false } : T_api_Type)] : List T_api_Type), fIndexes := ([] : List T_api_Search) } : T_api_Base))
def dbd_IsName_L1 (a0 : Str)  (K0 : Int → Option Bool) : Nat → Int → Option Bool
  | 0, _ => none
  | m + 1, x7 =>
    (bif (decide (x7 < (a0.length : Int))) then (((idxS a0 x7).bind fun v8 => (bif (decide (v8 ≥ 65)) then ((idxS a0 x7).bind fun v9 => (some ((decide (v9 ≤ 90))))) else (some (false)))).bind fun o10 =>
          ((bif (!o10) then (bif (x7 == 0) then (some (true)) else ((idxS a0 x7).bind fun v11 => (bif (decide (v11 < 48)) then (some (true)) else ((idxS a0 x7).bind fun v12 => (some ((decide (v12 > 57)))))))) else (some (false))).bind fun o13 =>
          (bif o13 then (some false) else
          (dbd_IsName_L1 a0 K0 m (Go.IntKind.wrap .i64 (x7 + 1)))))) else
        (K0 x7))
def dbd_IsName : Nat → (Str) → Option Bool
  | 0, _ => none
  | k + 1, a0 =>
    (dbd_IsName_L1 a0 (fun y14 =>
      ((bif (decide ((a0.length : Int) ≥ 1)) then (some ((decide ((a0.length : Int) ≤ 8)))) else (some (false))).bind fun o15 =>
        (some o15))) k 0)
def slices_IndexFunc_Field_L1 (k : Nat) (a0 : (List T_api_Field)) (a1 : Nat → T_api_Field → Option Bool) (K0 : Int → Option Int) : Nat → Int → Option Int
  | 0, _ => none
  | m + 1, x4 =>
    (bif (decide (x4 < (a0.length : Int))) then (((idx a0 x4).bind fun v5 => (a1 k v5)).bind fun o7 =>
          (bif o7 then (some x4) else
          (slices_IndexFunc_Field_L1 k a0 a1 K0 m (Go.IntKind.wrap .i64 (x4 + 1))))) else
        (K0 x4))
def slices_IndexFunc_Field : Nat → ((List T_api_Field)) → (Nat → T_api_Field → Option Bool) → Option Int
  | 0, _, _ => none
  | k + 1, a0, a1 =>
    (slices_IndexFunc_Field_L1 k a0 a1 (fun y8 =>
      (some (-1))) k 0)
def slices_ContainsFunc_Field : Nat → ((List T_api_Field)) → (Nat → T_api_Field → Option Bool) → Option Bool
  | 0, _, _ => none
  | k + 1, a0, a1 =>
    (((slices_IndexFunc_Field k a0 a1).bind fun v1 => (some ((decide (v1 ≥ 0))))).bind fun o2 =>
      (some o2))
def dbd_areFields_1 : Nat → (T_api_Field) → (T_api_Field) → Option Bool
  | 0, _, _ => none
  | k + 1, a0, a1 =>
    (some (a0.fName == a1.fName))
def dbd_areFields_L1 (k : Nat) (a0 : (List T_api_Field)) (a1 : Int)  (K0 : Int → Option Bool) : Nat → Int → Option Bool
  | 0, _ => none
  | m + 1, x8 =>
    (bif (decide (x8 < (a0.length : Int))) then (((idx a0 x8).bind fun v9 => (some (x8, v9))).bind fun o10 =>
          (((dbd_IsName k o10.2.fName).bind fun v11 => (bif (!v11) then (some (true)) else (bif (decide (o10.2.fAt < 0)) then (some (true)) else (bif (decide (o10.2.fAt ≥ a1)) then (some (true)) else (bif (decide (o10.2.fBytes < 1)) then (some (true)) else (some ((decide (o10.2.fBytes > (Go.IntKind.wrap .i64 (a1 - o10.2.fAt))))))))))).bind fun o12 =>
          (bif o12 then (some false) else
          (((cut a0 0 o10.1).bind fun v13 => (slices_ContainsFunc_Field k v13 (fun j x0 => (dbd_areFields_1 j x0 o10.2)))).bind fun o15 =>
            (bif o15 then (some false) else
            (dbd_areFields_L1 k a0 a1 K0 m (Go.IntKind.wrap .i64 (x8 + 1)))))))) else
        (K0 x8))
def dbd_areFields : Nat → ((List T_api_Field)) → (Int) → Option Bool
  | 0, _, _ => none
  | k + 1, a0, a1 =>
    (dbd_areFields_L1 k a0 a1 (fun y16 =>
      (some (decide ((a0.length : Int) ≤ 5)))) k 0)
def dbd_isType : Nat → (T_api_Type) → Option Bool
  | 0, _ => none
  | k + 1, a0 =>
    (((dbd_IsName k a0.fName).bind fun v1 => (bif (!v1) then (some (true)) else (bif (decide (a0.fMin < 1)) then (some (true)) else (bif (decide (a0.fMin > a0.fSize)) then (some (true)) else (bif (decide (a0.fSize > 40)) then (some (true)) else ((dbd_areFields k a0.fFields a0.fSize).bind fun v2 => (some ((!v2))))))))).bind fun o3 =>
      (bif o3 then (some false) else
      (bif (a0.fKey == (-1)) then (some (!a0.fUnique)) else
        ((bif (decide (a0.fKey < 0)) then (some (true)) else (some ((decide (a0.fKey ≥ (a0.fFields.length : Int)))))).bind fun o4 =>
          (bif o4 then (some false) else
          (((idx a0.fFields a0.fKey).bind fun v5 => ((idx a0.fFields a0.fKey).bind fun v6 => (some ((decide ((Go.IntKind.wrap .i64 (v5.fAt + v6.fBytes)) ≤ a0.fMin)))))).bind fun o7 =>
            (some o7)))))))
def slices_IndexFunc_Type_L1 (k : Nat) (a0 : (List T_api_Type)) (a1 : Nat → T_api_Type → Option Bool) (K0 : Int → Option Int) : Nat → Int → Option Int
  | 0, _ => none
  | m + 1, x4 =>
    (bif (decide (x4 < (a0.length : Int))) then (((idx a0 x4).bind fun v5 => (a1 k v5)).bind fun o7 =>
          (bif o7 then (some x4) else
          (slices_IndexFunc_Type_L1 k a0 a1 K0 m (Go.IntKind.wrap .i64 (x4 + 1))))) else
        (K0 x4))
def slices_IndexFunc_Type : Nat → ((List T_api_Type)) → (Nat → T_api_Type → Option Bool) → Option Int
  | 0, _, _ => none
  | k + 1, a0, a1 =>
    (slices_IndexFunc_Type_L1 k a0 a1 (fun y8 =>
      (some (-1))) k 0)
def slices_ContainsFunc_Type : Nat → ((List T_api_Type)) → (Nat → T_api_Type → Option Bool) → Option Bool
  | 0, _, _ => none
  | k + 1, a0, a1 =>
    (((slices_IndexFunc_Type k a0 a1).bind fun v1 => (some ((decide (v1 ≥ 0))))).bind fun o2 =>
      (some o2))
def dbd_areTypes_1 : Nat → (T_api_Type) → (T_api_Type) → Option Bool
  | 0, _, _ => none
  | k + 1, a0, a1 =>
    (some (a0.fName == a1.fName))
def slices_Index_int_L1 (a0 : (List Int)) (a1 : Int)  (K0 : Int → Option Int) : Nat → Int → Option Int
  | 0, _ => none
  | m + 1, x3 =>
    (bif (decide (x3 < (a0.length : Int))) then (((idx a0 x3).bind fun v4 => (some ((a1 == v4)))).bind fun o5 =>
          (bif o5 then (some x3) else
          (slices_Index_int_L1 a0 a1 K0 m (Go.IntKind.wrap .i64 (x3 + 1))))) else
        (K0 x3))
def slices_Index_int : Nat → ((List Int)) → (Int) → Option Int
  | 0, _, _ => none
  | k + 1, a0, a1 =>
    (slices_Index_int_L1 a0 a1 (fun y6 =>
      (some (-1))) k 0)
def dbd_areTypes_L1 (k : Nat) (a0 : (List T_api_Type))  (K0 : Int → (List Int) → Option Bool) : Nat → Int → (List Int) → Option Bool
  | 0, _, _ => none
  | m + 1, x15, x16 =>
    (bif (decide (x15 < (a0.length : Int))) then (((idx a0 x15).bind fun v17 => (some (x15, v17))).bind fun o18 =>
          (((dbd_isType k o18.2).bind fun v19 => (bif (!v19) then (some (true)) else ((cut a0 0 o18.1).bind fun v20 => (slices_ContainsFunc_Type k v20 (fun j x0 => (dbd_areTypes_1 j x0 o18.2)))))).bind fun o22 =>
          (bif o22 then (some false) else
          ((slices_Index_int k x16 o18.2.fParent).bind fun o24 =>
            ((bif (o18.1 == 0) then (bif (o18.2.fParent != (-1)) then (some (true)) else (bif (decide (o18.2.fKey < 0)) then (some (true)) else (bif (!o18.2.fUnique) then (some (true)) else ((idx o18.2.fFields o18.2.fKey).bind fun v25 => (bif (decide (v25.fBytes > 24)) then (some (true)) else (bif (decide (o18.1 > 0)) then (some ((decide (o24 < 0)))) else (some (false)))))))) else (bif (decide (o18.1 > 0)) then (some ((decide (o24 < 0)))) else (some (false)))).bind fun o26 =>
            (bif o26 then (some false) else
            (((upTo x16 (Go.IntKind.wrap .i64 (o24 + 1))).bind fun v27 => (app (List.take v27 x16) ([o18.1] : List Int))).bind fun o29 =>
              (bif (decide ((o29.length : Int) > 5)) then (some false) else
              (dbd_areTypes_L1 k a0 K0 m (Go.IntKind.wrap .i64 (x15 + 1)) o29))))))))) else
        (K0 x15 x16))
def dbd_areTypes : Nat → ((List T_api_Type)) → Option Bool
  | 0, _ => none
  | k + 1, a0 =>
    ((bif (decide ((a0.length : Int) < 1)) then (some (true)) else (some ((decide ((a0.length : Int) > 8))))).bind fun o1 =>
      (bif o1 then (some false) else
      (dbd_areTypes_L1 k a0 (fun y30 y31 =>
        (some true)) k 0 ([] : List Int))))
def slices_IndexFunc_Search_L1 (k : Nat) (a0 : (List T_api_Search)) (a1 : Nat → T_api_Search → Option Bool) (K0 : Int → Option Int) : Nat → Int → Option Int
  | 0, _ => none
  | m + 1, x4 =>
    (bif (decide (x4 < (a0.length : Int))) then (((idx a0 x4).bind fun v5 => (a1 k v5)).bind fun o7 =>
          (bif o7 then (some x4) else
          (slices_IndexFunc_Search_L1 k a0 a1 K0 m (Go.IntKind.wrap .i64 (x4 + 1))))) else
        (K0 x4))
def slices_IndexFunc_Search : Nat → ((List T_api_Search)) → (Nat → T_api_Search → Option Bool) → Option Int
  | 0, _, _ => none
  | k + 1, a0, a1 =>
    (slices_IndexFunc_Search_L1 k a0 a1 (fun y8 =>
      (some (-1))) k 0)
def slices_ContainsFunc_Search : Nat → ((List T_api_Search)) → (Nat → T_api_Search → Option Bool) → Option Bool
  | 0, _, _ => none
  | k + 1, a0, a1 =>
    (((slices_IndexFunc_Search k a0 a1).bind fun v1 => (some ((decide (v1 ≥ 0))))).bind fun o2 =>
      (some o2))
def dbd_areIndexes_1 : Nat → (T_api_Search) → (T_api_Search) → Option Bool
  | 0, _, _ => none
  | k + 1, a0, a1 =>
    (some (a0.fName == a1.fName))
def dbd_areIndexes_L1 (k : Nat) (a0 : (List T_api_Search)) (a1 : (List T_api_Type))  (K0 : Int → Option Bool) : Nat → Int → Option Bool
  | 0, _ => none
  | m + 1, x11 =>
    (bif (decide (x11 < (a0.length : Int))) then (((idx a0 x11).bind fun v12 => (some (x11, v12))).bind fun o13 =>
          (((dbd_IsName k o13.2.fName).bind fun v14 => (bif (!v14) then (some (true)) else (bif (decide (o13.2.fType < 0)) then (some (true)) else (bif (decide (o13.2.fType ≥ (a1.length : Int))) then (some (true)) else (bif (decide ((o13.2.fSparse.length : Int) > 1)) then (some (true)) else ((cut a0 0 o13.1).bind fun v15 => (slices_ContainsFunc_Search k v15 (fun j x0 => (dbd_areIndexes_1 j x0 o13.2))))))))).bind fun o17 =>
          (bif o17 then (some false) else
          (((idx a1 o13.2.fType).bind fun v18 => (some (v18.fFields))).bind fun o19 =>
            ((bif (decide (o13.2.fField < 0)) then (some (true)) else (bif (decide (o13.2.fField ≥ (o19.length : Int))) then (some (true)) else ((idx o19 o13.2.fField).bind fun v20 => (some ((decide (v20.fBytes > 20))))))).bind fun o21 =>
            (bif o21 then (some false) else
            (dbd_areIndexes_L1 k a0 a1 K0 m (Go.IntKind.wrap .i64 (x11 + 1))))))))) else
        (K0 x11))
def dbd_areIndexes : Nat → ((List T_api_Search)) → ((List T_api_Type)) → Option Bool
  | 0, _, _ => none
  | k + 1, a0, a1 =>
    (dbd_areIndexes_L1 k a0 a1 (fun y22 =>
      (some (decide ((a0.length : Int) ≤ 3)))) k 0)
def dbd_Valid : Nat → (T_api_Base) → Option Bool
  | 0, _ => none
  | k + 1, a0 =>
    (((dbd_IsName k a0.fName).bind fun v1 => (bif v1 then (bif (decide (a0.fKind ≥ 1)) then (bif (decide (a0.fKind ≤ 4)) then ((dbd_areTypes k a0.fTypes).bind fun v2 => (bif v2 then (dbd_areIndexes k a0.fIndexes a0.fTypes) else (some (false)))) else (some (false))) else (some (false))) else (some (false)))).bind fun o4 =>
      (some o4))
def slices_IndexFunc_int_L1 (k : Nat) (a0 : (List Int)) (a1 : Nat → Int → Option Bool) (K0 : Int → Option Int) : Nat → Int → Option Int
  | 0, _ => none
  | m + 1, x4 =>
    (bif (decide (x4 < (a0.length : Int))) then (((idx a0 x4).bind fun v5 => (a1 k v5)).bind fun o7 =>
          (bif o7 then (some x4) else
          (slices_IndexFunc_int_L1 k a0 a1 K0 m (Go.IntKind.wrap .i64 (x4 + 1))))) else
        (K0 x4))
def slices_IndexFunc_int : Nat → ((List Int)) → (Nat → Int → Option Bool) → Option Int
  | 0, _, _ => none
  | k + 1, a0, a1 =>
    (slices_IndexFunc_int_L1 k a0 a1 (fun y8 =>
      (some (-1))) k 0)
def slices_ContainsFunc_int : Nat → ((List Int)) → (Nat → Int → Option Bool) → Option Bool
  | 0, _, _ => none
  | k + 1, a0, a1 =>
    (((slices_IndexFunc_int k a0 a1).bind fun v1 => (some ((decide (v1 ≥ 0))))).bind fun o2 =>
      (some o2))
def dbd_asked_1 : Nat → (Int) → (T_api_Base) → Option Bool
  | 0, _, _ => none
  | k + 1, a0, a1 =>
    ((bif (decide (a0 < 0)) then (some (true)) else (some ((decide (a0 ≥ (a1.fTypes.length : Int)))))).bind fun o1 =>
      (some o1))
def dbd_asked : Nat → (T_api_Base) → ((List Int)) → Option Int
  | 0, _, _ => none
  | k + 1, a0, a1 =>
    (((dbd_Valid k a0).bind fun v1 => (some ((!v1)))).bind fun o2 =>
      (bif o2 then (some 100) else
      ((slices_ContainsFunc_int k a1 (fun j x0 => (dbd_asked_1 j x0 a0))).bind fun o4 =>
        (bif o4 then (some 2) else
        (some 0)))))
def slices_Reverse_int : Nat → List Int → Option (List Int)
  | 0, _ => none
  | _ + 1, l => revInt l
def dbd_way_L1 (a0 : T_api_Base)  (K0 : Int → (List Int) → Option (List Int)) : Nat → Int → (List Int) → Option (List Int)
  | 0, _, _ => none
  | m + 1, x5, x6 =>
    (bif (decide (x5 ≥ 0)) then ((app x6 ([x5] : List Int)).bind fun o8 =>
          (((idx a0.fTypes x5).bind fun v9 => (some (v9.fParent))).bind fun o10 =>
          (dbd_way_L1 a0 K0 m o10 o8))) else
        (K0 x5 x6))
def dbd_way : Nat → (T_api_Base) → (Int) → Option (List Int)
  | 0, _, _ => none
  | k + 1, a0, a1 =>
    (dbd_way_L1 a0 (fun y11 y12 =>
      (((slices_Reverse_int k y12).bind (sameLen y12)).bind fun o14 =>
        (some o14))) k a1 ([] : List Int))
def dbd_Way : Nat → (T_api_Base) → (Int) → Option ((List Int) × Int)
  | 0, _, _ => none
  | k + 1, a0, a1 =>
    ((dbd_asked k a0 ([a1] : List Int)).bind fun o2 =>
      (bif (o2 != 0) then (some (([] : List Int), o2)) else
      (((dbd_way k a0 a1).bind fun v3 => (some (v3, 0))).bind fun o4 =>
        (some (o4.1, o4.2)))))
def dbd_Children_L1 (a0 : T_api_Base) (a1 : Int)  (K0 : (List Int) → Int → Option ((List Int) × Int)) : Nat → (List Int) → Int → Option ((List Int) × Int)
  | 0, _, _ => none
  | m + 1, x7, x8 =>
    (bif (decide (x8 < (a0.fTypes.length : Int))) then (((idx a0.fTypes x8).bind fun v9 => (some (x8, v9))).bind fun o10 =>
          (bif (o10.2.fParent == a1) then ((app x7 ([o10.1] : List Int)).bind fun o12 =>
            (dbd_Children_L1 a0 a1 K0 m o12 (Go.IntKind.wrap .i64 (x8 + 1)))) else
          (dbd_Children_L1 a0 a1 K0 m x7 (Go.IntKind.wrap .i64 (x8 + 1))))) else
        (K0 x7 x8))
def dbd_Children : Nat → (T_api_Base) → (Int) → Option ((List Int) × Int)
  | 0, _, _ => none
  | k + 1, a0, a1 =>
    ((dbd_asked k a0 ([a1] : List Int)).bind fun o2 =>
      (bif (o2 != 0) then (some (([] : List Int), o2)) else
      (dbd_Children_L1 a0 a1 (fun y13 y14 =>
        (some (y13, 0))) k ([] : List Int) 0)))
def ref01_SameInts_L1 (a0 : (List Int)) (a1 : (List Int))  (K0 : Int → Option Bool) : Nat → Int → Option Bool
  | 0, _ => none
  | m + 1, x4 =>
    (bif (decide (x4 < (a0.length : Int))) then (((idx a0 x4).bind fun v5 => ((idx a1 x4).bind fun v6 => (some ((v5 != v6))))).bind fun o7 =>
          (bif o7 then (some false) else
          (ref01_SameInts_L1 a0 a1 K0 m (Go.IntKind.wrap .i64 (x4 + 1))))) else
        (K0 x4))
def ref01_SameInts : Nat → ((List Int)) → ((List Int)) → Option Bool
  | 0, _, _ => none
  | k + 1, a0, a1 =>
    (bif ((a0.length : Int) != (a1.length : Int)) then (some false) else
      (ref01_SameInts_L1 a0 a1 (fun y8 =>
        (some true)) k 0))
def law11_First : Nat → Option Bool
  | 0 => none
  | k + 1 =>
    (((law11_shop k).bind fun v1 => ((dbd_Way k v1 2).bind fun v2 => (some (v2.1, v2.2)))).bind fun o3 =>
      (((law11_shop k).bind fun v4 => ((dbd_Children k v4 0).bind fun v5 => (some (v5.1, v5.2)))).bind fun o6 =>
      ((bif (o3.2 == 0) then (bif (o6.2 == 0) then ((ref01_SameInts k o3.1 ([0, 1, 2] : List Int)).bind fun v7 => (bif v7 then (ref01_SameInts k o6.1 ([1, 3] : List Int)) else (some (false)))) else (some (false))) else (some (false))).bind fun o9 =>
      (some o9))))
def slices_Clone_Field_c : Nat → (T_api_Field) → ((List T_api_Field)) → Option (List T_api_Field)
  | 0, _, _ => none
  | k + 1, y, l =>
    ((app ([] : List T_api_Field) (y :: l)).bind fun o2 =>
      (some o2))
def slices_Clone_Field : Nat → List T_api_Field → Option (List T_api_Field)
  | 0, _ => none
  | _ + 1, [] => some []
  | k + 1, y :: l => slices_Clone_Field_c (k + 1) y l
def dbd_copied : Nat → (T_api_Type) → (Int) → Option T_api_Type
  | 0, _, _ => none
  | k + 1, a0, a1 =>
    (((slices_Clone_Field k a0.fFields).bind fun v1 => (some ({ a0 with fFields := v1 }))).bind fun o2 =>
      (some { o2 with fParent := a1 }))
def dbd_Part_L1 (k : Nat) (a0 : T_api_Base) (a1 : (List Int))  (K0 : Int → (List T_api_Type) → Option (T_api_Base × Int)) : Nat → Int → (List T_api_Type) → Option (T_api_Base × Int)
  | 0, _, _ => none
  | m + 1, x16, x17 =>
    (bif (decide (x16 < (a1.length : Int))) then (((idx a1 x16).bind fun v18 => (some (x16, v18))).bind fun o19 =>
          (((cut a1 0 o19.1).bind fun v20 => ((idx a0.fTypes o19.2).bind fun v21 => (slices_Index_int k v20 v21.fParent))).bind fun o23 =>
          ((bif (o19.1 == 0) then (bif (o19.2 != 0) then (some (true)) else (bif (decide (o19.1 > 0)) then ((idx a1 (Go.IntKind.wrap .i64 (o19.1 - 1))).bind fun v24 => (bif (decide (o19.2 ≤ v24)) then (some (true)) else (some ((decide (o23 < 0)))))) else (some (false)))) else (bif (decide (o19.1 > 0)) then ((idx a1 (Go.IntKind.wrap .i64 (o19.1 - 1))).bind fun v25 => (bif (decide (o19.2 ≤ v25)) then (some (true)) else (some ((decide (o23 < 0)))))) else (some (false)))).bind fun o26 =>
          (bif o26 then (some (({ fName := [], fKind := 0, fTypes := ([] : List T_api_Type), fIndexes := ([] : List T_api_Search) } : T_api_Base), 2)) else
          (((idx a0.fTypes o19.2).bind fun v27 => ((dbd_copied k v27 o23).bind fun v28 => (app x17 ([v28] : List T_api_Type)))).bind fun o30 =>
            (dbd_Part_L1 k a0 a1 K0 m (Go.IntKind.wrap .i64 (x16 + 1)) o30)))))) else
        (K0 x16 x17))
def dbd_Part_L2 (k : Nat) (a0 : T_api_Base) (a1 : (List Int))  (K0 : Int → (List T_api_Search) → Option (T_api_Base × Int)) : Nat → Int → (List T_api_Search) → Option (T_api_Base × Int)
  | 0, _, _ => none
  | m + 1, x39, x40 =>
    (bif (decide (x39 < (a0.fIndexes.length : Int))) then ((idx a0.fIndexes x39).bind fun o42 =>
          ((slices_Index_int k a1 o42.fType).bind fun o44 =>
          (bif (decide (o44 ≥ 0)) then ((app x40 ([{ o42 with fType := o44 }] : List T_api_Search)).bind fun o46 =>
            (dbd_Part_L2 k a0 a1 K0 m (Go.IntKind.wrap .i64 (x39 + 1)) o46)) else
          (dbd_Part_L2 k a0 a1 K0 m (Go.IntKind.wrap .i64 (x39 + 1)) x40)))) else
        (K0 x39 x40))
def dbd_Part : Nat → (T_api_Base) → ((List Int)) → Option (T_api_Base × Int)
  | 0, _, _ => none
  | k + 1, a0, a1 =>
    ((dbd_asked k a0 a1).bind fun o2 =>
      (bif (o2 != 0) then (some (({ fName := [], fKind := 0, fTypes := ([] : List T_api_Type), fIndexes := ([] : List T_api_Search) } : T_api_Base), o2)) else
      (dbd_Part_L1 k a0 a1 (fun y31 y32 =>
        (bif ((a1.length : Int) == 0) then (some (({ fName := [], fKind := 0, fTypes := ([] : List T_api_Type), fIndexes := ([] : List T_api_Search) } : T_api_Base), 2)) else
          (dbd_Part_L2 k a0 a1 (fun y47 y48 =>
            (some (({ fName := a0.fName, fKind := a0.fKind, fTypes := y32, fIndexes := y48 } : T_api_Base), 0))) k 0 ([] : List T_api_Search)))) k 0 ([] : List T_api_Type))))
def ref11_IsName_L1 (a0 : Str)  (K0 : Int → Option Bool) : Nat → Int → Option Bool
  | 0, _ => none
  | m + 1, x7 =>
    (bif (decide (x7 < (a0.length : Int))) then (((idxS a0 x7).bind fun v8 => (bif (decide (v8 ≥ 65)) then ((idxS a0 x7).bind fun v9 => (some ((decide (v9 ≤ 90))))) else (some (false)))).bind fun o10 =>
          ((bif (!o10) then (bif (x7 == 0) then (some (true)) else ((idxS a0 x7).bind fun v11 => (bif (decide (v11 < 48)) then (some (true)) else ((idxS a0 x7).bind fun v12 => (some ((decide (v12 > 57)))))))) else (some (false))).bind fun o13 =>
          (bif o13 then (some false) else
          (ref11_IsName_L1 a0 K0 m (Go.IntKind.wrap .i64 (x7 + 1)))))) else
        (K0 x7))
def ref11_IsName : Nat → (Str) → Option Bool
  | 0, _ => none
  | k + 1, a0 =>
    (ref11_IsName_L1 a0 (fun y14 =>
      ((bif (decide ((a0.length : Int) ≥ 1)) then (some ((decide ((a0.length : Int) ≤ 8)))) else (some (false))).bind fun o15 =>
        (some o15))) k 0)
def ref11_fields_L2 (a0 : T_api_Type) (x11 : Int) (o13 : T_api_Field)  (K0 : Int → Option Bool) : Nat → Int → Option Bool
  | 0, _ => none
  | m + 1, x18 =>
    (bif (decide (x18 < x11)) then (((idx a0.fFields x18).bind fun v19 => (some ((v19.fName == o13.fName)))).bind fun o20 =>
          (bif o20 then (some false) else
          (ref11_fields_L2 a0 x11 o13 K0 m (Go.IntKind.wrap .i64 (x18 + 1))))) else
        (K0 x18))
def ref11_fields_L1 (k : Nat) (a0 : T_api_Type)  (K0 : Int → Option Bool) : Nat → Int → Option Bool
  | 0, _ => none
  | m + 1, x11 =>
    (bif (decide (x11 < (a0.fFields.length : Int))) then ((idx a0.fFields x11).bind fun o13 =>
          (((ref11_IsName k o13.fName).bind fun v14 => (bif (!v14) then (some (true)) else (bif (decide (o13.fAt < 0)) then (some (true)) else (bif (decide (o13.fAt > a0.fSize)) then (some (true)) else (bif (decide (o13.fBytes < 1)) then (some (true)) else (some ((decide (o13.fBytes > (Go.IntKind.wrap .i64 (a0.fSize - o13.fAt))))))))))).bind fun o15 =>
          (bif o15 then (some false) else
          (ref11_fields_L2 a0 x11 o13 (fun y21 =>
            (ref11_fields_L1 k a0 K0 m (Go.IntKind.wrap .i64 (x11 + 1)))) k 0)))) else
        (K0 x11))
def ref11_fields : Nat → (T_api_Type) → Option Bool
  | 0, _ => none
  | k + 1, a0 =>
    (ref11_fields_L1 k a0 (fun y22 =>
      ((bif (decide (a0.fKey < (-1))) then (some (true)) else (bif (decide (a0.fKey ≥ (a0.fFields.length : Int))) then (some (true)) else (bif (decide (a0.fKey < 0)) then (some (a0.fUnique)) else (some (false))))).bind fun o23 =>
        (bif o23 then (some false) else
        ((bif (decide ((a0.fFields.length : Int) ≤ 5)) then (bif (decide (a0.fKey < 0)) then (some (true)) else ((idx a0.fFields a0.fKey).bind fun v24 => ((idx a0.fFields a0.fKey).bind fun v25 => (some ((decide ((Go.IntKind.wrap .i64 (v24.fAt + v25.fBytes)) ≤ a0.fMin))))))) else (some (false))).bind fun o26 =>
          (some o26))))) k 0)
def ref11_above_L1 (a0 : T_api_Base) (a1 : Int)  (K0 : Int → Option Bool) : Nat → Int → Option Bool
  | 0, _ => none
  | m + 1, x5 =>
    (bif (decide (x5 ≥ 0)) then (bif (x5 == a1) then (some true) else
          (((idx a0.fTypes x5).bind fun v6 => (some (v6.fParent))).bind fun o7 =>
            (ref11_above_L1 a0 a1 K0 m o7))) else
        (K0 x5))
def ref11_above : Nat → (T_api_Base) → (Int) → (Int) → Option Bool
  | 0, _, _, _ => none
  | k + 1, a0, a1, a2 =>
    (((idx a0.fTypes a2).bind fun v1 => (some (v1.fParent))).bind fun o2 =>
      (ref11_above_L1 a0 a1 (fun y8 =>
      (some false)) k o2))
def ref11_way_L1 (a0 : T_api_Base)  (K0 : Int → (List Int) → Option (List Int)) : Nat → Int → (List Int) → Option (List Int)
  | 0, _, _ => none
  | m + 1, x5, x6 =>
    (bif (decide (x5 ≥ 0)) then ((app ([x5] : List Int) x6).bind fun o8 =>
          (((idx a0.fTypes x5).bind fun v9 => (some (v9.fParent))).bind fun o10 =>
          (ref11_way_L1 a0 K0 m o10 o8))) else
        (K0 x5 x6))
def ref11_way : Nat → (T_api_Base) → (Int) → Option (List Int)
  | 0, _, _ => none
  | k + 1, a0, a1 =>
    (ref11_way_L1 a0 (fun y11 y12 =>
      (some y12)) k a1 ([] : List Int))
def ref11_Valid_L2 (a0 : T_api_Base) (x20 : Int) (o22 : T_api_Type)  (K0 : Int → Option Bool) : Nat → Int → Option Bool
  | 0, _ => none
  | m + 1, x28 =>
    (bif (decide (x28 < x20)) then (((idx a0.fTypes x28).bind fun v29 => (some ((v29.fName == o22.fName)))).bind fun o30 =>
          (bif o30 then (some false) else
          (ref11_Valid_L2 a0 x20 o22 K0 m (Go.IntKind.wrap .i64 (x28 + 1))))) else
        (K0 x28))
def ref11_Valid_L1 (k : Nat) (a0 : T_api_Base)  (K0 : Int → Option Bool) : Nat → Int → Option Bool
  | 0, _ => none
  | m + 1, x20 =>
    (bif (decide (x20 < (a0.fTypes.length : Int))) then ((idx a0.fTypes x20).bind fun o22 =>
          (((ref11_IsName k o22.fName).bind fun v23 => (bif (!v23) then (some (true)) else (bif (decide (o22.fMin < 1)) then (some (true)) else (bif (decide (o22.fMin > o22.fSize)) then (some (true)) else (bif (decide (o22.fSize > 40)) then (some (true)) else ((ref11_fields k o22).bind fun v24 => (some ((!v24))))))))).bind fun o25 =>
          (bif o25 then (some false) else
          (ref11_Valid_L2 a0 x20 o22 (fun y31 =>
            (bif (x20 == 0) then ((bif (o22.fParent != (-1)) then (some (true)) else (bif (decide (o22.fKey < 0)) then (some (true)) else (bif (!o22.fUnique) then (some (true)) else ((idx o22.fFields o22.fKey).bind fun v32 => (some ((decide (v32.fBytes > 24)))))))).bind fun o33 =>
                (bif o33 then (some false) else
                (ref11_Valid_L1 k a0 K0 m (Go.IntKind.wrap .i64 (x20 + 1))))) else
              ((bif (decide (o22.fParent < 0)) then (some (true)) else (bif (decide (o22.fParent ≥ x20)) then (some (true)) else (bif (o22.fParent != (Go.IntKind.wrap .i64 (x20 - 1))) then ((ref11_above k a0 o22.fParent (Go.IntKind.wrap .i64 (x20 - 1))).bind fun v34 => (bif (!v34) then (some (true)) else ((ref11_way k a0 x20).bind fun v35 => (some ((decide ((v35.length : Int) > 5))))))) else ((ref11_way k a0 x20).bind fun v36 => (some ((decide ((v36.length : Int) > 5)))))))).bind fun o37 =>
                (bif o37 then (some false) else
                (ref11_Valid_L1 k a0 K0 m (Go.IntKind.wrap .i64 (x20 + 1))))))) k 0)))) else
        (K0 x20))
def ref11_Valid_L4 (a0 : T_api_Base) (x52 : Int) (o54 : T_api_Search)  (K0 : Int → Option Bool) : Nat → Int → Option Bool
  | 0, _ => none
  | m + 1, x62 =>
    (bif (decide (x62 < x52)) then (((idx a0.fIndexes x62).bind fun v63 => (some ((v63.fName == o54.fName)))).bind fun o64 =>
          (bif o64 then (some false) else
          (ref11_Valid_L4 a0 x52 o54 K0 m (Go.IntKind.wrap .i64 (x62 + 1))))) else
        (K0 x62))
def ref11_Valid_L3 (k : Nat) (a0 : T_api_Base)  (K0 : Int → Option Bool) : Nat → Int → Option Bool
  | 0, _ => none
  | m + 1, x52 =>
    (bif (decide (x52 < (a0.fIndexes.length : Int))) then ((idx a0.fIndexes x52).bind fun o54 =>
          (((ref11_IsName k o54.fName).bind fun v55 => (bif (!v55) then (some (true)) else (bif (decide (o54.fType < 0)) then (some (true)) else (bif (decide (o54.fType ≥ (a0.fTypes.length : Int))) then (some (true)) else (bif (decide (o54.fField < 0)) then (some (true)) else ((idx a0.fTypes o54.fType).bind fun v56 => (bif (decide (o54.fField ≥ (v56.fFields.length : Int))) then (some (true)) else ((idx a0.fTypes o54.fType).bind fun v57 => ((idx v57.fFields o54.fField).bind fun v58 => (bif (decide (v58.fBytes > 20)) then (some (true)) else (some ((decide ((o54.fSparse.length : Int) > 1)))))))))))))).bind fun o59 =>
          (bif o59 then (some false) else
          (ref11_Valid_L4 a0 x52 o54 (fun y65 =>
            (ref11_Valid_L3 k a0 K0 m (Go.IntKind.wrap .i64 (x52 + 1)))) k 0)))) else
        (K0 x52))
def ref11_Valid : Nat → (T_api_Base) → Option Bool
  | 0, _ => none
  | k + 1, a0 =>
    (((ref11_IsName k a0.fName).bind fun v1 => (bif (!v1) then (some (true)) else (bif (decide (a0.fKind < 1)) then (some (true)) else (bif (decide (a0.fKind > 4)) then (some (true)) else (bif (decide ((a0.fTypes.length : Int) < 1)) then (some (true)) else (bif (decide ((a0.fTypes.length : Int) > 8)) then (some (true)) else (some ((decide ((a0.fIndexes.length : Int) > 3)))))))))).bind fun o2 =>
      (bif o2 then (some false) else
      (ref11_Valid_L1 k a0 (fun y38 =>
        (ref11_Valid_L3 k a0 (fun y66 =>
          (some true)) k 0)) k 0)))
def ref11_isType : Nat → (T_api_Base) → (Int) → Option Bool
  | 0, _, _ => none
  | k + 1, a0, a1 =>
    ((bif (decide (a1 ≥ 0)) then (some ((decide (a1 < (a0.fTypes.length : Int))))) else (some (false))).bind fun o1 =>
      (some o1))
def ref11_place_L1 (a0 : (List Int)) (a1 : Int)  (K0 : Int → Option Int) : Nat → Int → Option Int
  | 0, _ => none
  | m + 1, x3 =>
    (bif (decide (x3 < (a0.length : Int))) then (((idx a0 x3).bind fun v4 => (some ((v4 == a1)))).bind fun o5 =>
          (bif o5 then (some x3) else
          (ref11_place_L1 a0 a1 K0 m (Go.IntKind.wrap .i64 (x3 + 1))))) else
        (K0 x3))
def ref11_place : Nat → ((List Int)) → (Int) → Option Int
  | 0, _, _ => none
  | k + 1, a0, a1 =>
    (ref11_place_L1 a0 a1 (fun y6 =>
      (some (-1))) k 0)
def ref11_IsPart_L1 (k : Nat) (a0 : T_api_Base) (a1 : (List Int))  (K0 : Int → Option Bool) : Nat → Int → Option Bool
  | 0, _ => none
  | m + 1, x12 =>
    (bif (decide (x12 < (a1.length : Int))) then (((idx a1 x12).bind fun v13 => ((ref11_isType k a0 v13).bind fun v14 => (bif (!v14) then (some (true)) else (bif (decide (x12 > 0)) then ((idx a1 x12).bind fun v15 => ((idx a1 (Go.IntKind.wrap .i64 (x12 - 1))).bind fun v16 => (some ((decide (v15 ≤ v16)))))) else (some (false)))))).bind fun o17 =>
          (bif o17 then (some false) else
          (((idx a1 x12).bind fun v18 => ((idx a0.fTypes v18).bind fun v19 => (some (v19.fParent)))).bind fun o20 =>
            ((bif (decide (o20 ≥ 0)) then ((cut a1 0 x12).bind fun v21 => ((ref11_place k v21 o20).bind fun v22 => (some ((decide (v22 < 0)))))) else (some (false))).bind fun o23 =>
            (bif o23 then (some false) else
            (ref11_IsPart_L1 k a0 a1 K0 m (Go.IntKind.wrap .i64 (x12 + 1)))))))) else
        (K0 x12))
def ref11_IsPart : Nat → (T_api_Base) → ((List Int)) → Option Bool
  | 0, _, _ => none
  | k + 1, a0, a1 =>
    (ref11_IsPart_L1 k a0 a1 (fun y24 =>
      (some (decide ((a1.length : Int) > 0)))) k 0)
def ref11_Part_L1 (k : Nat) (a0 : T_api_Base) (a1 : (List Int))  (K0 : Int → (List T_api_Type) → Option (T_api_Base × Int)) : Nat → Int → (List T_api_Type) → Option (T_api_Base × Int)
  | 0, _, _ => none
  | m + 1, x14, x15 =>
    (bif (decide (x14 < (a1.length : Int))) then (((idx a1 x14).bind fun v16 => (idx a0.fTypes v16)).bind fun o18 =>
          (((app ([] : List T_api_Field) o18.fFields).bind fun v19 => (some ({ o18 with fFields := v19 }))).bind fun o20 =>
          (((ref11_place k a1 o20.fParent).bind fun v21 => (some ({ o20 with fParent := v21 }))).bind fun o22 =>
          ((app x15 ([o22] : List T_api_Type)).bind fun o24 =>
          (ref11_Part_L1 k a0 a1 K0 m (Go.IntKind.wrap .i64 (x14 + 1)) o24))))) else
        (K0 x14 x15))
def ref11_Part_L2 (k : Nat) (a0 : T_api_Base) (a1 : (List Int))  (K0 : Int → (List T_api_Search) → Option (T_api_Base × Int)) : Nat → Int → (List T_api_Search) → Option (T_api_Base × Int)
  | 0, _, _ => none
  | m + 1, x33, x34 =>
    (bif (decide (x33 < (a0.fIndexes.length : Int))) then ((idx a0.fIndexes x33).bind fun o36 =>
          ((ref11_place k a1 o36.fType).bind fun o38 =>
          (bif (decide (o38 ≥ 0)) then ((app x34 ([{ o36 with fType := o38 }] : List T_api_Search)).bind fun o40 =>
            (ref11_Part_L2 k a0 a1 K0 m (Go.IntKind.wrap .i64 (x33 + 1)) o40)) else
          (ref11_Part_L2 k a0 a1 K0 m (Go.IntKind.wrap .i64 (x33 + 1)) x34)))) else
        (K0 x33 x34))
def ref11_Part : Nat → (T_api_Base) → ((List Int)) → Option (T_api_Base × Int)
  | 0, _, _ => none
  | k + 1, a0, a1 =>
    (((ref11_Valid k a0).bind fun v1 => (some ((!v1)))).bind fun o2 =>
      (bif o2 then (some (({ fName := [], fKind := 0, fTypes := ([] : List T_api_Type), fIndexes := ([] : List T_api_Search) } : T_api_Base), 100)) else
      (((ref11_IsPart k a0 a1).bind fun v3 => (some ((!v3)))).bind fun o4 =>
        (bif o4 then (some (({ fName := [], fKind := 0, fTypes := ([] : List T_api_Type), fIndexes := ([] : List T_api_Search) } : T_api_Base), 2)) else
        (ref11_Part_L1 k a0 a1 (fun y25 y26 =>
          (ref11_Part_L2 k a0 a1 (fun y41 y42 =>
            (some (({ fName := a0.fName, fKind := a0.fKind, fTypes := y26, fIndexes := y42 } : T_api_Base), 0))) k 0 ([] : List T_api_Search))) k 0 ([] : List T_api_Type))))))
def ref11_Same_L2 (o17 : T_api_Type × T_api_Type)  (K0 : Int → Option Bool) : Nat → Int → Option Bool
  | 0, _ => none
  | m + 1, x22 =>
    (bif (decide (x22 < (o17.1.fFields.length : Int))) then (((idx o17.1.fFields x22).bind fun v23 => ((idx o17.2.fFields x22).bind fun v24 => (some ((!(v23.fName == v24.fName && (v23.fAt == v24.fAt && (v23.fBytes == v24.fBytes && true)))))))).bind fun o25 =>
          (bif o25 then (some false) else
          (ref11_Same_L2 o17 K0 m (Go.IntKind.wrap .i64 (x22 + 1))))) else
        (K0 x22))
def ref11_Same_L1 (k : Nat) (a0 : T_api_Base) (a1 : T_api_Base)  (K0 : Int → Option Bool) : Nat → Int → Option Bool
  | 0, _ => none
  | m + 1, x14 =>
    (bif (decide (x14 < (a0.fTypes.length : Int))) then (((idx a0.fTypes x14).bind fun v15 => ((idx a1.fTypes x14).bind fun v16 => (some (v15, v16)))).bind fun o17 =>
          ((bif (!(o17.1.fName == o17.2.fName)) then (some (true)) else (bif (o17.1.fParent != o17.2.fParent) then (some (true)) else (bif (o17.1.fMin != o17.2.fMin) then (some (true)) else (bif (o17.1.fSize != o17.2.fSize) then (some (true)) else (bif (o17.1.fKey != o17.2.fKey) then (some (true)) else (bif (!(o17.1.fUnique == o17.2.fUnique)) then (some (true)) else (bif (!(o17.1.fLast == o17.2.fLast)) then (some (true)) else (some (((o17.1.fFields.length : Int) != (o17.2.fFields.length : Int))))))))))).bind fun o18 =>
          (bif o18 then (some false) else
          (ref11_Same_L2 o17 (fun y26 =>
            (ref11_Same_L1 k a0 a1 K0 m (Go.IntKind.wrap .i64 (x14 + 1)))) k 0)))) else
        (K0 x14))
def ref11_Same_L3 (a0 : T_api_Base) (a1 : T_api_Base)  (K0 : Int → Option Bool) : Nat → Int → Option Bool
  | 0, _ => none
  | m + 1, x31 =>
    (bif (decide (x31 < (a0.fIndexes.length : Int))) then (((idx a0.fIndexes x31).bind fun v32 => ((idx a1.fIndexes x31).bind fun v33 => (some ((!(v32.fName == v33.fName && (v32.fType == v33.fType && (v32.fField == v33.fField && (v32.fSparse == v33.fSparse && true))))))))).bind fun o34 =>
          (bif o34 then (some false) else
          (ref11_Same_L3 a0 a1 K0 m (Go.IntKind.wrap .i64 (x31 + 1))))) else
        (K0 x31))
def ref11_Same : Nat → (T_api_Base) → (T_api_Base) → Option Bool
  | 0, _, _ => none
  | k + 1, a0, a1 =>
    ((bif (!(a0.fName == a1.fName)) then (some (true)) else (bif (a0.fKind != a1.fKind) then (some (true)) else (bif ((a0.fTypes.length : Int) != (a1.fTypes.length : Int)) then (some (true)) else (some (((a0.fIndexes.length : Int) != (a1.fIndexes.length : Int))))))).bind fun o1 =>
      (bif o1 then (some false) else
      (ref11_Same_L1 k a0 a1 (fun y27 =>
        (ref11_Same_L3 a0 a1 (fun y35 =>
          (some true)) k 0)) k 0)))
def law11_DbdParts_L1 (a0 : T_api_Base)  (K0 : (List Int) → Int → Option Bool) : Nat → (List Int) → Int → Option Bool
  | 0, _, _ => none
  | m + 1, x18, x19 =>
    (bif (decide (x19 < (a0.fTypes.length : Int))) then ((app x18 ([x19] : List Int)).bind fun o21 =>
          (law11_DbdParts_L1 a0 K0 m o21 (Go.IntKind.wrap .i64 (x19 + 1)))) else
        (K0 x18 x19))
def law11_DbdParts : Nat → (T_api_Base) → ((List Int)) → Option Bool
  | 0, _, _ => none
  | k + 1, a0, a1 =>
    (((law11_Small k a0).bind fun v1 => (bif (!v1) then (some (true)) else (some ((decide ((a1.length : Int) > 20)))))).bind fun o2 =>
      (bif o2 then ((law11_First k).bind fun o4 =>
        (some o4)) else
      (((dbd_Part k a0 a1).bind fun v5 => (some (v5.2, v5.1))).bind fun o6 =>
        (((ref11_Part k a0 a1).bind fun v7 => (some (v7.2, v7.1))).bind fun o8 =>
        (((ref11_Same k o6.2 o8.2).bind fun v9 => (bif (!v9) then (some (true)) else (bif (o6.1 != o8.1) then (some (true)) else (bif (o6.1 == 0) then ((dbd_Valid k o6.2).bind fun v10 => (some ((!v10)))) else (some (false)))))).bind fun o11 =>
        (bif o11 then (some false) else
        (((ref11_Valid k a0).bind fun v12 => (some ((!v12)))).bind fun o13 =>
          (bif o13 then ((law11_First k).bind fun o15 =>
            (some o15)) else
          (law11_DbdParts_L1 a0 (fun y22 y23 =>
            (((dbd_Part k a0 y22).bind fun v24 => (some (v24.2, v24.1))).bind fun o25 =>
              ((bif (o25.1 == 0) then ((ref11_Same k o25.2 a0).bind fun v26 => (bif v26 then (law11_First k) else (some (false)))) else (some (false))).bind fun o28 =>
              (some o28)))) k ([] : List Int) 0)))))))))
def law11_DbdTwice_L1 (a1 : (List Int)) (a2 : (List Int))  (K0 : (List Int) → Int → Option Bool) : Nat → (List Int) → Int → Option Bool
  | 0, _, _ => none
  | m + 1, x19, x20 =>
    (bif (decide (x20 < (a2.length : Int))) then (((idx a2 x20).bind fun v21 => ((idx a1 v21).bind fun v22 => (app x19 ([v22] : List Int)))).bind fun o24 =>
          (law11_DbdTwice_L1 a1 a2 K0 m o24 (Go.IntKind.wrap .i64 (x20 + 1)))) else
        (K0 x19 x20))
def law11_DbdTwice : Nat → (T_api_Base) → ((List Int)) → ((List Int)) → Option Bool
  | 0, _, _, _ => none
  | k + 1, a0, a1, a2 =>
    (((law11_Small k a0).bind fun v1 => (bif (!v1) then (some (true)) else ((ref11_Valid k a0).bind fun v2 => (bif (!v2) then (some (true)) else (bif (decide ((a1.length : Int) > 20)) then (some (true)) else (bif (decide ((a2.length : Int) > 20)) then (some (true)) else ((ref11_IsPart k a0 a1).bind fun v3 => (some ((!v3)))))))))).bind fun o4 =>
      (bif o4 then ((law11_First k).bind fun o6 =>
        (some o6)) else
      (((dbd_Part k a0 a1).bind fun v7 => (some (v7.2, v7.1))).bind fun o8 =>
        (bif (o8.1 != 0) then (some false) else
        (((dbd_Part k o8.2 a2).bind fun v9 => (some (v9.2, v9.1))).bind fun o10 =>
          (((ref11_IsPart k o8.2 a2).bind fun v11 => (some ((!v11)))).bind fun o12 =>
          (bif o12 then ((bif (o10.1 == 2) then (law11_First k) else (some (false))).bind fun o14 =>
            (some o14)) else
          (law11_DbdTwice_L1 a1 a2 (fun y25 y26 =>
            (((dbd_Part k a0 y25).bind fun v27 => (some (v27.2, v27.1))).bind fun o28 =>
              ((bif (o10.1 == 0) then (bif (o28.1 == 0) then ((ref11_Same k o10.2 o28.2).bind fun v29 => (bif v29 then (law11_First k) else (some (false)))) else (some (false))) else (some (false))).bind fun o31 =>
              (some o31)))) k ([] : List Int) 0))))))))
end Go.Sh
namespace Go.Sh
open Go.AE
set_option linter.unusedVariables false

theorem maxLen_eq : maxLen = 9223372036854775807 := rfl

theorem wrap_in {x : Int} (h : -9223372036854775808 ≤ x) (h' : x ≤ 9223372036854775807) : Go.IntKind.wrap .i64 x = x := IntWalk.i64_in x ⟨h, h'⟩

theorem wrap_next {i n : Nat} (h : i < n) (hn : n ≤ maxLen) : Go.IntKind.wrap .i64 ((i : Int) + 1) = ((i + 1 : Nat) : Int) := by
  rw [wrap_in] <;> (try rw [maxLen_eq] at hn) <;> omega

theorem wfI_in {n : Int} (h : wfI .i64 n) : -9223372036854775808 ≤ n ∧ n ≤ 9223372036854775807 := by
  unfold wfI Lit.wf at h
  simp only [Bool.and_eq_true, decide_eq_true_eq] at h
  have e1 : IntKind.i64.min = -9223372036854775808 := by decide
  have e2 : IntKind.i64.max = 9223372036854775807 := by decide
  rw [e1, e2] at h
  exact h

theorem idx_at {α : Type} {l : List α} {i : Nat} (h : i < l.length) : idx l (i : Int) = some l[i] := by
  unfold idx
  rw [if_pos (by omega), Int.toNat_natCast, List.getElem?_eq_getElem h]

theorem idx_of {α : Type} {l : List α} {x : Int} (h0 : 0 ≤ x) (h : x < (l.length : Int)) : idx l x = some (l[x.toNat]'(by omega)) := by
  unfold idx
  rw [if_pos h0, List.getElem?_eq_getElem (by omega)]

theorem idxS_at {l : List UInt8} {i : Nat} (h : i < l.length) : idxS l (i : Int) = some (l[i].toNat : Int) := by
  unfold idxS
  rw [if_pos (by omega), Int.toNat_natCast, List.getElem?_eq_getElem h]
  rfl

theorem cut_take {α : Type} {l : List α} {i : Nat} (h : i ≤ l.length) : cut l 0 (i : Int) = some (l.take i) := by
  unfold cut
  rw [if_pos ⟨by omega, by omega, by omega⟩]
  simp

theorem app_ok {α : Type} {l m : List α} (h : l.length + m.length ≤ maxList) : app l m = some (l ++ m) := by
  unfold app; rw [if_pos h]

/-! A loop that goes through the places of a list. -/

def scan {β : Type} (g : Nat → Bool) (r : Nat → β) (z : β) : Nat → Nat → β
  | 0, _ => z
  | d + 1, i => bif g i then r i else scan g r z d (i + 1)

theorem loop_scan {S β : Type} {n : Nat} {L : Nat → Int → S → β} {σ : Nat → S} {g : Nat → Bool} {r : Nat → β} {z : β}
    (hs : ∀ m i, i < n → (∀ j, j < i → g j = false) → L (m + 1) (i : Int) (σ i) = bif g i then r i else L m ((i + 1 : Nat) : Int) (σ (i + 1)))
    (he : ∀ m, (∀ j, j < n → g j = false) → L (m + 1) (n : Int) (σ n) = z) : ∀ d i m, i + d = n → (∀ j, j < i → g j = false) → d < m → L m (i : Int) (σ i) = scan g r z d i
  | 0, i, m, hd, hb, hm => by
    obtain ⟨m, rfl⟩ : ∃ q, m = q + 1 := ⟨m - 1, by omega⟩
    have : i = n := by omega
    subst this
    exact he m hb
  | d + 1, i, m, hd, hb, hm => by
    obtain ⟨m, rfl⟩ : ∃ q, m = q + 1 := ⟨m - 1, by omega⟩
    rw [hs m i (by omega) hb, scan]
    cases hg : g i with
    | true => rfl
    | false =>
      simp only [cond_false]
      refine loop_scan hs he d (i + 1) m (by omega) (fun j hj => ?_) (by omega)
      by_cases e : j = i
      · subst e; exact hg
      · exact hb j (by omega)

theorem loop0 {β : Type} {n : Nat} {L : Nat → Int → β} {g : Nat → Bool} {r : Nat → β} {z : β}
    (hs : ∀ m i, i < n → (∀ j, j < i → g j = false) → L (m + 1) (i : Int) = bif g i then r i else L m ((i + 1 : Nat) : Int))
    (he : ∀ m, (∀ j, j < n → g j = false) → L (m + 1) (n : Int) = z) {m : Nat} (hm : n < m) : L m 0 = scan g r z n 0 :=
  loop_scan (S := Unit) (L := fun m x _ => L m x) (σ := fun _ => ()) hs he n 0 m (by omega) (fun j hj => by omega) hm

theorem loopS {S β : Type} {n : Nat} {L : Nat → Int → S → β} {σ : Nat → S} {g : Nat → Bool} {r : Nat → β} {z : β}
    (hs : ∀ m i, i < n → (∀ j, j < i → g j = false) → L (m + 1) (i : Int) (σ i) = bif g i then r i else L m ((i + 1 : Nat) : Int) (σ (i + 1)))
    (he : ∀ m, (∀ j, j < n → g j = false) → L (m + 1) (n : Int) (σ n) = z) {m : Nat} (hm : n < m) {s0 : S} (h0 : σ 0 = s0) : L m 0 s0 = scan g r z n 0 := by
  subst h0
  exact loop_scan hs he n 0 m (by omega) (fun j hj => by omega) hm

theorem scan_congr {β : Type} {g g' : Nat → Bool} {r r' : Nat → β} {z z' : β} : ∀ d i, (∀ j, i ≤ j → j < i + d → (∀ q, i ≤ q → q < j → g q = false) → g j = g' j ∧ (g j = true → r j = r' j)) → ((∀ q, i ≤ q → q < i + d → g q = false) → z = z') → scan g r z d i = scan g' r' z' d i
  | 0, i, h, hz => hz (fun q h1 h2 => by omega)
  | d + 1, i, h, hz => by
    obtain ⟨h1, h2⟩ := h i (Nat.le_refl i) (by omega) (fun q a b => by omega)
    simp only [scan]
    rw [← h1]
    cases hg : g i with
    | true => simp only [cond_true]; exact h2 hg
    | false =>
      simp only [cond_false]
      refine scan_congr d (i + 1) (fun j a b hq => h j (by omega) (by omega) (fun q c e => ?_)) (fun hq => hz (fun q a b => ?_))
      · by_cases e2 : q = i
        · subst e2; exact hg
        · exact hq q (by omega) e
      · by_cases e2 : q = i
        · subst e2; exact hg
        · exact hq q (by omega) (by omega)

def anyB (g : Nat → Bool) (n : Nat) : Bool := scan g (fun _ => true) false n 0

theorem scan_map {β γ : Type} (f : β → γ) {g : Nat → Bool} {r : Nat → β} {z : β} : ∀ d i, f (scan g r z d i) = scan g (fun i => f (r i)) (f z) d i
  | 0, _ => rfl
  | d + 1, i => by
    simp only [scan]
    cases g i with
    | true => rfl
    | false => exact scan_map f d (i + 1)

theorem scan_const {β : Type} {g : Nat → Bool} {r z : β} (n : Nat) : scan g (fun _ => r) z n 0 = bif anyB g n then r else z := by
  unfold anyB
  have : ∀ d i, scan g (fun _ => r) z d i = bif scan g (fun _ => true) false d i then r else z := by
    intro d
    induction d with
    | zero => intro i; rfl
    | succ d ih =>
      intro i
      simp only [scan]
      cases g i with
      | true => rfl
      | false => exact ih (i + 1)
  exact this n 0

theorem scan_false {β : Type} {g : Nat → Bool} {r : Nat → β} {z : β} : ∀ d i, (∀ q, i ≤ q → q < i + d → g q = false) → scan g r z d i = z
  | 0, _, _ => rfl
  | d + 1, i, h => by
    simp only [scan, h i (Nat.le_refl i) (by omega), cond_false]
    exact scan_false d (i + 1) (fun q a b => h q (by omega) (by omega))

/-- Either the first place where it holds, or nowhere. -/
theorem scan_cases {β : Type} (g : Nat → Bool) (r : Nat → β) (z : β) : ∀ d i, ((∀ q, i ≤ q → q < i + d → g q = false) ∧ scan g r z d i = z) ∨ ∃ j, i ≤ j ∧ j < i + d ∧ g j = true ∧ (∀ q, i ≤ q → q < j → g q = false) ∧ scan g r z d i = r j
  | 0, i => .inl ⟨fun q a b => by omega, rfl⟩
  | d + 1, i => by
    simp only [scan]
    cases hg : g i with
    | true => exact .inr ⟨i, Nat.le_refl i, by omega, hg, fun q a b => by omega, rfl⟩
    | false =>
      simp only [cond_false]
      rcases scan_cases g r z d (i + 1) with ⟨h1, h2⟩ | ⟨j, h1, h2, h3, h4, h5⟩
      · exact .inl ⟨fun q a b => by
          by_cases e : q = i
          · subst e; exact hg
          · exact h1 q (by omega) (by omega), h2⟩
      · exact .inr ⟨j, by omega, by omega, h3, fun q a b => by
          by_cases e : q = i
          · subst e; exact hg
          · exact h4 q (by omega) b, h5⟩

theorem anyB_iff {g : Nat → Bool} {n : Nat} : anyB g n = true ↔ ∃ i, i < n ∧ g i = true := by
  unfold anyB
  rcases scan_cases g (fun _ => true) false n 0 with ⟨h1, h2⟩ | ⟨j, h1, h2, h3, h4, h5⟩
  · rw [h2]
    exact ⟨fun h => absurd h (by simp), fun ⟨i, hi, hg⟩ => absurd hg (by rw [h1 i (by omega) (by omega)]; simp)⟩
  · rw [h5]
    exact ⟨fun _ => ⟨j, by omega, h3⟩, fun _ => rfl⟩

theorem anyB_false {g : Nat → Bool} {n : Nat} : anyB g n = false ↔ ∀ i, i < n → g i = false := by
  constructor
  · intro h i hi
    cases hg : g i with
    | false => rfl
    | true => rw [anyB_iff.2 ⟨i, hi, hg⟩] at h; cases h
  · intro h
    cases ha : anyB g n with
    | false => rfl
    | true =>
      obtain ⟨i, hi, hg⟩ := anyB_iff.1 ha
      rw [h i hi] at hg; cases hg

theorem anyB_congr {g g' : Nat → Bool} {n : Nat} (h : ∀ i, i < n → (∀ j, j < i → g j = false) → g i = g' i) : anyB g n = anyB g' n :=
  scan_congr n 0 (fun j _ hj hq => ⟨h j (by omega) (fun q hq' => hq q (by omega) hq'), fun _ => rfl⟩) (fun _ => rfl)

/-- Places of a list. -/
def at' {α : Type} (l : List α) (p : α → Bool) (i : Nat) : Bool := match l[i]? with | some x => p x | none => false

theorem at'_eq {α : Type} {l : List α} {p : α → Bool} {i : Nat} (h : i < l.length) : at' l p i = p l[i] := by
  unfold at'
  rw [List.getElem?_eq_getElem h]

theorem anyB_any {α : Type} {l : List α} {p : α → Bool} : anyB (at' l p) l.length = l.any p := by
  cases h : l.any p with
  | true =>
    obtain ⟨x, hx, hp⟩ := List.any_eq_true.1 h
    obtain ⟨i, hi, rfl⟩ := List.getElem_of_mem hx
    exact anyB_iff.2 ⟨i, hi, by rw [at'_eq hi]; exact hp⟩
  | false =>
    rw [List.any_eq_false] at h
    refine anyB_false.2 (fun i hi => ?_)
    rw [at'_eq hi]
    have := h _ (List.getElem_mem hi)
    simpa using this

/-- The first place where it holds, or -1. -/
def pos {α : Type} (l : List α) (p : α → Bool) : Int := scan (at' l p) (fun i => (i : Int)) (-1) l.length 0

theorem pos_cases {α : Type} (l : List α) (p : α → Bool) : ((∀ i (h : i < l.length), p l[i] = false) ∧ pos l p = -1) ∨ ∃ j, ∃ h : j < l.length, p l[j] = true ∧ (∀ i (h : i < l.length), i < j → p l[i] = false) ∧ pos l p = (j : Int) := by
  unfold pos
  rcases scan_cases (at' l p) (fun i => (i : Int)) (-1) l.length 0 with ⟨h1, h2⟩ | ⟨j, h1, h2, h3, h4, h5⟩
  · exact .inl ⟨fun i hi => by rw [← at'_eq (p := p) hi]; exact h1 i (by omega) (by omega), h2⟩
  · refine .inr ⟨j, by omega, ?_, fun i hi hij => ?_, h5⟩
    · rw [← at'_eq (p := p) (show j < l.length by omega)]; exact h3
    · rw [← at'_eq (p := p) hi]; exact h4 i (by omega) hij

theorem pos_any {α : Type} (l : List α) (p : α → Bool) : decide (pos l p ≥ 0) = l.any p := by
  rcases pos_cases l p with ⟨h1, h2⟩ | ⟨j, h1, h2, h3, h4⟩
  · rw [h2]
    have : l.any p = false := by
      rw [List.any_eq_false]
      intro x hx
      obtain ⟨i, hi, rfl⟩ := List.getElem_of_mem hx
      rw [h1 i hi]; simp
    rw [this]; rfl
  · rw [h4]
    have : l.any p = true := List.any_eq_true.2 ⟨l[j], List.getElem_mem h1, h2⟩
    rw [this]
    simp

end Go.Sh
namespace Go.Sh
open Go.AE
set_option linter.unusedVariables false
set_option linter.unusedSimpArgs false

theorem succ_of {k c : Nat} (h : c + 1 ≤ k) : ∃ q, k = q + 1 ∧ c ≤ q := ⟨k - 1, by omega, by omega⟩

/-! Names. -/

def badL (s : Str) (i : Nat) : Bool := at' s (fun c => (!(decide ((c.toNat : Int) ≥ 65) && decide ((c.toNat : Int) ≤ 90))) && (((i : Int) == 0) || (decide ((c.toNat : Int) < 48) || decide ((c.toNat : Int) > 57)))) i
def nameOk (s : Str) : Bool := !anyB (badL s) s.length && (decide ((s.length : Int) ≥ 1) && decide ((s.length : Int) ≤ 8))

theorem dbd_isName {k : Nat} {s : Str} (hk : maxLen + 2 ≤ k) (hs : wfS s) : dbd_IsName k s = some (nameOk s) := by
  obtain ⟨k, rfl, hq⟩ := succ_of hk
  unfold dbd_IsName
  unfold wfS at hs
  refine Eq.trans (loop0 (L := fun m x => dbd_IsName_L1 s _ m x) (n := s.length) (g := badL s) (r := fun _ => some false) (z := some (decide ((s.length : Int) ≥ 1) && decide ((s.length : Int) ≤ 8))) ?_ ?_ (by omega)) ?_
  rotate_left 2
  · rw [scan_const]
    unfold nameOk
    cases anyB (badL s) s.length <;> rfl
  · intro m i hi _
    simp only [dbd_IsName_L1, badL, at'_eq hi, idxS_at hi, wrap_next hi hs, Option.bind_some, show decide ((i : Int) < (s.length : Int)) = true by simp; exact hi, cond_true]
    cases decide ((s[i].toNat : Int) ≥ 65) <;> cases decide ((s[i].toNat : Int) ≤ 90) <;> cases ((i : Int) == 0) <;> cases decide ((s[i].toNat : Int) < 48) <;> cases decide ((s[i].toNat : Int) > 57) <;> rfl
  · intro m _
    simp only [dbd_IsName_L1, show decide ((s.length : Int) < (s.length : Int)) = false by simp, cond_false]
    cases decide ((s.length : Int) ≥ 1) <;> cases decide ((s.length : Int) ≤ 8) <;> rfl

theorem ref11_IsName_L1_eq (a : Str) (K : Int → Option Bool) : ∀ m x, ref11_IsName_L1 a K m x = dbd_IsName_L1 a K m x := by
  intro m
  induction m with
  | zero => intro x; rfl
  | succ m ih => intro x; simp only [ref11_IsName_L1, dbd_IsName_L1, ih]

theorem ref11_isName {k : Nat} {s : Str} (hk : maxLen + 2 ≤ k) (hs : wfS s) : ref11_IsName k s = some (nameOk s) := by
  rw [← dbd_isName hk hs]
  cases k with
  | zero => rfl
  | succ k => simp only [ref11_IsName, dbd_IsName, ref11_IsName_L1_eq]

/-! The library's searches. -/

theorem indexFunc_gen {α : Type} {l : List α} {p : α → Bool} {f : α → Option Bool} (hp : ∀ x ∈ l, f x = some (p x)) {L : Nat → Int → Option Int} {K0 : Int → Option Int}
    (hL : ∀ m x, L (m + 1) x = (bif decide (x < (l.length : Int)) then (((idx l x).bind f).bind fun o => (bif o then (some x) else L m (Go.IntKind.wrap .i64 (x + 1)))) else K0 x))
    (hK : K0 (l.length : Int) = some (-1)) (hn : l.length ≤ maxLen) {m : Nat} (hm : l.length < m) : L m 0 = some (pos l p) := by
  refine Eq.trans (loop0 (L := L) (n := l.length) (g := at' l p) (r := fun i => some (i : Int)) (z := some (-1)) ?_ ?_ hm) ?_
  rotate_left 2
  · unfold pos
    rw [scan_map some]
  · intro m i hi _
    rw [hL, at'_eq hi]
    simp only [show decide ((i : Int) < (l.length : Int)) = true by simp; exact hi, cond_true, idx_at hi, Option.bind_some, hp _ (List.getElem_mem hi), wrap_next hi hn]
  · intro m _
    rw [hL]
    simp only [show decide ((l.length : Int) < (l.length : Int)) = false by simp, cond_false, hK]

theorem indexFunc_Field {k : Nat} {l : List T_api_Field} {p : T_api_Field → Bool} {f : Nat → T_api_Field → Option Bool} (hk : l.length + 2 ≤ k) (hn : l.length ≤ maxLen) (hp : ∀ k', k' + 1 = k → ∀ x ∈ l, f k' x = some (p x)) : slices_IndexFunc_Field k l f = some (pos l p) := by
  obtain ⟨k, rfl, hq⟩ := succ_of hk
  exact indexFunc_gen (hp k rfl) (L := fun m x => slices_IndexFunc_Field_L1 k l f _ m x) (fun m x => rfl) rfl hn (by omega)

theorem indexFunc_Type {k : Nat} {l : List T_api_Type} {p : T_api_Type → Bool} {f : Nat → T_api_Type → Option Bool} (hk : l.length + 2 ≤ k) (hn : l.length ≤ maxLen) (hp : ∀ k', k' + 1 = k → ∀ x ∈ l, f k' x = some (p x)) : slices_IndexFunc_Type k l f = some (pos l p) := by
  obtain ⟨k, rfl, hq⟩ := succ_of hk
  exact indexFunc_gen (hp k rfl) (L := fun m x => slices_IndexFunc_Type_L1 k l f _ m x) (fun m x => rfl) rfl hn (by omega)

theorem indexFunc_Search {k : Nat} {l : List T_api_Search} {p : T_api_Search → Bool} {f : Nat → T_api_Search → Option Bool} (hk : l.length + 2 ≤ k) (hn : l.length ≤ maxLen) (hp : ∀ k', k' + 1 = k → ∀ x ∈ l, f k' x = some (p x)) : slices_IndexFunc_Search k l f = some (pos l p) := by
  obtain ⟨k, rfl, hq⟩ := succ_of hk
  exact indexFunc_gen (hp k rfl) (L := fun m x => slices_IndexFunc_Search_L1 k l f _ m x) (fun m x => rfl) rfl hn (by omega)

theorem indexFunc_int {k : Nat} {l : List Int} {p : Int → Bool} {f : Nat → Int → Option Bool} (hk : l.length + 2 ≤ k) (hn : l.length ≤ maxLen) (hp : ∀ k', k' + 1 = k → ∀ x ∈ l, f k' x = some (p x)) : slices_IndexFunc_int k l f = some (pos l p) := by
  obtain ⟨k, rfl, hq⟩ := succ_of hk
  exact indexFunc_gen (hp k rfl) (L := fun m x => slices_IndexFunc_int_L1 k l f _ m x) (fun m x => rfl) rfl hn (by omega)

theorem index_int {k : Nat} {l : List Int} {y : Int} (hk : l.length + 2 ≤ k) (hn : l.length ≤ maxLen) : slices_Index_int k l y = some (pos l (fun x => y == x)) := by
  obtain ⟨k, rfl, hq⟩ := succ_of hk
  exact indexFunc_gen (f := fun x => some (y == x)) (fun x _ => rfl) (L := fun m x => slices_Index_int_L1 l y _ m x) (fun m x => rfl) rfl hn (by omega)

theorem containsFunc_Field {k : Nat} {l : List T_api_Field} {p : T_api_Field → Bool} {f : Nat → T_api_Field → Option Bool} (hk : l.length + 3 ≤ k) (hn : l.length ≤ maxLen) (hp : ∀ k', k' + 2 = k → ∀ x ∈ l, f k' x = some (p x)) : slices_ContainsFunc_Field k l f = some (l.any p) := by
  obtain ⟨k, rfl, hq⟩ := succ_of hk
  simp only [slices_ContainsFunc_Field, indexFunc_Field hq hn (fun k' e => hp k' (by omega)), Option.bind_some, pos_any]

theorem containsFunc_Type {k : Nat} {l : List T_api_Type} {p : T_api_Type → Bool} {f : Nat → T_api_Type → Option Bool} (hk : l.length + 3 ≤ k) (hn : l.length ≤ maxLen) (hp : ∀ k', k' + 2 = k → ∀ x ∈ l, f k' x = some (p x)) : slices_ContainsFunc_Type k l f = some (l.any p) := by
  obtain ⟨k, rfl, hq⟩ := succ_of hk
  simp only [slices_ContainsFunc_Type, indexFunc_Type hq hn (fun k' e => hp k' (by omega)), Option.bind_some, pos_any]

theorem containsFunc_Search {k : Nat} {l : List T_api_Search} {p : T_api_Search → Bool} {f : Nat → T_api_Search → Option Bool} (hk : l.length + 3 ≤ k) (hn : l.length ≤ maxLen) (hp : ∀ k', k' + 2 = k → ∀ x ∈ l, f k' x = some (p x)) : slices_ContainsFunc_Search k l f = some (l.any p) := by
  obtain ⟨k, rfl, hq⟩ := succ_of hk
  simp only [slices_ContainsFunc_Search, indexFunc_Search hq hn (fun k' e => hp k' (by omega)), Option.bind_some, pos_any]

theorem containsFunc_int {k : Nat} {l : List Int} {p : Int → Bool} {f : Nat → Int → Option Bool} (hk : l.length + 3 ≤ k) (hn : l.length ≤ maxLen) (hp : ∀ k', k' + 2 = k → ∀ x ∈ l, f k' x = some (p x)) : slices_ContainsFunc_int k l f = some (l.any p) := by
  obtain ⟨k, rfl, hq⟩ := succ_of hk
  simp only [slices_ContainsFunc_int, indexFunc_int hq hn (fun k' e => hp k' (by omega)), Option.bind_some, pos_any]

theorem anyB_take {α : Type} {l : List α} {p : α → Bool} {i : Nat} (h : i ≤ l.length) : anyB (at' l p) i = (l.take i).any p := by
  rw [← anyB_any]
  rw [List.length_take, Nat.min_eq_left h]
  refine anyB_congr (fun j hj _ => ?_)
  rw [at'_eq (by omega), at'_eq (by rw [List.length_take]; omega)]
  congr 1
  simp

/-! Fields. -/

def badField (size : Int) (fs : List T_api_Field) (i : Nat) : Bool :=
  at' fs (fun f => ((!nameOk f.fName) || (decide (f.fAt < 0) || (decide (f.fAt ≥ size) || (decide (f.fBytes < 1) || decide (f.fBytes > Go.IntKind.wrap .i64 (size - f.fAt)))))) || (fs.take i).any (fun g => g.fName == f.fName)) i

theorem dbd_areFields_spec {k : Nat} {fs : List T_api_Field} {size : Int} (hk : maxLen + 5 ≤ k) (hw : wfL wf_T_api_Field fs) : dbd_areFields k fs size = some (!anyB (badField size fs) fs.length && decide ((fs.length : Int) ≤ 5)) := by
  obtain ⟨k, rfl, hq⟩ := succ_of hk
  unfold dbd_areFields
  obtain ⟨hl, hw⟩ := hw
  refine Eq.trans (loop0 (L := fun m x => dbd_areFields_L1 k fs size _ m x) (n := fs.length) (g := badField size fs) (r := fun _ => some false) (z := some (decide ((fs.length : Int) ≤ 5))) ?_ ?_ (by omega)) ?_
  rotate_left 2
  · rw [scan_const]
    cases anyB (badField size fs) fs.length <;> rfl
  · intro m i hi _
    have h1 := hw _ (List.getElem_mem hi)
    have hc : slices_ContainsFunc_Field k (fs.take i) (fun j x0 => dbd_areFields_1 j x0 fs[i]) = some ((fs.take i).any (fun g => g.fName == fs[i].fName)) := by
      refine containsFunc_Field (by rw [List.length_take]; omega) (by rw [List.length_take]; omega) (fun k' e x hx => ?_)
      obtain ⟨k', rfl, _⟩ := succ_of (show 0 + 1 ≤ k' by omega)
      rfl
    simp only [dbd_areFields_L1, badField, at'_eq hi, idx_at hi, wrap_next hi hl, Option.bind_some, show decide ((i : Int) < (fs.length : Int)) = true by simp; exact hi, cond_true, dbd_isName (show maxLen + 2 ≤ k by omega) h1.1, cut_take (show i ≤ fs.length by omega), hc]
    cases nameOk fs[i].fName <;> cases decide (fs[i].fAt < 0) <;> cases decide (fs[i].fAt ≥ size) <;> cases decide (fs[i].fBytes < 1) <;> cases decide (fs[i].fBytes > Go.IntKind.wrap .i64 (size - fs[i].fAt)) <;> cases (fs.take i).any (fun g => g.fName == fs[i].fName) <;> rfl
  · intro m _
    simp only [dbd_areFields_L1, show decide ((fs.length : Int) < (fs.length : Int)) = false by simp, cond_false]

def keyFit (t : T_api_Type) : Bool := match idx t.fFields t.fKey with | some f => decide ((Go.IntKind.wrap .i64 (f.fAt + f.fBytes)) ≤ t.fMin) | none => false
def fieldsOk (t : T_api_Type) : Bool := !anyB (badField t.fSize t.fFields) t.fFields.length && decide ((t.fFields.length : Int) ≤ 5)
def keyOk (t : T_api_Type) : Bool := bif (t.fKey == (-1)) then !t.fUnique else !(decide (t.fKey < 0) || decide (t.fKey ≥ (t.fFields.length : Int))) && keyFit t
def typeOk (t : T_api_Type) : Bool := !((!nameOk t.fName) || (decide (t.fMin < 1) || (decide (t.fMin > t.fSize) || (decide (t.fSize > 40) || !fieldsOk t)))) && keyOk t

theorem dbd_isType_spec {k : Nat} {t : T_api_Type} (hk : maxLen + 6 ≤ k) (hw : wf_T_api_Type t) : dbd_isType k t = some (typeOk t) := by
  obtain ⟨k, rfl, hq⟩ := succ_of hk
  obtain ⟨h1, _, _, _, h5, _⟩ := hw
  simp only [dbd_isType, dbd_isName (show maxLen + 2 ≤ k by omega) h1, dbd_areFields_spec (show maxLen + 5 ≤ k by omega) h5, Option.bind_some]
  unfold typeOk fieldsOk keyOk keyFit
  generalize (!anyB (badField t.fSize t.fFields) t.fFields.length && decide ((t.fFields.length : Int) ≤ 5)) = fo
  cases hx : idx t.fFields t.fKey with
  | none =>
    -- then the key is out of range
    have : decide (t.fKey < 0) = true ∨ decide (t.fKey ≥ (t.fFields.length : Int)) = true := by
      simp only [decide_eq_true_eq]
      by_cases h0 : t.fKey < 0
      · exact .inl h0
      · by_cases h2 : t.fKey ≥ (t.fFields.length : Int)
        · exact .inr h2
        · rw [idx_of (by omega) (by omega)] at hx; cases hx
    cases nameOk t.fName <;> cases decide (t.fMin < 1) <;> cases decide (t.fMin > t.fSize) <;> cases decide (t.fSize > 40) <;> cases fo <;> try rfl
    rcases this with h | h
    · rw [h]; cases (t.fKey == (-1)) <;> rfl
    · rw [h]; cases (t.fKey == (-1)) <;> cases decide (t.fKey < 0) <;> rfl
  | some f =>
    simp only [Option.bind_some]
    cases nameOk t.fName <;> cases decide (t.fMin < 1) <;> cases decide (t.fMin > t.fSize) <;> cases decide (t.fSize > 40) <;> cases fo <;> cases (t.fKey == (-1)) <;> cases decide (t.fKey < 0) <;> cases decide (t.fKey ≥ (t.fFields.length : Int)) <;> rfl

/-- The reference's fields. -/
def fieldsR (t : T_api_Type) : Bool := !anyB (badField t.fSize t.fFields) t.fFields.length && (!(decide (t.fKey < (-1)) || (decide (t.fKey ≥ (t.fFields.length : Int)) || (decide (t.fKey < 0) && t.fUnique))) && (decide ((t.fFields.length : Int) ≤ 5) && (decide (t.fKey < 0) || keyFit t)))

theorem ref11_fields_spec {k : Nat} {t : T_api_Type} (hk : maxLen + 5 ≤ k) (hw : wf_T_api_Type t) : ref11_fields k t = some (fieldsR t) := by
  obtain ⟨k, rfl, hq⟩ := succ_of hk
  unfold ref11_fields
  obtain ⟨_, _, _, _, ⟨hl, hw⟩, _⟩ := hw
  refine Eq.trans (loop0 (L := fun m x => ref11_fields_L1 k t _ m x) (n := t.fFields.length) (g := badField t.fSize t.fFields) (r := fun _ => some false) (z := some (!(decide (t.fKey < (-1)) || (decide (t.fKey ≥ (t.fFields.length : Int)) || (decide (t.fKey < 0) && t.fUnique))) && (decide ((t.fFields.length : Int) ≤ 5) && (decide (t.fKey < 0) || keyFit t)))) ?_ ?_ (by omega)) ?_
  rotate_left 2
  · rw [scan_const]
    unfold fieldsR
    cases anyB (badField t.fSize t.fFields) t.fFields.length <;> rfl
  · intro m i hi _
    have h1 := hw _ (List.getElem_mem hi)
    simp only [ref11_fields_L1, badField, at'_eq hi, idx_at hi, wrap_next hi hl, Option.bind_some, show decide ((i : Int) < (t.fFields.length : Int)) = true by simp; exact hi, cond_true, ref11_isName (show maxLen + 2 ≤ k by omega) h1.1]
    have hin : ∀ (K : Option Bool), ref11_fields_L2 t (i : Int) t.fFields[i] (fun _ => K) k 0 = bif (t.fFields.take i).any (fun g => g.fName == t.fFields[i].fName) then some false else K := by
      intro K
      rw [← anyB_take (show i ≤ t.fFields.length by omega)]
      refine Eq.trans (loop0 (L := fun m x => ref11_fields_L2 t (i : Int) t.fFields[i] _ m x) (n := i) (g := at' t.fFields (fun g => g.fName == t.fFields[i].fName)) (r := fun _ => some false) (z := K) ?_ ?_ (by omega)) (scan_const i)
      · intro m j hj _
        have hj' : j < t.fFields.length := by omega
        simp only [ref11_fields_L2, at'_eq hj', idx_at hj', wrap_next hj' hl, Option.bind_some, show decide ((j : Int) < (i : Int)) = true by simp; exact hj, cond_true]
      · intro m _
        simp only [ref11_fields_L2, show decide ((i : Int) < (i : Int)) = false by simp, cond_false]
    rw [hin]
    -- 'at' may be at the end in the reference: then no byte is left
    by_cases he : t.fFields[i].fAt = t.fSize
    · have e1 : decide (t.fFields[i].fAt > t.fSize) = false := by simp; omega
      have e2 : decide (t.fFields[i].fAt ≥ t.fSize) = true := by simp; omega
      have e3 : Go.IntKind.wrap .i64 (t.fSize - t.fFields[i].fAt) = 0 := by rw [he, Int.sub_self]; rfl
      rw [e1, e2, e3]
      have e4 : (decide (t.fFields[i].fBytes < 1) || decide (t.fFields[i].fBytes > 0)) = true := by
        simp only [Bool.or_eq_true, decide_eq_true_eq]; omega
      cases nameOk t.fFields[i].fName <;> cases decide (t.fFields[i].fAt < 0) <;> cases h : decide (t.fFields[i].fBytes < 1) <;> cases h' : decide (t.fFields[i].fBytes > 0) <;> first | rfl | (rw [h, h'] at e4; cases e4)
    · have e1 : decide (t.fFields[i].fAt > t.fSize) = decide (t.fFields[i].fAt ≥ t.fSize) := by
        apply decide_eq_decide.2; omega
      rw [e1]
      cases nameOk t.fFields[i].fName <;> cases decide (t.fFields[i].fAt < 0) <;> cases decide (t.fFields[i].fAt ≥ t.fSize) <;> cases decide (t.fFields[i].fBytes < 1) <;> cases decide (t.fFields[i].fBytes > Go.IntKind.wrap .i64 (t.fSize - t.fFields[i].fAt)) <;> rfl
  · intro m _
    simp only [ref11_fields_L1, show decide ((t.fFields.length : Int) < (t.fFields.length : Int)) = false by simp, cond_false]
    unfold keyFit
    cases hx : idx t.fFields t.fKey with
    | none =>
      have : decide (t.fKey < 0) = true ∨ decide (t.fKey ≥ (t.fFields.length : Int)) = true := by
        simp only [decide_eq_true_eq]
        by_cases h0 : t.fKey < 0
        · exact .inl h0
        · by_cases h2 : t.fKey ≥ (t.fFields.length : Int)
          · exact .inr h2
          · rw [idx_of (by omega) (by omega)] at hx; cases hx
      cases h1 : decide (t.fKey < (-1)) <;> cases h2 : decide (t.fKey ≥ (t.fFields.length : Int)) <;> cases h3 : decide (t.fKey < 0) <;> cases t.fUnique <;> cases decide ((t.fFields.length : Int) ≤ 5) <;> first | rfl | (rw [h2, h3] at this; simp at this)
    | some f =>
      simp only [Option.bind_some]
      cases decide (t.fKey < (-1)) <;> cases decide (t.fKey ≥ (t.fFields.length : Int)) <;> cases decide (t.fKey < 0) <;> cases t.fUnique <;> cases decide ((t.fFields.length : Int) ≤ 5) <;> rfl

/-- They agree. -/
theorem fieldsR_eq (t : T_api_Type) : fieldsR t = (fieldsOk t && keyOk t) := by
  unfold fieldsR fieldsOk keyOk
  have hb : ∀ x : Bool, (decide ((t.fFields.length : Int) ≤ 5) && x) = (x && decide ((t.fFields.length : Int) ≤ 5)) := fun x => Bool.and_comm _ _
  have key : (!(decide (t.fKey < (-1)) || (decide (t.fKey ≥ (t.fFields.length : Int)) || (decide (t.fKey < 0) && t.fUnique))) && (decide (t.fKey < 0) || keyFit t)) =
      (bif (t.fKey == (-1)) then !t.fUnique else !(decide (t.fKey < 0) || decide (t.fKey ≥ (t.fFields.length : Int))) && keyFit t) := by
    by_cases h1 : t.fKey = -1
    · have e1 : decide (t.fKey < (-1)) = false := by simp; omega
      have e2 : decide (t.fKey ≥ (t.fFields.length : Int)) = false := by simp; omega
      have e3 : decide (t.fKey < 0) = true := by simp; omega
      have e4 : (t.fKey == (-1)) = true := by simp; exact h1
      rw [e1, e2, e3, e4]
      cases t.fUnique <;> rfl
    · have e4 : (t.fKey == (-1)) = false := by simp; exact h1
      rw [e4]
      by_cases h2 : t.fKey < 0
      · have e1 : decide (t.fKey < (-1)) = true := by simp; omega
        have e3 : decide (t.fKey < 0) = true := by simp; omega
        rw [e1, e3]; rfl
      · have e1 : decide (t.fKey < (-1)) = false := by simp; omega
        have e3 : decide (t.fKey < 0) = false := by simp; omega
        rw [e1, e3]
        cases decide (t.fKey ≥ (t.fFields.length : Int)) <;> rfl
  rw [Bool.and_assoc, ← key]
  congr 1
  cases decide ((t.fFields.length : Int) ≤ 5) <;> simp

end Go.Sh
namespace Go.Sh
open Go.AE
set_option linter.unusedVariables false
set_option linter.unusedSimpArgs false

/-! Ways. -/

/-- From the root to 'x'. -/
def chain (ts : List T_api_Type) : Nat → Int → List Int
  | 0, _ => []
  | d + 1, x => if 0 ≤ x then (match ts[x.toNat]? with | some t => chain ts d t.fParent ++ [x] | none => []) else []

def way (ts : List T_api_Type) (x : Nat) : List Int := chain ts (x + 1) (x : Int)

/-- Parents come first, below 'n'. -/
def Up (ts : List T_api_Type) (n : Nat) : Prop := ∀ j (h : j < ts.length), j < n → (ts[j]).fParent < (j : Int)

theorem Up.mono {ts : List T_api_Type} {n m : Nat} (h : Up ts n) (hm : m ≤ n) : Up ts m := fun j hj hjm => h j hj (by omega)

theorem chain_neg {ts : List T_api_Type} {d : Nat} {x : Int} (h : x < 0) : chain ts d x = [] := by
  cases d with
  | zero => rfl
  | succ d => rw [chain, if_neg (by omega)]

theorem chain_stable {ts : List T_api_Type} {n : Nat} (hu : Up ts n) : ∀ (d d' : Nat) (x : Int), x < (d : Int) → x < (d' : Int) → x < (n : Int) → chain ts d x = chain ts d' x
  | 0, d', x, h, h', hn => by rw [chain_neg (d := 0) (by omega), chain_neg (by omega)]
  | d + 1, 0, x, h, h', hn => by rw [chain_neg (by omega), chain_neg (by omega)]
  | d + 1, d' + 1, x, h, h', hn => by
    by_cases h0 : 0 ≤ x
    · simp only [chain, if_pos h0]
      cases ht : ts[x.toNat]? with
      | none => rfl
      | some t =>
        have hlt : x.toNat < ts.length := by
          rcases Nat.lt_or_ge x.toNat ts.length with h1 | h1
          · exact h1
          · rw [List.getElem?_eq_none h1] at ht; cases ht
        have he : ts[x.toNat] = t := by rw [List.getElem?_eq_getElem hlt] at ht; exact Option.some.inj ht
        have := hu x.toNat hlt (by omega)
        rw [he] at this
        simp only
        rw [chain_stable hu d d' t.fParent (by omega) (by omega) (by omega)]
    · rw [chain_neg (by omega), chain_neg (by omega)]

theorem chain_way {ts : List T_api_Type} {n d : Nat} (hu : Up ts n) {x : Int} (h0 : 0 ≤ x) (hd : x < (d : Int)) (hn : x < (n : Int)) : chain ts d x = way ts x.toNat := by
  unfold way
  rw [show ((x.toNat : Nat) : Int) = x by omega]
  exact chain_stable hu _ _ x hd (by omega) hn

theorem way_succ {ts : List T_api_Type} {n x : Nat} (hu : Up ts n) (hn : x < n) (hx : x < ts.length) : way ts x = chain ts n (ts[x]).fParent ++ [(x : Int)] := by
  unfold way
  rw [chain, if_pos (by omega), Int.toNat_natCast, List.getElem?_eq_getElem hx]
  simp only
  have := hu x hx hn
  rw [chain_stable hu x n _ this (by omega) (by omega)]

theorem chain_lt {ts : List T_api_Type} {n : Nat} (hu : Up ts n) : ∀ (d : Nat) (x : Int), x < (n : Int) → ∀ y ∈ chain ts d x, 0 ≤ y ∧ y ≤ x
  | 0, _, _, y, hy => by cases hy
  | d + 1, x, hn, y, hy => by
    by_cases h0 : 0 ≤ x
    · simp only [chain, if_pos h0] at hy
      cases ht : ts[x.toNat]? with
      | none => rw [ht] at hy; cases hy
      | some t =>
        rw [ht] at hy
        have hlt : x.toNat < ts.length := by
          rcases Nat.lt_or_ge x.toNat ts.length with h1 | h1
          · exact h1
          · rw [List.getElem?_eq_none h1] at ht; cases ht
        have he : ts[x.toNat] = t := by rw [List.getElem?_eq_getElem hlt] at ht; exact Option.some.inj ht
        have hp := hu x.toNat hlt (by omega)
        rw [he] at hp
        simp only [List.mem_append, List.mem_singleton] at hy
        rcases hy with hy | hy
        · have := chain_lt hu d t.fParent (by omega) y hy
          omega
        · omega
    · rw [chain_neg (by omega)] at hy; cases hy

theorem chain_len {ts : List T_api_Type} : ∀ (d : Nat) (x : Int), (chain ts d x).length ≤ d
  | 0, _ => Nat.le_refl 0
  | d + 1, x => by
    rw [chain]
    split
    · split
      · have := chain_len (ts := ts) d (by assumption : T_api_Type).fParent
        simp
        omega
      · exact Nat.zero_le _
    · exact Nat.zero_le _

theorem pos_eq {α : Type} {l : List α} {p : α → Bool} {j : Nat} (h : j < l.length) (hp : p l[j] = true) (hb : ∀ i (h : i < l.length), i < j → p l[i] = false) : pos l p = (j : Int) := by
  rcases pos_cases l p with ⟨h1, _⟩ | ⟨q, h1, h2, h3, h4⟩
  · rw [h1 j h] at hp; cases hp
  · rw [h4]
    rcases Nat.lt_trichotomy q j with h5 | h5 | h5
    · rw [hb q h1 h5] at h2; cases h2
    · rw [h5]
    · rw [h3 j h h5] at hp; cases hp

theorem pos_none {α : Type} {l : List α} {p : α → Bool} (h : l.any p = false) : pos l p = -1 := by
  rcases pos_cases l p with ⟨_, h2⟩ | ⟨j, h1, h2, _, _⟩
  · exact h2
  · rw [List.any_eq_false] at h
    have := h _ (List.getElem_mem h1)
    rw [h2] at this; simp at this

/-- Up to one that is on the way: its own way. -/
theorem way_cut {ts : List T_api_Type} {n : Nat} (hu : Up ts n) : ∀ (d : Nat) (x : Int), x < (d : Int) → x < (n : Int) → ∀ y : Int, y ∈ chain ts d x → (chain ts d x).take ((pos (chain ts d x) (fun z => y == z)) + 1).toNat = way ts y.toNat
  | 0, _, _, _, y, hy => by cases hy
  | d + 1, x, hd, hn, y, hy => by
    by_cases h0 : 0 ≤ x
    · have hy1 := hy
      simp only [chain, if_pos h0] at hy1 ⊢
      cases ht : ts[x.toNat]? with
      | none => rw [ht] at hy1; cases hy1
      | some t =>
        rw [ht] at hy1
        simp only at hy1 ⊢
        have hlt : x.toNat < ts.length := by
          rcases Nat.lt_or_ge x.toNat ts.length with h1 | h1
          · exact h1
          · rw [List.getElem?_eq_none h1] at ht; cases ht
        have he : ts[x.toNat] = t := by rw [List.getElem?_eq_getElem hlt] at ht; exact Option.some.inj ht
        have hp := hu x.toNat hlt (by omega)
        rw [he] at hp
        have hlow := chain_lt hu d t.fParent (by omega)
        by_cases hyx : y = x
        · subst hyx
          have hps : pos (chain ts d t.fParent ++ [y]) (fun z => y == z) = ((chain ts d t.fParent).length : Int) := by
            refine pos_eq (by simp) (by simp) (fun i hi hij => ?_)
            rw [List.getElem_append_left hij]
            have := hlow _ (List.getElem_mem hij)
            simp only [beq_eq_false_iff_ne, ne_eq]
            omega
          rw [hps]
          have e1 : (((chain ts d t.fParent).length : Int) + 1).toNat = (chain ts d t.fParent).length + 1 := by omega
          rw [e1, List.take_of_length_le (by simp)]
          rw [way_succ hu (show y.toNat < n by omega) hlt, he]
          rw [chain_stable hu d n t.fParent (by omega) (by omega) (by omega)]
          rw [show ((y.toNat : Nat) : Int) = y by omega]
        · have hy2 : y ∈ chain ts d t.fParent := by
            simp only [List.mem_append, List.mem_singleton] at hy1
            rcases hy1 with h | h
            · exact h
            · exact absurd h hyx
          rcases pos_cases (chain ts d t.fParent) (fun z => y == z) with ⟨g1, _⟩ | ⟨j, g1, g2, g3, g4⟩
          · obtain ⟨i, hi, he2⟩ := List.getElem_of_mem hy2
            have := g1 i hi
            rw [he2] at this; simp at this
          · have hps : pos (chain ts d t.fParent ++ [x]) (fun z => y == z) = (j : Int) := by
              refine pos_eq (by simp; omega) (by rw [List.getElem_append_left g1]; exact g2) (fun i hi hij => ?_)
              rw [List.getElem_append_left (by omega)]
              exact g3 i (by omega) hij
            have ih := way_cut hu d t.fParent (by omega) (by omega) y hy2
            rw [g4] at ih
            rw [hps, List.take_append_of_le_length (by omega)]
            exact ih
    · rw [chain_neg (by omega)] at hy; cases hy

/-! What is valid. -/

def dupType (ts : List T_api_Type) (i : Nat) : Bool := at' ts (fun t => (ts.take i).any (fun g => g.fName == t.fName)) i
def rootBad (t : T_api_Type) : Bool := (t.fParent != (-1)) || (decide (t.fKey < 0) || (!t.fUnique || (match idx t.fFields t.fKey with | some f => decide (f.fBytes > 24) | none => true)))
def before (ts : List T_api_Type) : Nat → List Int
  | 0 => []
  | i + 1 => way ts i
def badType (ts : List T_api_Type) (i : Nat) : Bool := at' ts (fun t => (!typeOk t || dupType ts i) || ((bif Nat.beq i 0 then rootBad t else !(before ts i).any (fun z => t.fParent == z)) || decide (((way ts i).length : Int) > 5))) i
def typesOk (ts : List T_api_Type) : Bool := !(decide ((ts.length : Int) < 1) || decide ((ts.length : Int) > 8)) && !anyB (badType ts) ts.length

/-- As long as no type is bad, parents come first. -/
theorem up_of {ts : List T_api_Type} : ∀ (n : Nat), (∀ j, j < n → badType ts j = false) → Up ts n
  | 0, _ => fun j _ h => by omega
  | n + 1, h => by
    have ih := up_of n (fun j hj => h j (by omega))
    intro j hj hjn
    by_cases e : j < n
    · exact ih j hj e
    · have hjn' : j = n := by omega
      subst hjn'
      have hb := h j (by omega)
      rw [badType, at'_eq hj] at hb
      cases j with
      | zero =>
        simp only [Bool.or_eq_false_iff, show Nat.beq 0 0 = true from rfl, cond_true, rootBad] at hb
        have := hb.2.1.1
        simp at this
        omega
      | succ q =>
        simp only [Bool.or_eq_false_iff, show Nat.beq (q + 1) 0 = false from rfl, cond_false] at hb
        have h2 := hb.2.1
        simp only [Bool.not_eq_false', List.any_eq_true] at h2
        obtain ⟨z, hz, he⟩ := h2
        have hz' : z ∈ way ts q := hz
        have := chain_lt ih (q + 1) q (by omega) z hz'
        have he' : (ts[q + 1]).fParent = z := by simpa using he
        omega

theorem dbd_areTypes_spec {k : Nat} {ts : List T_api_Type} (hk : maxLen + 8 ≤ k) (hw : wfL wf_T_api_Type ts) : dbd_areTypes k ts = some (typesOk ts) := by
  obtain ⟨k, rfl, hq⟩ := succ_of hk
  obtain ⟨hl, hw⟩ := hw
  have e63 := maxLen_eq
  unfold dbd_areTypes typesOk
  by_cases hlen : 1 ≤ ts.length ∧ ts.length ≤ 8
  · obtain ⟨hlen1, hlen2⟩ := hlen
    simp only [show decide ((ts.length : Int) < 1) = false by simp; omega, show decide ((ts.length : Int) > 8) = false by simp; omega, cond_false, Option.bind_some, Bool.or_false, Bool.not_false, Bool.true_and]
    refine Eq.trans (loopS (L := fun m x s => dbd_areTypes_L1 k ts _ m x s) (n := ts.length) (σ := before ts) (g := badType ts) (r := fun _ => some false) (z := some true) ?_ ?_ (by omega) rfl) ?_
    rotate_left 2
    · rw [scan_const]
      cases anyB (badType ts) ts.length <;> rfl
    · intro m i hi hb
      have h1 := hw _ (List.getElem_mem hi)
      have hup := up_of i hb
      have hc : slices_ContainsFunc_Type k (ts.take i) (fun j x0 => dbd_areTypes_1 j x0 ts[i]) = some (dupType ts i) := by
        rw [dupType, at'_eq hi]
        refine containsFunc_Type (by rw [List.length_take]; omega) (by rw [List.length_take]; omega) (fun k' e x hx => ?_)
        obtain ⟨k', rfl, _⟩ := succ_of (show 0 + 1 ≤ k' by omega)
        rfl
      have hbl : (before ts i).length ≤ 8 := by
        cases i with
        | zero => exact Nat.zero_le _
        | succ q => have := chain_len (ts := ts) (q + 1) q; show (way ts q).length ≤ 8; unfold way; omega
      simp only [dbd_areTypes_L1, idx_at hi, wrap_next hi hl, Option.bind_some, show decide ((i : Int) < (ts.length : Int)) = true by simp; exact hi, cond_true, dbd_isType_spec (show maxLen + 6 ≤ k by omega) h1, cut_take (show i ≤ ts.length by omega), hc,
        index_int (show (before ts i).length + 2 ≤ k by omega) (show (before ts i).length ≤ maxLen by omega)]
      rw [badType, at'_eq hi]
      cases hto : typeOk ts[i] with
      | false => rfl
      | true =>
        cases hdt : dupType ts i with
        | true => rfl
        | false =>
          simp only [Bool.not_true, cond_false, Option.bind_some, Bool.or_false, Bool.false_or]
          cases i with
          | zero =>
            simp only [show (((0 : Nat) : Int) == 0) = true from rfl, cond_true, show Nat.beq 0 0 = true from rfl, show decide (((0 : Nat) : Int) > 0) = false from rfl, cond_false]
            have hroot : (bif ((ts[0]).fParent != (-1)) then (some (true)) else (bif (decide ((ts[0]).fKey < 0)) then (some (true)) else (bif (!(ts[0]).fUnique) then (some (true)) else ((idx (ts[0]).fFields (ts[0]).fKey).bind fun v25 => (bif (decide (v25.fBytes > 24)) then (some (true)) else some false))))) = some (rootBad ts[0]) := by
              unfold rootBad
              cases hx : idx (ts[0]).fFields (ts[0]).fKey with
              | none =>
                -- the key of a type that is right is there, or negative
                have hneg : decide ((ts[0]).fKey < 0) = true := by
                  simp only [decide_eq_true_eq]
                  by_cases h0 : (ts[0]).fKey < 0
                  · exact h0
                  · exfalso
                    have hko : keyOk ts[0] = true := by
                      unfold typeOk at hto
                      simp only [Bool.and_eq_true] at hto
                      exact hto.2
                    unfold keyOk at hko
                    have : ((ts[0]).fKey == (-1)) = false := by simp; omega
                    rw [this, cond_false] at hko
                    unfold keyFit at hko
                    rw [hx] at hko
                    simp at hko
                rw [hneg]
                cases ((ts[0]).fParent != (-1)) <;> rfl
              | some f =>
                simp only [Option.bind_some]
                cases ((ts[0]).fParent != (-1)) <;> cases decide ((ts[0]).fKey < 0) <;> cases (ts[0]).fUnique <;> cases decide (f.fBytes > 24) <;> rfl
            rw [hroot]
            cases hrb : rootBad ts[0] with
            | true => simp
            | false =>
              have hpar : (ts[0]).fParent = -1 := by
                unfold rootBad at hrb
                simp only [Bool.or_eq_false_iff] at hrb
                simpa using hrb.1
              have hway : way ts 0 = [0] := by
                unfold way
                rw [chain, if_pos (by omega), Int.toNat_natCast, List.getElem?_eq_getElem hi]
                simp [chain]
              have hpn : pos (before ts 0) (fun x => (ts[0]).fParent == x) = -1 := rfl
              rw [hpn]
              have hup0 : upTo (before ts 0) (Go.IntKind.wrap .i64 (-1 + 1)) = some 0 := rfl
              simp only [Option.bind_some, cond_false, hup0]
              rw [app_ok (by simp [before, maxList])]
              simp only [Option.bind_some, before, List.take_nil, List.nil_append, hway]
              rfl
          | succ q =>
            simp only [show ((((q + 1 : Nat)) : Int) == 0) = false by simp; omega, cond_false, show Nat.beq (q + 1) 0 = false from rfl, show decide ((((q + 1 : Nat)) : Int) > 0) = true by simp, cond_true, Option.bind_some]
            have hbe : before ts (q + 1) = chain ts (q + 1) q := rfl
            cases hany : (before ts (q + 1)).any (fun z => (ts[q + 1]).fParent == z) with
            | false =>
              rw [pos_none hany]
              rfl
            | true =>
              obtain ⟨y, hy, he⟩ := List.any_eq_true.1 hany
              have he' : (ts[q + 1]).fParent = y := by simpa using he
              have hylt := chain_lt hup (q + 1) q (by omega) y (by rw [← hbe]; exact hy)
              have hcut := way_cut hup (q + 1) q (by omega) (by omega) y (by rw [← hbe]; exact hy)
              rw [← hbe] at hcut
              rcases pos_cases (before ts (q + 1)) (fun z => (ts[q + 1]).fParent == z) with ⟨g1, _⟩ | ⟨j, g1, g2, g3, g4⟩
              · exfalso
                obtain ⟨ii, hii, hee⟩ := List.getElem_of_mem hy
                have := g1 ii hii
                rw [hee] at this
                rw [this] at he; cases he
              · have hcut' : (before ts (q + 1)).take ((pos (before ts (q + 1)) (fun z => (ts[q + 1]).fParent == z)) + 1).toNat = way ts y.toNat := by
                  rw [he']; exact hcut
                rw [g4] at hcut' ⊢
                have hdn : decide ((j : Int) < 0) = false := by simp
                have hwr : Go.IntKind.wrap .i64 ((j : Int) + 1) = ((j + 1 : Nat) : Int) := wrap_next (n := (before ts (q + 1)).length) g1 (by omega)
                have hut : upTo (before ts (q + 1)) ((j + 1 : Nat) : Int) = some (j + 1) := by
                  unfold upTo
                  rw [if_pos ⟨by omega, by omega⟩]
                  simp
                have hcut2 : (before ts (q + 1)).take (j + 1) = way ts y.toNat := by
                  rw [← hcut']; congr 1
                have hwl : (way ts y.toNat).length ≤ 8 := by
                  have := chain_len (ts := ts) (y.toNat + 1) (y.toNat : Int)
                  show (chain ts (y.toNat + 1) (y.toNat : Int)).length ≤ 8
                  omega
                have hnext : way ts (q + 1) = way ts y.toNat ++ [((q + 1 : Nat) : Int)] := by
                  have hup2 : Up ts (q + 2) := by
                    intro jj hjj hjn
                    by_cases e : jj < q + 1
                    · exact hup jj hjj e
                    · have : jj = q + 1 := by omega
                      subst this
                      omega
                  rw [way_succ hup2 (by omega) hi, he', chain_way hup2 hylt.1 (by omega) (by omega)]
                simp only [hdn, hwr, hut, cond_false, Option.bind_some, hcut2]
                rw [app_ok (by simp only [List.length_cons, List.length_nil, maxList]; omega)]
                simp only [Option.bind_some, ← hnext, Bool.not_true, Bool.false_or]
                rfl
    · intro m _
      simp only [dbd_areTypes_L1, show decide ((ts.length : Int) < (ts.length : Int)) = false by simp, cond_false]
  · by_cases h1 : ts.length < 1
    · simp only [show decide ((ts.length : Int) < 1) = true by simp; omega, cond_true, Option.bind_some, Bool.true_or, Bool.not_true, Bool.false_and]
    · have h2 : ts.length > 8 := by omega
      simp only [show decide ((ts.length : Int) < 1) = false by simp; omega, show decide ((ts.length : Int) > 8) = true by simp; omega, cond_true, cond_false, Option.bind_some, Bool.or_true, Bool.not_true, Bool.false_and]

end Go.Sh
namespace Go.Sh
open Go.AE
set_option linter.unusedVariables false
set_option linter.unusedSimpArgs false

def dupIndex (xs : List T_api_Search) (i : Nat) : Bool := at' xs (fun t => (xs.take i).any (fun g => g.fName == t.fName)) i
def fieldBad (ts : List T_api_Type) (x : T_api_Search) : Bool :=
  match idx ts x.fType with | none => true | some t => decide (x.fField < 0) || (decide (x.fField ≥ (t.fFields.length : Int)) || (match idx t.fFields x.fField with | none => true | some f => decide (f.fBytes > 20)))
def badIndex (ts : List T_api_Type) (xs : List T_api_Search) (i : Nat) : Bool :=
  at' xs (fun x => ((!nameOk x.fName) || (decide (x.fType < 0) || (decide (x.fType ≥ (ts.length : Int)) || (decide ((x.fSparse.length : Int) > 1) || dupIndex xs i)))) || fieldBad ts x) i
def indexesOk (ts : List T_api_Type) (xs : List T_api_Search) : Bool := !anyB (badIndex ts xs) xs.length && decide ((xs.length : Int) ≤ 3)

theorem dbd_areIndexes_spec {k : Nat} {ts : List T_api_Type} {xs : List T_api_Search} (hk : maxLen + 6 ≤ k) (hw : wfL wf_T_api_Search xs) : dbd_areIndexes k xs ts = some (indexesOk ts xs) := by
  obtain ⟨k, rfl, hq⟩ := succ_of hk
  obtain ⟨hl, hw⟩ := hw
  unfold dbd_areIndexes indexesOk
  refine Eq.trans (loop0 (L := fun m x => dbd_areIndexes_L1 k xs ts _ m x) (n := xs.length) (g := badIndex ts xs) (r := fun _ => some false) (z := some (decide ((xs.length : Int) ≤ 3))) ?_ ?_ (by omega)) ?_
  rotate_left 2
  · rw [scan_const]
    cases anyB (badIndex ts xs) xs.length <;> rfl
  · intro m i hi _
    have h1 := hw _ (List.getElem_mem hi)
    have hc : slices_ContainsFunc_Search k (xs.take i) (fun j x0 => dbd_areIndexes_1 j x0 xs[i]) = some (dupIndex xs i) := by
      rw [dupIndex, at'_eq hi]
      refine containsFunc_Search (by rw [List.length_take]; omega) (by rw [List.length_take]; omega) (fun k' e x hx => ?_)
      obtain ⟨k', rfl, _⟩ := succ_of (show 0 + 1 ≤ k' by omega)
      rfl
    simp only [dbd_areIndexes_L1, badIndex, at'_eq hi, idx_at hi, wrap_next hi hl, Option.bind_some, show decide ((i : Int) < (xs.length : Int)) = true by simp; exact hi, cond_true, dbd_isName (show maxLen + 2 ≤ k by omega) h1.1, cut_take (show i ≤ xs.length by omega), hc]
    unfold fieldBad
    cases hn : nameOk xs[i].fName with
    | false => rfl
    | true =>
      cases h2 : decide (xs[i].fType < 0) with
      | true => rfl
      | false =>
        cases h3 : decide (xs[i].fType ≥ (ts.length : Int)) with
        | true => rfl
        | false =>
          cases decide ((xs[i].fSparse.length : Int) > 1) with
          | true => rfl
          | false =>
            cases dupIndex xs i with
            | true => rfl
            | false =>
              simp only [decide_eq_false_iff_not] at h2 h3
              rw [idx_of (show 0 ≤ xs[i].fType by omega) (by omega)]
              simp only [Bool.not_true, cond_false, Option.bind_some, Bool.or_false, Bool.false_or]
              generalize ts[(xs[i].fType).toNat]'_ = t
              cases h4 : decide (xs[i].fField < 0) with
              | true => rfl
              | false =>
                cases h5 : decide (xs[i].fField ≥ (t.fFields.length : Int)) with
                | true => rfl
                | false =>
                  simp only [decide_eq_false_iff_not] at h4 h5
                  rw [idx_of (show 0 ≤ xs[i].fField by omega) (by omega)]
                  simp only [cond_false, Option.bind_some, Bool.false_or]
  · intro m _
    simp only [dbd_areIndexes_L1, show decide ((xs.length : Int) < (xs.length : Int)) = false by simp, cond_false]

def valid (b : T_api_Base) : Bool := nameOk b.fName && (decide (b.fKind ≥ 1) && (decide (b.fKind ≤ 4) && (typesOk b.fTypes && indexesOk b.fTypes b.fIndexes)))

theorem dbd_valid {k : Nat} {b : T_api_Base} (hk : maxLen + 9 ≤ k) (hw : wf_T_api_Base b) : dbd_Valid k b = some (valid b) := by
  obtain ⟨k, rfl, hq⟩ := succ_of hk
  obtain ⟨h1, _, h3, h4, _⟩ := hw
  simp only [dbd_Valid, dbd_isName (show maxLen + 2 ≤ k by omega) h1, dbd_areTypes_spec hq h3, dbd_areIndexes_spec (show maxLen + 6 ≤ k by omega) h4, Option.bind_some]
  unfold valid
  cases nameOk b.fName <;> cases decide (b.fKind ≥ 1) <;> cases decide (b.fKind ≤ 4) <;> cases typesOk b.fTypes <;> rfl

/-! The reference's ways. -/

theorem ref11_way_L1_spec {b : T_api_Base} {n : Nat} (hu : Up b.fTypes n) (hlen : n ≤ b.fTypes.length) (hs : n ≤ 1000) : ∀ (d : Nat) (x : Int) (w : List Int) (m : Nat), x < (d : Int) → x < (n : Int) → d < m → w.length + d ≤ 1000 →
    ref11_way_L1 b (fun y11 y12 => some y12) m x w = some (chain b.fTypes d x ++ w)
  | d, x, w, 0, _, _, hm, _ => by omega
  | d, x, w, m + 1, hd, hn, hm, hwl => by
    rw [ref11_way_L1]
    by_cases h0 : 0 ≤ x
    · have hx : x.toNat < b.fTypes.length := by omega
      have hp := hu x.toNat hx (by omega)
      cases d with
      | zero => omega
      | succ d =>
        simp only [show decide (x ≥ 0) = true by simp; omega, cond_true, idx_of h0 (show x < (b.fTypes.length : Int) by omega), Option.bind_some]
        rw [app_ok (by simp only [List.length_cons, List.length_nil, maxList]; omega)]
        simp only [Option.bind_some]
        rw [ref11_way_L1_spec hu hlen hs d _ _ m (by omega) (by omega) (by omega) (by simp; omega)]
        rw [chain, if_pos h0, List.getElem?_eq_getElem hx]
        simp
    · rw [chain_neg (by omega)]
      simp only [show decide (x ≥ 0) = false by simp; omega, cond_false, List.nil_append]

theorem ref11_way_spec {k : Nat} {b : T_api_Base} {n i : Nat} (hu : Up b.fTypes n) (hlen : n ≤ b.fTypes.length) (hs : n ≤ 500) (hi : i < n) (hk : 1000 ≤ k) : ref11_way k b (i : Int) = some (way b.fTypes i) := by
  obtain ⟨k, rfl, hq⟩ := succ_of (c := 999) (by omega : 999 + 1 ≤ k)
  refine Eq.trans (show ref11_way (k + 1) b (i : Int) = ref11_way_L1 b (fun y11 y12 => some y12) k (i : Int) [] from rfl) ?_
  rw [ref11_way_L1_spec hu hlen (by omega) (i + 1) (i : Int) [] k (by omega) (by omega) (by omega) (by simp; omega)]
  rw [List.append_nil]; rfl

theorem ref11_above_L1_spec {b : T_api_Base} {n : Nat} {a : Int} (hu : Up b.fTypes n) (hlen : n ≤ b.fTypes.length) : ∀ (d : Nat) (x : Int) (m : Nat), x < (d : Int) → x < (n : Int) → d < m →
    ref11_above_L1 b a (fun y8 => some false) m x = some ((chain b.fTypes d x).any (fun z => a == z))
  | d, x, 0, _, _, hm => by omega
  | d, x, m + 1, hd, hn, hm => by
    rw [ref11_above_L1]
    by_cases h0 : 0 ≤ x
    · have hx : x.toNat < b.fTypes.length := by omega
      have hp := hu x.toNat hx (by omega)
      cases d with
      | zero => omega
      | succ d =>
        simp only [show decide (x ≥ 0) = true by simp; omega, cond_true, idx_of h0 (show x < (b.fTypes.length : Int) by omega), Option.bind_some]
        rw [chain, if_pos h0, List.getElem?_eq_getElem hx]
        simp only [List.any_append, List.any_cons, List.any_nil, Bool.or_false]
        by_cases e : x = a
        · subst e; simp
        · have e1 : (x == a) = false := by simpa using e
          have e2 : (a == x) = false := by simpa using fun h => e h.symm
          rw [e1, e2, cond_false, Bool.or_false]
          exact ref11_above_L1_spec hu hlen d _ m (by omega) (by omega) (by omega)
    · rw [chain_neg (by omega)]
      simp only [show decide (x ≥ 0) = false by simp; omega, cond_false, List.any_nil]

theorem ref11_above_spec {k : Nat} {b : T_api_Base} {n i : Nat} {a : Int} (hu : Up b.fTypes n) (hlen : n ≤ b.fTypes.length) (hs : n ≤ 500) (hi : i < n) (hk : 1000 ≤ k) : ref11_above k b a (i : Int) = some ((chain b.fTypes n ((b.fTypes[i]'(by omega)).fParent)).any (fun z => a == z)) := by
  obtain ⟨k, rfl, hq⟩ := succ_of (c := 999) (by omega : 999 + 1 ≤ k)
  have hx : i < b.fTypes.length := by omega
  have hp := hu i hx hi
  simp only [ref11_above, idx_at hx, Option.bind_some]
  exact ref11_above_L1_spec hu hlen n _ k (by omega) (by omega) (by omega)

/-! The reference's types and indexes. -/

theorem ref11_Valid_L2_spec {b : T_api_Base} {i k : Nat} {K : Option Bool} (hi : i < b.fTypes.length) (hl : b.fTypes.length ≤ maxLen) (hk : i < k) : ref11_Valid_L2 b (i : Int) b.fTypes[i] (fun _ => K) k 0 = bif dupType b.fTypes i then some false else K := by
  rw [dupType, at'_eq hi, ← anyB_take (show i ≤ b.fTypes.length by omega)]
  refine Eq.trans (loop0 (L := fun m x => ref11_Valid_L2 b (i : Int) b.fTypes[i] _ m x) (n := i) (g := at' b.fTypes (fun g => g.fName == b.fTypes[i].fName)) (r := fun _ => some false) (z := K) ?_ ?_ hk) (scan_const i)
  · intro m j hj _
    have hj' : j < b.fTypes.length := by omega
    simp only [ref11_Valid_L2, at'_eq hj', idx_at hj', wrap_next hj' hl, Option.bind_some, show decide ((j : Int) < (i : Int)) = true by simp; exact hj, cond_true]
  · intro m _
    simp only [ref11_Valid_L2, show decide ((i : Int) < (i : Int)) = false by simp, cond_false]

theorem ref11_Valid_L4_spec {b : T_api_Base} {i k : Nat} {K : Option Bool} (hi : i < b.fIndexes.length) (hl : b.fIndexes.length ≤ maxLen) (hk : i < k) : ref11_Valid_L4 b (i : Int) b.fIndexes[i] (fun _ => K) k 0 = bif dupIndex b.fIndexes i then some false else K := by
  rw [dupIndex, at'_eq hi, ← anyB_take (show i ≤ b.fIndexes.length by omega)]
  refine Eq.trans (loop0 (L := fun m x => ref11_Valid_L4 b (i : Int) b.fIndexes[i] _ m x) (n := i) (g := at' b.fIndexes (fun g => g.fName == b.fIndexes[i].fName)) (r := fun _ => some false) (z := K) ?_ ?_ hk) (scan_const i)
  · intro m j hj _
    have hj' : j < b.fIndexes.length := by omega
    simp only [ref11_Valid_L4, at'_eq hj', idx_at hj', wrap_next hj' hl, Option.bind_some, show decide ((j : Int) < (i : Int)) = true by simp; exact hj, cond_true]
  · intro m _
    simp only [ref11_Valid_L4, show decide ((i : Int) < (i : Int)) = false by simp, cond_false]

theorem ref11_Valid_L3_spec {b : T_api_Base} {k : Nat} (hk : maxLen + 6 ≤ k) (hw : wfL wf_T_api_Search b.fIndexes) : ref11_Valid_L3 k b (fun _ => some true) k 0 = some (!anyB (badIndex b.fTypes b.fIndexes) b.fIndexes.length) := by
  obtain ⟨hl, hw⟩ := hw
  refine Eq.trans (loop0 (L := fun m x => ref11_Valid_L3 k b _ m x) (n := b.fIndexes.length) (g := badIndex b.fTypes b.fIndexes) (r := fun _ => some false) (z := some true) ?_ ?_ (by omega)) ?_
  rotate_left 2
  · rw [scan_const]
    cases anyB (badIndex b.fTypes b.fIndexes) b.fIndexes.length <;> rfl
  · intro m i hi _
    have h1 := hw _ (List.getElem_mem hi)
    simp only [ref11_Valid_L3, badIndex, at'_eq hi, idx_at hi, wrap_next hi hl, Option.bind_some, show decide ((i : Int) < (b.fIndexes.length : Int)) = true by simp; exact hi, cond_true, ref11_isName (show maxLen + 2 ≤ k by omega) h1.1, ref11_Valid_L4_spec hi hl (show i < k by omega)]
    unfold fieldBad
    cases hn : nameOk b.fIndexes[i].fName with
    | false => rfl
    | true =>
      cases h2 : decide (b.fIndexes[i].fType < 0) with
      | true => rfl
      | false =>
        cases h3 : decide (b.fIndexes[i].fType ≥ (b.fTypes.length : Int)) with
        | true => rfl
        | false =>
          simp only [decide_eq_false_iff_not] at h2 h3
          rw [idx_of (show 0 ≤ b.fIndexes[i].fType by omega) (by omega)]
          simp only [Bool.not_true, cond_false, Option.bind_some, Bool.or_false, Bool.false_or]
          generalize b.fTypes[(b.fIndexes[i].fType).toNat]'_ = t
          cases h4 : decide (b.fIndexes[i].fField < 0) with
          | true => cases decide ((b.fIndexes[i].fSparse.length : Int) > 1) <;> cases dupIndex b.fIndexes i <;> rfl
          | false =>
            cases h5 : decide (b.fIndexes[i].fField ≥ (t.fFields.length : Int)) with
            | true => cases decide ((b.fIndexes[i].fSparse.length : Int) > 1) <;> cases dupIndex b.fIndexes i <;> rfl
            | false =>
              simp only [decide_eq_false_iff_not] at h4 h5
              rw [idx_of (show 0 ≤ b.fIndexes[i].fField by omega) (by omega)]
              simp only [cond_false, Option.bind_some, Bool.false_or]
              generalize t.fFields[(b.fIndexes[i].fField).toNat]'_ = f
              cases decide (f.fBytes > 20) <;> cases decide ((b.fIndexes[i].fSparse.length : Int) > 1) <;> cases dupIndex b.fIndexes i <;> rfl
  · intro m _
    simp only [ref11_Valid_L3, show decide ((b.fIndexes.length : Int) < (b.fIndexes.length : Int)) = false by simp, cond_false]

theorem typeOk_eq (t : T_api_Type) : typeOk t = !((!nameOk t.fName) || (decide (t.fMin < 1) || (decide (t.fMin > t.fSize) || (decide (t.fSize > 40) || !fieldsR t)))) := by
  rw [fieldsR_eq]
  unfold typeOk
  cases nameOk t.fName <;> cases decide (t.fMin < 1) <;> cases decide (t.fMin > t.fSize) <;> cases decide (t.fSize > 40) <;> cases fieldsOk t <;> cases keyOk t <;> rfl

theorem ref11_Valid_L1_spec {b : T_api_Base} {k : Nat} {K : Option Bool} (hk : maxLen + 8 ≤ k) (hw : wfL wf_T_api_Type b.fTypes) (h8 : b.fTypes.length ≤ 8) : ref11_Valid_L1 k b (fun _ => K) k 0 = bif anyB (badType b.fTypes) b.fTypes.length then some false else K := by
  obtain ⟨hl, hw⟩ := hw
  have e63 := maxLen_eq
  refine Eq.trans (loop0 (L := fun m x => ref11_Valid_L1 k b _ m x) (n := b.fTypes.length) (g := badType b.fTypes) (r := fun _ => some false) (z := K) ?_ ?_ (by omega)) (scan_const _)
  · intro m i hi hb
    have h1 := hw _ (List.getElem_mem hi)
    have hup := up_of i hb
    simp only [ref11_Valid_L1, idx_at hi, wrap_next hi hl, Option.bind_some, show decide ((i : Int) < (b.fTypes.length : Int)) = true by simp; exact hi, cond_true, ref11_isName (show maxLen + 2 ≤ k by omega) h1.1, ref11_fields_spec (show maxLen + 5 ≤ k by omega) h1, ref11_Valid_L2_spec hi hl (show i < k by omega)]
    rw [badType, at'_eq hi]
    have hshape : (bif (!nameOk (b.fTypes[i]).fName) then (some (true)) else (bif (decide ((b.fTypes[i]).fMin < 1)) then (some (true)) else (bif (decide ((b.fTypes[i]).fMin > (b.fTypes[i]).fSize)) then (some (true)) else (bif (decide ((b.fTypes[i]).fSize > 40)) then (some (true)) else (some ((!fieldsR b.fTypes[i]))))))) = some (!typeOk b.fTypes[i]) := by
      rw [typeOk_eq]
      cases nameOk (b.fTypes[i]).fName <;> cases decide ((b.fTypes[i]).fMin < 1) <;> cases decide ((b.fTypes[i]).fMin > (b.fTypes[i]).fSize) <;> cases decide ((b.fTypes[i]).fSize > 40) <;> cases fieldsR b.fTypes[i] <;> rfl
    rw [hshape]
    cases hto : typeOk b.fTypes[i] with
    | false => rfl
    | true =>
      cases hdt : dupType b.fTypes i with
      | true => rfl
      | false =>
        simp only [Bool.not_true, cond_false, Option.bind_some, Bool.or_false, Bool.false_or]
        cases i with
        | zero =>
          simp only [show (((0 : Nat) : Int) == 0) = true from rfl, cond_true, show Nat.beq 0 0 = true from rfl]
          have hway : (rootBad b.fTypes[0] = false) → decide (((way b.fTypes 0).length : Int) > 5) = false := by
            intro hrb
            have hpar : (b.fTypes[0]).fParent = -1 := by
              unfold rootBad at hrb
              simp only [Bool.or_eq_false_iff] at hrb
              simpa using hrb.1
            have : way b.fTypes 0 = [0] := by
              unfold way
              rw [chain, if_pos (by omega), Int.toNat_natCast, List.getElem?_eq_getElem hi]
              simp [chain]
            rw [this]; rfl
          have hroot : (bif ((b.fTypes[0]).fParent != (-1)) then (some (true)) else (bif (decide ((b.fTypes[0]).fKey < 0)) then (some (true)) else (bif (!(b.fTypes[0]).fUnique) then (some (true)) else ((idx (b.fTypes[0]).fFields (b.fTypes[0]).fKey).bind fun v32 => (some ((decide (v32.fBytes > 24)))))))) = some (rootBad b.fTypes[0]) := by
            unfold rootBad
            cases hx : idx (b.fTypes[0]).fFields (b.fTypes[0]).fKey with
            | none =>
              have hneg : decide ((b.fTypes[0]).fKey < 0) = true := by
                simp only [decide_eq_true_eq]
                by_cases h0 : (b.fTypes[0]).fKey < 0
                · exact h0
                · exfalso
                  have hko : keyOk b.fTypes[0] = true := by
                    unfold typeOk at hto
                    simp only [Bool.and_eq_true] at hto
                    exact hto.2
                  unfold keyOk at hko
                  have : ((b.fTypes[0]).fKey == (-1)) = false := by simp; omega
                  rw [this, cond_false] at hko
                  unfold keyFit at hko
                  rw [hx] at hko
                  simp at hko
              rw [hneg]
              cases ((b.fTypes[0]).fParent != (-1)) <;> rfl
            | some f =>
              simp only [Option.bind_some]
              cases ((b.fTypes[0]).fParent != (-1)) <;> cases decide ((b.fTypes[0]).fKey < 0) <;> cases (b.fTypes[0]).fUnique <;> cases decide (f.fBytes > 24) <;> rfl
          rw [hroot]
          cases hrb : rootBad b.fTypes[0] with
          | true => rfl
          | false => rw [hway hrb]; rfl
        | succ q =>
          have hq1 : q < b.fTypes.length := by omega
          have hpq := hup q hq1 (by omega)
          have hbe : before b.fTypes (q + 1) = chain b.fTypes (q + 1) q := rfl
          have hbw : before b.fTypes (q + 1) = chain b.fTypes (q + 1) (b.fTypes[q]).fParent ++ [(q : Int)] := way_succ hup (by omega) hq1
          have hab := ref11_above_spec (k := k) (a := (b.fTypes[q + 1]).fParent) hup (by omega) (by omega) (show q < q + 1 by omega) (by omega)
          have hwr : Go.IntKind.wrap .i64 (((q + 1 : Nat) : Int) - 1) = (q : Int) := by
            rw [wrap_in (by omega) (by omega)]; omega
          simp only [show ((((q + 1 : Nat)) : Int) == 0) = false by simp; omega, cond_false, show Nat.beq (q + 1) 0 = false from rfl, hwr, hab, Option.bind_some]
          have hmem : (before b.fTypes (q + 1)).any (fun z => (b.fTypes[q + 1]).fParent == z) = ((chain b.fTypes (q + 1) (b.fTypes[q]).fParent).any (fun z => (b.fTypes[q + 1]).fParent == z) || ((b.fTypes[q + 1]).fParent == (q : Int))) := by
            rw [hbw]; simp only [List.any_append, List.any_cons, List.any_nil, Bool.or_false]
          have hin : ((chain b.fTypes (q + 1) (b.fTypes[q]).fParent).any (fun z => (b.fTypes[q + 1]).fParent == z) || ((b.fTypes[q + 1]).fParent == (q : Int))) = true → ¬ (b.fTypes[q + 1]).fParent < 0 ∧ ¬ (b.fTypes[q + 1]).fParent ≥ ((q + 1 : Nat) : Int) := by
            intro h
            rw [← hmem] at h
            obtain ⟨y, hy, he⟩ := List.any_eq_true.1 h
            have he' : (b.fTypes[q + 1]).fParent = y := by simpa using he
            have := chain_lt hup (q + 1) q (by omega) y (by rw [← hbe]; exact hy)
            omega
          rw [hmem]
          cases hany : ((chain b.fTypes (q + 1) (b.fTypes[q]).fParent).any (fun z => (b.fTypes[q + 1]).fParent == z) || ((b.fTypes[q + 1]).fParent == (q : Int))) with
          | false =>
            rw [Bool.or_eq_false_iff] at hany
            obtain ⟨g1, g2⟩ := hany
            rw [g1]
            have g3 : ((b.fTypes[q + 1]).fParent != (q : Int)) = true := by rw [bne, g2]; rfl
            rw [g3]
            cases decide ((b.fTypes[q + 1]).fParent < 0) <;> cases decide ((b.fTypes[q + 1]).fParent ≥ ((q + 1 : Nat) : Int)) <;> rfl
          | true =>
            obtain ⟨g1, g2⟩ := hin hany
            have hup2 : Up b.fTypes (q + 2) := by
              intro jj hjj hjn
              by_cases e : jj < q + 1
              · exact hup jj hjj e
              · have : jj = q + 1 := by omega
                subst this
                omega
            have hwy := ref11_way_spec (k := k) hup2 (by omega) (by omega) (show q + 1 < q + 2 by omega) (by omega)
            rw [hwy]
            simp only [show decide ((b.fTypes[q + 1]).fParent < 0) = false by simp; omega, show decide ((b.fTypes[q + 1]).fParent ≥ ((q + 1 : Nat) : Int)) = false by simp; omega, cond_false, Option.bind_some]
            rw [Bool.or_eq_true] at hany
            rcases hany with g3 | g3
            · rw [g3]
              cases ((b.fTypes[q + 1]).fParent != (q : Int)) <;> cases decide (((way b.fTypes (q + 1)).length : Int) > 5) <;> rfl
            · have g4 : ((b.fTypes[q + 1]).fParent != (q : Int)) = false := by rw [bne, g3]; rfl
              rw [g4]
              cases decide (((way b.fTypes (q + 1)).length : Int) > 5) <;> rfl
  · intro m _
    simp only [ref11_Valid_L1, show decide ((b.fTypes.length : Int) < (b.fTypes.length : Int)) = false by simp, cond_false]

theorem ref11_valid {k : Nat} {b : T_api_Base} (hk : maxLen + 9 ≤ k) (hw : wf_T_api_Base b) : ref11_Valid k b = some (valid b) := by
  obtain ⟨k, rfl, hq⟩ := succ_of hk
  obtain ⟨h1, _, h3, h4, _⟩ := hw
  simp only [ref11_Valid, ref11_isName (show maxLen + 2 ≤ k by omega) h1, Option.bind_some]
  unfold valid typesOk indexesOk
  have e1 : decide (b.fKind < 1) = !decide (b.fKind ≥ 1) := by rw [← decide_not]; apply decide_eq_decide.2; omega
  have e2 : decide (b.fKind > 4) = !decide (b.fKind ≤ 4) := by rw [← decide_not]; apply decide_eq_decide.2; omega
  have e3 : decide ((b.fIndexes.length : Int) > 3) = !decide ((b.fIndexes.length : Int) ≤ 3) := by rw [← decide_not]; apply decide_eq_decide.2; omega
  rw [e1, e2, e3]
  by_cases h8 : b.fTypes.length ≤ 8
  · rw [ref11_Valid_L1_spec hq h3 h8, ref11_Valid_L3_spec (show maxLen + 6 ≤ k by omega) h4]
    cases nameOk b.fName <;> cases decide (b.fKind ≥ 1) <;> cases decide (b.fKind ≤ 4) <;> cases decide ((b.fTypes.length : Int) < 1) <;> cases decide ((b.fTypes.length : Int) > 8) <;> cases decide ((b.fIndexes.length : Int) ≤ 3) <;> cases anyB (badType b.fTypes) b.fTypes.length <;> cases anyB (badIndex b.fTypes b.fIndexes) b.fIndexes.length <;> rfl
  · have e4 : decide ((b.fTypes.length : Int) > 8) = true := by simp; omega
    rw [e4]
    cases nameOk b.fName <;> cases decide (b.fKind ≥ 1) <;> cases decide (b.fKind ≤ 4) <;> cases decide ((b.fTypes.length : Int) < 1) <;> rfl

end Go.Sh
namespace Go.Sh
open Go.AE
set_option linter.unusedVariables false
set_option linter.unusedSimpArgs false
def outside (b : T_api_Base) (x : Int) : Bool := decide (x < 0) || decide (x ≥ (b.fTypes.length : Int))
def asked (b : T_api_Base) (l : List Int) : Int := bif !valid b then 100 else bif l.any (outside b) then 2 else 0

theorem dbd_asked_spec {k : Nat} {b : T_api_Base} {l : List Int} (hk : maxLen + 10 ≤ k) (hw : wf_T_api_Base b) (hl : l.length ≤ 1000) : dbd_asked k b l = some (asked b l) := by
  have e63 := maxLen_eq
  obtain ⟨k, rfl, hq⟩ := succ_of hk
  have hc : slices_ContainsFunc_int k l (fun j x0 => dbd_asked_1 j x0 b) = some (l.any (outside b)) := by
    refine containsFunc_int (by omega) (by omega) (fun k' e x hx => ?_)
    obtain ⟨k', rfl, _⟩ := succ_of (show 0 + 1 ≤ k' by omega)
    simp only [dbd_asked_1, outside]
    cases decide (x < 0) <;> cases decide (x ≥ (b.fTypes.length : Int)) <;> rfl
  simp only [dbd_asked, dbd_valid (show maxLen + 9 ≤ k by omega) hw, hc, Option.bind_some]
  unfold asked
  cases valid b <;> cases l.any (outside b) <;> rfl

/-- What is known of a base that may be asked. -/
theorem asked_zero {b : T_api_Base} {l : List Int} (h : asked b l = 0) : valid b = true ∧ ∀ x ∈ l, 0 ≤ x ∧ x < (b.fTypes.length : Int) := by
  unfold asked at h
  cases hv : valid b with
  | false => rw [hv] at h; simp at h
  | true =>
    rw [hv] at h
    cases ha : l.any (outside b) with
    | true => rw [ha] at h; simp at h
    | false =>
      refine ⟨rfl, fun x hx => ?_⟩
      rw [List.any_eq_false] at ha
      have := ha x hx
      unfold outside at this
      simp at this
      omega

theorem valid_up {b : T_api_Base} (h : valid b = true) : Up b.fTypes b.fTypes.length ∧ 1 ≤ b.fTypes.length ∧ b.fTypes.length ≤ 8 := by
  unfold valid typesOk at h
  simp only [Bool.and_eq_true, Bool.not_eq_true', Bool.or_eq_false_iff, decide_eq_false_iff_not] at h
  obtain ⟨_, _, _, ⟨⟨h1, h2⟩, h3⟩, _⟩ := h
  exact ⟨up_of _ (anyB_false.1 h3), by omega, by omega⟩

theorem dbd_way_L1_spec {b : T_api_Base} {n : Nat} {K : Int → List Int → Option (List Int)} (hu : Up b.fTypes n) (hlen : n ≤ b.fTypes.length) (hs : n ≤ 1000) : ∀ (d : Nat) (x : Int) (w : List Int) (m : Nat), x < (d : Int) → x < (n : Int) → d < m → w.length + d ≤ 1000 →
    ∃ y, dbd_way_L1 b K m x w = K y (w ++ (chain b.fTypes d x).reverse)
  | d, x, w, 0, _, _, hm, _ => by omega
  | d, x, w, m + 1, hd, hn, hm, hwl => by
    rw [dbd_way_L1]
    by_cases h0 : 0 ≤ x
    · have hx : x.toNat < b.fTypes.length := by omega
      have hp := hu x.toNat hx (by omega)
      cases d with
      | zero => omega
      | succ d =>
        simp only [show decide (x ≥ 0) = true by simp; omega, cond_true, idx_of h0 (show x < (b.fTypes.length : Int) by omega), Option.bind_some]
        rw [app_ok (by simp only [List.length_cons, List.length_nil, maxList]; omega)]
        simp only [Option.bind_some]
        obtain ⟨y, hy⟩ := dbd_way_L1_spec (K := K) hu hlen hs d (b.fTypes[x.toNat]).fParent (w ++ [x]) m (by omega) (by omega) (by omega) (by simp; omega)
        refine ⟨y, hy.trans ?_⟩
        rw [chain, if_pos h0, List.getElem?_eq_getElem hx]
        simp
    · rw [chain_neg (by omega)]
      refine ⟨x, ?_⟩
      simp only [show decide (x ≥ 0) = false by simp; omega, cond_false, List.reverse_nil, List.append_nil]

theorem dbd_way_spec {k : Nat} {b : T_api_Base} {n i : Nat} (hu : Up b.fTypes n) (hlen : n ≤ b.fTypes.length) (hs : n ≤ 500) (hi : i < n) (hk : 1000 ≤ k) : dbd_way k b (i : Int) = some (way b.fTypes i) := by
  obtain ⟨k, rfl, hq⟩ := succ_of (c := 999) (by omega : 999 + 1 ≤ k)
  obtain ⟨y, hy⟩ := dbd_way_L1_spec (K := fun y11 y12 => (((slices_Reverse_int k y12).bind (sameLen y12)).bind fun o14 => (some o14))) hu hlen (by omega) (i + 1) (i : Int) [] k (by omega) (by omega) (by omega) (by simp; omega)
  refine Eq.trans (show dbd_way (k + 1) b (i : Int) = dbd_way_L1 b (fun y11 y12 => (((slices_Reverse_int k y12).bind (sameLen y12)).bind fun o14 => (some o14))) k (i : Int) [] from rfl) (hy.trans ?_)
  rw [List.nil_append]
  obtain ⟨k, rfl, _⟩ := succ_of (show 0 + 1 ≤ k by omega)
  have hl := chain_len (ts := b.fTypes) (i + 1) (i : Int)
  have hble : Nat.ble (chain b.fTypes (i + 1) (i : Int)).length 9223372036854775807 = true := Nat.ble_eq_true_of_le (by omega)
  simp only [slices_Reverse_int, revInt, List.length_reverse, hble, cond_true, List.reverse_reverse, Option.bind_some, sameLen, if_pos]
  rfl

/-! Ways and depths. -/

def wayOf (b : T_api_Base) (t : Int) : List Int × Int := bif asked b [t] != 0 then ([], asked b [t]) else (way b.fTypes t.toNat, 0)

theorem dbd_Way_spec {k : Nat} {b : T_api_Base} {t : Int} (hk : maxLen + 11 ≤ k) (hw : wf_T_api_Base b) : dbd_Way k b t = some (wayOf b t) := by
  have e63 := maxLen_eq
  obtain ⟨k, rfl, hq⟩ := succ_of hk
  simp only [dbd_Way, dbd_asked_spec hq hw (show [t].length ≤ 1000 by simp), Option.bind_some]
  unfold wayOf
  by_cases h : asked b [t] = 0
  · obtain ⟨hv, hx⟩ := asked_zero h
    have ht := hx t (by simp)
    obtain ⟨hup, h1, h8⟩ := valid_up hv
    have := dbd_way_spec (k := k) hup (Nat.le_refl _) (by omega) (show t.toNat < b.fTypes.length by omega) (by omega)
    rw [show ((t.toNat : Nat) : Int) = t by omega] at this
    simp only [this, h, Option.bind_some]
    rfl
  · have : (asked b [t] != 0) = true := by simpa using h
    simp only [this, cond_true]

theorem way_last {ts : List T_api_Type} {n x : Nat} (hu : Up ts n) (hn : x < n) (hx : x < ts.length) : ∃ l, way ts x = l ++ [(x : Int)] := ⟨_, way_succ hu hn hx⟩

/-! Children. -/

def kids (ts : List T_api_Type) (t : Int) (i : Nat) : List Int := ((List.range i).filter (at' ts (fun x => x.fParent == t))).map Int.ofNat

theorem kids_succ {ts : List T_api_Type} {t : Int} {i : Nat} (hi : i < ts.length) : kids ts t (i + 1) = kids ts t i ++ (bif (ts[i]).fParent == t then [(i : Int)] else []) := by
  unfold kids
  rw [List.range_succ, List.filter_append, List.map_append]
  congr 1
  simp only [List.filter_cons, List.filter_nil, at'_eq hi]
  cases ((ts[i]).fParent == t) <;> rfl

theorem kids_len {ts : List T_api_Type} {t : Int} {i : Nat} : (kids ts t i).length ≤ i := by
  unfold kids
  rw [List.length_map]
  have := List.length_filter_le (at' ts (fun x => x.fParent == t)) (List.range i)
  rw [List.length_range] at this
  exact this

def kidsOf (b : T_api_Base) (t : Int) : List Int × Int := bif asked b [t] != 0 then ([], asked b [t]) else (kids b.fTypes t b.fTypes.length, 0)

theorem dbd_Children_spec {k : Nat} {b : T_api_Base} {t : Int} (hk : maxLen + 11 ≤ k) (hw : wf_T_api_Base b) : dbd_Children k b t = some (kidsOf b t) := by
  have e63 := maxLen_eq
  obtain ⟨k, rfl, hq⟩ := succ_of hk
  simp only [dbd_Children, dbd_asked_spec hq hw (show [t].length ≤ 1000 by simp), Option.bind_some]
  unfold kidsOf
  by_cases h : asked b [t] = 0
  · obtain ⟨hv, hx⟩ := asked_zero h
    obtain ⟨hup, h1, h8⟩ := valid_up hv
    simp only [h, bne_self_eq_false, cond_false]
    refine Eq.trans (loopS (L := fun m x s => dbd_Children_L1 b t _ m s x) (n := b.fTypes.length) (σ := kids b.fTypes t) (g := fun _ => false) (r := fun _ => none) (z := some (kids b.fTypes t b.fTypes.length, 0)) ?_ ?_ (by omega) rfl) ?_
    rotate_left 2
    · rw [scan_false _ _ (fun _ _ _ => rfl)]
    · intro m i hi _
      have hkl := kids_len (ts := b.fTypes) (t := t) (i := i)
      simp only [dbd_Children_L1, idx_at hi, wrap_next hi (show b.fTypes.length ≤ maxLen by omega), Option.bind_some, show decide ((i : Int) < (b.fTypes.length : Int)) = true by simp; exact hi, cond_true, cond_false, kids_succ hi]
      rw [app_ok (by simp only [List.length_cons, List.length_nil, maxList]; omega)]
      cases ((b.fTypes[i]).fParent == t) with
      | true => rfl
      | false => simp only [cond_false, List.append_nil]
    · intro m _
      simp only [dbd_Children_L1, show decide ((b.fTypes.length : Int) < (b.fTypes.length : Int)) = false by simp, cond_false]
  · have : (asked b [t] != 0) = true := by simpa using h
    simp only [this, cond_true]

/-! The laws' own. -/

theorem sameInts_refl {k : Nat} {l : List Int} (hk : l.length + 2 ≤ k) (hl : l.length ≤ maxLen) : ref01_SameInts k l l = some true := by
  obtain ⟨k, rfl, hq⟩ := succ_of (c := l.length + 1) hk
  simp only [ref01_SameInts, bne_self_eq_false, cond_false]
  refine Eq.trans (loop0 (L := fun m x => ref01_SameInts_L1 l l _ m x) (n := l.length) (g := fun _ => false) (r := fun _ => none) (z := some true) ?_ ?_ (by omega)) (scan_false _ _ (fun _ _ _ => rfl))
  · intro m i hi _
    simp only [ref01_SameInts_L1, idx_at hi, wrap_next hi hl, Option.bind_some, show decide ((i : Int) < (l.length : Int)) = true by simp; exact hi, cond_true, bne_self_eq_false, cond_false]
  · intro m _
    simp only [ref01_SameInts_L1, show decide ((l.length : Int) < (l.length : Int)) = false by simp, cond_false]

theorem small_total {k : Nat} {b : T_api_Base} (hk : maxLen + 2 ≤ k) (hw : wf_T_api_Base b) : ∃ r, law11_Small k b = some r := by
  obtain ⟨k, rfl, hq⟩ := succ_of hk
  have hl := hw.2.2.1.1
  refine ⟨_, Eq.trans (loop0 (L := fun m x => law11_Small_L1 b _ m x) (n := b.fTypes.length) (g := at' b.fTypes (fun t => decide ((t.fFields.length : Int) > 10))) (r := fun _ => some false) (z := some (decide ((b.fTypes.length : Int) ≤ 12) && decide ((b.fIndexes.length : Int) ≤ 6))) ?_ ?_ (by omega)) ((scan_map some (r := fun _ => false) (z := decide ((b.fTypes.length : Int) ≤ 12) && decide ((b.fIndexes.length : Int) ≤ 6)) _ _).symm)⟩
  · intro m i hi _
    simp only [law11_Small_L1, at'_eq hi, idx_at hi, wrap_next hi hl, Option.bind_some, show decide ((i : Int) < (b.fTypes.length : Int)) = true by simp; exact hi, cond_true]
  · intro m _
    simp only [law11_Small_L1, show decide ((b.fTypes.length : Int) < (b.fTypes.length : Int)) = false by simp, cond_false]
    cases decide ((b.fTypes.length : Int) ≤ 12) <;> cases decide ((b.fIndexes.length : Int) ≤ 6) <;> rfl

def shop : T_api_Base := match law11_shop 1 with | some b => b | none => ⟨[], 0, [], []⟩

theorem shop_eq {k : Nat} (hk : 1 ≤ k) : law11_shop k = some shop := by
  obtain ⟨k, rfl, _⟩ := succ_of (c := 0) hk
  rfl

theorem shop_wf : wf_T_api_Base shop := by
  have hS : ∀ s : Str, s.length ≤ 100 → wfS s := fun s h => by unfold wfS; rw [maxLen_eq]; omega
  have hI : ∀ n : Int, -100 ≤ n → n ≤ 100 → wfI .i64 n := fun n h h' => by
    unfold wfI Lit.wf
    simp only [Bool.and_eq_true, decide_eq_true_eq]
    have e1 : IntKind.i64.min = -9223372036854775808 := by decide
    have e2 : IntKind.i64.max = 9223372036854775807 := by decide
    rw [e1, e2]; omega
  have hL : ∀ {α : Type} {wf : α → Prop} (l : List α), l.length ≤ 100 → (∀ a ∈ l, wf a) → wfL wf l := fun l h h' => ⟨by rw [maxLen_eq]; omega, h'⟩
  refine ⟨hS _ (by decide), hI _ (by decide) (by decide), hL _ (by decide) ?_, hL _ (by decide) (fun a ha => by cases ha), trivial⟩
  intro t ht
  simp only [shop, law11_shop, List.mem_cons, List.not_mem_nil, or_false] at ht
  rcases ht with rfl | rfl | rfl | rfl <;> refine ⟨hS _ (by decide), hI _ (by decide) (by decide), hI _ (by decide) (by decide), hI _ (by decide) (by decide), hL _ (by decide) ?_, hI _ (by decide) (by decide), trivial, trivial, trivial⟩ <;> intro f hf <;> simp only [List.mem_cons, List.not_mem_nil, or_false] at hf <;> subst hf <;> exact ⟨hS _ (by decide), hI _ (by decide) (by decide), hI _ (by decide) (by decide), trivial⟩

theorem first_true {k : Nat} (hk : maxLen + 13 ≤ k) : law11_First k = some true := by
  have e63 := maxLen_eq
  obtain ⟨k, rfl, hq⟩ := succ_of hk
  have h1 : wayOf shop 2 = ([0, 1, 2], 0) := by decide +kernel
  have h2 : kidsOf shop 0 = ([1, 3], 0) := by decide +kernel
  simp only [law11_First, shop_eq (show 1 ≤ k by omega), dbd_Way_spec (show maxLen + 11 ≤ k by omega) shop_wf, dbd_Children_spec (show maxLen + 11 ≤ k by omega) shop_wf, h1, h2, Option.bind_some,
    sameInts_refl (l := [0, 1, 2]) (show [(0 : Int), 1, 2].length + 2 ≤ k by simp; omega) (by rw [e63]; simp), sameInts_refl (l := [1, 3]) (show [(1 : Int), 3].length + 2 ≤ k by simp; omega) (by rw [e63]; simp)]
  rfl


end Go.Sh
namespace Go.Sh
open Go.AE
set_option linter.unusedVariables false
set_option linter.unusedSimpArgs false
theorem anyB_ne {α : Type} [DecidableEq α] {l m : List α} (h : l.length = m.length) : anyB (fun i => !decide (l[i]? = m[i]?)) l.length = !decide (l = m) := by
  cases hd : decide (l = m) with
  | true =>
    obtain rfl := of_decide_eq_true hd
    exact anyB_false.2 (fun i hi => by simp)
  | false =>
    refine anyB_iff.2 ?_
    have hne := of_decide_eq_false hd
    refine Classical.byContradiction (fun hc => hne (List.ext_getElem? (fun i => ?_)))
    by_cases hi : i < l.length
    · cases hg : decide (l[i]? = m[i]?) with
      | true => exact of_decide_eq_true hg
      | false => exact absurd ⟨i, hi, by simp only [hg]; rfl⟩ hc
    · rw [List.getElem?_eq_none (by omega), List.getElem?_eq_none (by omega)]

theorem equal_loop {α : Type} [DecidableEq α] {l m : List α} (hlen : l.length = m.length) {L : Nat → Int → Option Bool} {z : Option Bool}
    (hL : ∀ q i (hi : i < l.length) (hi' : i < m.length), L (q + 1) (i : Int) = bif !decide (l[i] = m[i]) then some false else L q ((i + 1 : Nat) : Int)) (he : ∀ q, L (q + 1) (l.length : Int) = z) {k : Nat} (hk : l.length < k) :
    L k 0 = bif decide (l = m) then z else some false := by
  refine Eq.trans (loop0 (L := L) (n := l.length) (g := fun i => !decide (l[i]? = m[i]?)) (r := fun _ => some false) (z := z) ?_ (fun q _ => he q) hk) ?_
  · intro q i hi _
    rw [hL q i hi (by omega)]
    have : decide (l[i]? = m[i]?) = decide (l[i] = m[i]'(by omega)) := by
      rw [List.getElem?_eq_getElem hi, List.getElem?_eq_getElem (show i < m.length by omega)]
      apply decide_eq_decide.2
      constructor
      · intro h; exact Option.some.inj h
      · intro h; rw [h]
    simp only [this]
  · rw [scan_const, anyB_ne hlen]
    cases decide (l = m) <;> rfl

theorem eqSearch (x y : T_api_Search) : (x.fName == y.fName && (x.fType == y.fType && (x.fField == y.fField && (x.fSparse == y.fSparse && true)))) = decide (x = y) := by
  cases x; cases y
  rw [Bool.eq_iff_iff]
  simp only [Bool.and_eq_true, beq_iff_eq, decide_eq_true_eq, T_api_Search.mk.injEq, and_true]

theorem eqField (x y : T_api_Field) : (x.fName == y.fName && (x.fAt == y.fAt && (x.fBytes == y.fBytes && true))) = decide (x = y) := by
  cases x; cases y
  rw [Bool.eq_iff_iff]
  simp only [Bool.and_eq_true, beq_iff_eq, decide_eq_true_eq, T_api_Field.mk.injEq, and_true]

theorem eqType (x y : T_api_Type) : (x.fName == y.fName && (x.fParent == y.fParent && (x.fMin == y.fMin && (x.fSize == y.fSize && (x.fKey == y.fKey && (x.fUnique == y.fUnique && (x.fLast == y.fLast && decide (x.fFields = y.fFields)))))))) = decide (x = y) := by
  cases x; cases y
  rw [Bool.eq_iff_iff]
  simp only [Bool.and_eq_true, beq_iff_eq, decide_eq_true_eq, T_api_Type.mk.injEq]
  constructor
  · rintro ⟨a, b, c, d, e, f, g, h⟩; exact ⟨a, b, c, d, h, e, f, g⟩
  · rintro ⟨a, b, c, d, h, e, f, g⟩; exact ⟨a, b, c, d, e, f, g, h⟩

theorem len_bne {α β : Type} (l : List α) (m : List β) : ((l.length : Int) != (m.length : Int)) = !decide (l.length = m.length) := by
  cases h : decide (l.length = m.length) with
  | true => have := of_decide_eq_true h; simp [this]
  | false => have := of_decide_eq_false h; simp; omega

def sameB (a b : T_api_Base) : Bool := (a.fName == b.fName) && ((a.fKind == b.fKind) && (decide (a.fIndexes = b.fIndexes) && decide (a.fTypes = b.fTypes)))

theorem ref11_Same_L2_spec {k : Nat} {x y : T_api_Type} {K : Option Bool} (h : x.fFields.length = y.fFields.length) (hl : x.fFields.length ≤ maxLen) (hk : x.fFields.length < k) : ref11_Same_L2 (x, y) (fun _ => K) k 0 = bif decide (x.fFields = y.fFields) then K else some false := by
  refine equal_loop h (L := fun q i => ref11_Same_L2 (x, y) _ q i) (z := K) ?_ ?_ hk
  · intro q i hi hi'
    simp only [ref11_Same_L2, show decide ((i : Int) < (x.fFields.length : Int)) = true by simp; exact hi, cond_true, idx_at hi, idx_at hi', wrap_next hi hl, Option.bind_some, eqField]
  · intro q
    simp only [ref11_Same_L2, show decide ((x.fFields.length : Int) < (x.fFields.length : Int)) = false by simp, cond_false]

theorem ref11_Same_L1_spec {k : Nat} {a b : T_api_Base} {K : Option Bool} (h : a.fTypes.length = b.fTypes.length) (hw : wfL wf_T_api_Type a.fTypes) (hk : maxLen < k) : ref11_Same_L1 k a b (fun _ => K) k 0 = bif decide (a.fTypes = b.fTypes) then K else some false := by
  obtain ⟨hl, hw⟩ := hw
  refine equal_loop h (L := fun q i => ref11_Same_L1 k a b _ q i) (z := K) ?_ ?_ (by omega)
  · intro q i hi hi'
    have hf := (hw _ (List.getElem_mem hi)).2.2.2.2.1.1
    simp only [ref11_Same_L1, show decide ((i : Int) < (a.fTypes.length : Int)) = true by simp; exact hi, cond_true, idx_at hi, idx_at hi', wrap_next hi hl, Option.bind_some]
    generalize a.fTypes[i] = x at hf
    generalize b.fTypes[i] = y
    rw [← eqType, len_bne]
    by_cases hfl : x.fFields.length = y.fFields.length
    · rw [decide_eq_true hfl, ref11_Same_L2_spec hfl hf (by omega)]
      simp only [bne]
      cases (x.fName == y.fName) <;> cases (x.fParent == y.fParent) <;> cases (x.fMin == y.fMin) <;> cases (x.fSize == y.fSize) <;> cases (x.fKey == y.fKey) <;> cases (x.fUnique == y.fUnique) <;> cases (x.fLast == y.fLast) <;> cases decide (x.fFields = y.fFields) <;> rfl
    · rw [decide_eq_false hfl, decide_eq_false (show ¬ x.fFields = y.fFields from fun e => hfl (by rw [e]))]
      simp only [bne]
      cases (x.fName == y.fName) <;> cases (x.fParent == y.fParent) <;> cases (x.fMin == y.fMin) <;> cases (x.fSize == y.fSize) <;> cases (x.fKey == y.fKey) <;> cases (x.fUnique == y.fUnique) <;> cases (x.fLast == y.fLast) <;> rfl
  · intro q
    simp only [ref11_Same_L1, show decide ((a.fTypes.length : Int) < (a.fTypes.length : Int)) = false by simp, cond_false]

theorem ref11_Same_L3_spec {k : Nat} {a b : T_api_Base} (h : a.fIndexes.length = b.fIndexes.length) (hl : a.fIndexes.length ≤ maxLen) (hk : a.fIndexes.length < k) : ref11_Same_L3 a b (fun _ => some true) k 0 = some (decide (a.fIndexes = b.fIndexes)) := by
  refine Eq.trans (equal_loop h (L := fun q i => ref11_Same_L3 a b _ q i) (z := some true) ?_ ?_ hk) ?_
  · intro q i hi hi'
    simp only [ref11_Same_L3, show decide ((i : Int) < (a.fIndexes.length : Int)) = true by simp; exact hi, cond_true, idx_at hi, idx_at hi', wrap_next hi hl, Option.bind_some, eqSearch]
  · intro q
    simp only [ref11_Same_L3, show decide ((a.fIndexes.length : Int) < (a.fIndexes.length : Int)) = false by simp, cond_false]
  · cases decide (a.fIndexes = b.fIndexes) <;> rfl

theorem ref11_Same_spec {k : Nat} {a b : T_api_Base} (hk : maxLen + 8 ≤ k) (hw : wf_T_api_Base a) : ref11_Same k a b = some (sameB a b) := by
  obtain ⟨k, rfl, hq⟩ := succ_of hk
  have h3 := hw.2.2.1
  have h4 := hw.2.2.2.1.1
  simp only [ref11_Same, len_bne]
  unfold sameB
  by_cases h1 : a.fTypes.length = b.fTypes.length
  · by_cases h2 : a.fIndexes.length = b.fIndexes.length
    · rw [decide_eq_true h1, decide_eq_true h2, ref11_Same_L1_spec h1 h3 (by omega), ref11_Same_L3_spec h2 h4 (by omega)]
      simp only [bne]
      cases (a.fName == b.fName) <;> cases (a.fKind == b.fKind) <;> cases decide (a.fIndexes = b.fIndexes) <;> cases decide (a.fTypes = b.fTypes) <;> rfl
    · rw [decide_eq_true h1, decide_eq_false h2, decide_eq_false (show ¬ a.fIndexes = b.fIndexes from fun e => h2 (by rw [e]))]
      simp only [bne]
      cases (a.fName == b.fName) <;> cases (a.fKind == b.fKind) <;> rfl
  · rw [decide_eq_false h1, decide_eq_false (show ¬ a.fTypes = b.fTypes from fun e => h1 (by rw [e]))]
    simp only [bne]
    cases (a.fName == b.fName) <;> cases (a.fKind == b.fKind) <;> cases decide (a.fIndexes = b.fIndexes) <;> rfl

theorem sameB_refl (a : T_api_Base) : sameB a a = true := by
  unfold sameB
  simp


end Go.Sh
namespace Go.Sh
open Go.AE
set_option linter.unusedVariables false
set_option linter.unusedSimpArgs false

def posI (l : List Int) (y : Int) : Int := pos l (fun x => x == y)

theorem posI_flip (l : List Int) (y : Int) : pos l (fun x => y == x) = posI l y := by
  unfold posI
  congr 1
  funext x
  rw [Bool.eq_iff_iff]
  simp only [beq_iff_eq]
  exact eq_comm

theorem index_intI {k : Nat} {l : List Int} {y : Int} (hk : l.length + 2 ≤ k) (hn : l.length ≤ maxLen) : slices_Index_int k l y = some (posI l y) := by
  rw [index_int hk hn, posI_flip]

theorem place_spec {k : Nat} {l : List Int} {y : Int} (hk : l.length + 2 ≤ k) (hn : l.length ≤ maxLen) : ref11_place k l y = some (posI l y) := by
  obtain ⟨k, rfl, hq⟩ := succ_of (c := l.length + 1) hk
  exact indexFunc_gen (f := fun x => some (x == y)) (fun x _ => rfl) (L := fun m x => ref11_place_L1 l y _ m x) (fun m x => rfl) rfl hn (by omega)

theorem posI_cases (l : List Int) (y : Int) : ((y ∉ l) ∧ posI l y = -1) ∨ ∃ j, ∃ h : j < l.length, l[j] = y ∧ (∀ i (h : i < l.length), i < j → l[i] ≠ y) ∧ posI l y = (j : Int) := by
  rcases pos_cases l (fun x => x == y) with ⟨h1, h2⟩ | ⟨j, h1, h2, h3, h4⟩
  · refine .inl ⟨fun hm => ?_, h2⟩
    obtain ⟨i, hi, rfl⟩ := List.getElem_of_mem hm
    have := h1 i hi
    simp at this
  · exact .inr ⟨j, h1, by simpa using h2, fun i hi hij => by simpa using h3 i hi hij, h4⟩

theorem posI_none {l : List Int} {y : Int} (h : y ∉ l) : posI l y = -1 := by
  rcases posI_cases l y with ⟨_, h2⟩ | ⟨j, h1, h2, _, _⟩
  · exact h2
  · exact absurd (h2 ▸ List.getElem_mem h1) h

theorem posI_mem {l : List Int} {y : Int} (h : y ∈ l) : ∃ j, ∃ h : j < l.length, l[j] = y ∧ (∀ i (h : i < l.length), i < j → l[i] ≠ y) ∧ posI l y = (j : Int) := by
  rcases posI_cases l y with ⟨h1, _⟩ | h2
  · exact absurd h h1
  · exact h2

theorem posI_at {l : List Int} {y : Int} {j : Nat} (h : j < l.length) (he : l[j] = y) (hb : ∀ i (h : i < l.length), i < j → l[i] ≠ y) : posI l y = (j : Int) :=
  pos_eq h (by simpa using he) (fun i hi hij => by simpa using hb i hi hij)

theorem posI_neg {l : List Int} {y : Int} : posI l y < 0 ↔ y ∉ l := by
  constructor
  · intro h hm
    obtain ⟨j, _, _, _, e⟩ := posI_mem hm
    omega
  · intro h
    rw [posI_none h]; omega

theorem posI_take {l : List Int} {y : Int} {i : Nat} (h : y ∈ l.take i) : posI l y = posI (l.take i) y := by
  obtain ⟨j, hj, he, hb, hp⟩ := posI_mem h
  have hj2 : j < l.length := by rw [List.length_take] at hj; omega
  have e1 : (l.take i)[j] = l[j] := by simp
  rw [hp]
  refine posI_at hj2 (by rw [← e1]; exact he) (fun q hq hqj => ?_)
  have h2 := hb q (by omega) hqj
  have e2 : (l.take i)[q]'(by omega) = l[q] := by simp
  rw [← e2]
  exact h2

/-! Which numbers are a part. -/

def prev (l : List Int) (i : Nat) : Int := match l[i - 1]? with | some x => x | none => 0

def badPart (b : T_api_Base) (types : List Int) (i : Nat) : Bool :=
  at' types (fun t => (outside b t || (!Nat.beq i 0 && decide (t ≤ prev types i))) || (match idx b.fTypes t with | none => false | some x => decide (x.fParent ≥ 0) && decide (posI (types.take i) x.fParent < 0))) i

def isPartB (b : T_api_Base) (types : List Int) : Bool := !anyB (badPart b types) types.length && decide ((types.length : Int) > 0)

theorem ref11_isType_spec {k : Nat} {b : T_api_Base} {t : Int} (hk : 1 ≤ k) : ref11_isType k b t = some (!outside b t) := by
  obtain ⟨k, rfl, _⟩ := succ_of (c := 0) hk
  simp only [ref11_isType, outside]
  have e1 : decide (t ≥ 0) = !decide (t < 0) := by rw [← decide_not]; apply decide_eq_decide.2; omega
  have e2 : decide (t < (b.fTypes.length : Int)) = !decide (t ≥ (b.fTypes.length : Int)) := by rw [← decide_not]; apply decide_eq_decide.2; omega
  rw [e1, e2]
  cases decide (t < 0) <;> cases decide (t ≥ (b.fTypes.length : Int)) <;> rfl

theorem prev_eq {l : List Int} {i : Nat} (h : i < l.length) (h0 : 0 < i) : prev l i = l[i - 1]'(by omega) := by
  unfold prev
  rw [List.getElem?_eq_getElem (show i - 1 < l.length by omega)]

theorem wrap_prev {i n : Nat} (h : i < n) (h0 : 0 < i) (hn : n ≤ maxLen) : Go.IntKind.wrap .i64 ((i : Int) - 1) = ((i - 1 : Nat) : Int) := by
  have e63 := maxLen_eq
  rw [wrap_in (by omega) (by omega)]
  omega

theorem ref11_IsPart_spec {k : Nat} {b : T_api_Base} {types : List Int} (hk : types.length + 5 ≤ k) (hl : types.length ≤ maxLen) : ref11_IsPart k b types = some (isPartB b types) := by
  obtain ⟨k, rfl, hq⟩ := succ_of (c := types.length + 4) hk
  unfold ref11_IsPart isPartB
  refine Eq.trans (loop0 (L := fun m x => ref11_IsPart_L1 k b types _ m x) (n := types.length) (g := badPart b types) (r := fun _ => some false) (z := some (decide ((types.length : Int) > 0))) ?_ ?_ (by omega)) ?_
  rotate_left 2
  · rw [scan_const]
    cases anyB (badPart b types) types.length <;> rfl
  · intro m i hi _
    have htl : (types.take i).length ≤ types.length := by rw [List.length_take]; omega
    simp only [ref11_IsPart_L1, badPart, at'_eq hi, idx_at hi, wrap_next hi hl, Option.bind_some, show decide ((i : Int) < (types.length : Int)) = true by simp; exact hi, cond_true, ref11_isType_spec (show 1 ≤ k by omega), cut_take (show i ≤ types.length by omega)]
    cases ho : outside b types[i] with
    | true => rfl
    | false =>
      have hin : 0 ≤ types[i] ∧ types[i] < (b.fTypes.length : Int) := by
        unfold outside at ho
        simp at ho
        omega
      rw [idx_of hin.1 hin.2]
      generalize b.fTypes[(types[i]).toNat]'_ = x
      simp only [place_spec (show (types.take i).length + 2 ≤ k by omega) (show (types.take i).length ≤ maxLen by omega), Option.bind_some, Bool.not_false, Bool.not_true, cond_false, Bool.false_or]
      by_cases h0 : i = 0
      · subst h0
        simp only [show decide (((0 : Nat) : Int) > 0) = false from rfl, show Nat.beq 0 0 = true from rfl, cond_false, Option.bind_some, Bool.not_true, Bool.false_and, Bool.false_or]
        cases decide (x.fParent ≥ 0) <;> cases decide (posI (types.take 0) x.fParent < 0) <;> rfl
      · have hb : Nat.beq i 0 = false := by
          cases hbb : Nat.beq i 0 with
          | false => rfl
          | true => exact absurd (Nat.eq_of_beq_eq_true hbb) h0
        have hi1 : i - 1 < types.length := by omega
        simp only [show decide ((i : Int) > 0) = true by simp; omega, hb, cond_true, wrap_prev hi (by omega) hl, idx_at hi1, Option.bind_some, Bool.not_false, Bool.true_and, prev_eq hi (by omega)]
        cases decide (types[i] ≤ types[i - 1]) <;> cases decide (x.fParent ≥ 0) <;> cases decide (posI (types.take i) x.fParent < 0) <;> rfl
  · intro m _
    simp only [ref11_IsPart_L1, show decide ((types.length : Int) < (types.length : Int)) = false by simp, cond_false]

/-! The part. -/

def newType (b : T_api_Base) (types : List Int) (t : Int) : T_api_Type := match idx b.fTypes t with | some x => { x with fParent := posI types x.fParent } | none => ⟨[], 0, 0, 0, [], 0, false, false⟩
def partTypes (b : T_api_Base) (types : List Int) : List T_api_Type := types.map (newType b types)
def newIndex (types : List Int) (x : T_api_Search) : Option T_api_Search := bif decide (posI types x.fType ≥ 0) then some { x with fType := posI types x.fType } else none
def partIndexes (b : T_api_Base) (types : List Int) : List T_api_Search := b.fIndexes.filterMap (newIndex types)
def part (b : T_api_Base) (types : List Int) : T_api_Base := { fName := b.fName, fKind := b.fKind, fTypes := partTypes b types, fIndexes := partIndexes b types }
def noBase : T_api_Base := { fName := [], fKind := 0, fTypes := ([] : List T_api_Type), fIndexes := ([] : List T_api_Search) }
def partOf (b : T_api_Base) (types : List Int) : T_api_Base × Int := bif !valid b then (noBase, 100) else bif !isPartB b types then (noBase, 2) else (part b types, 0)

theorem valid_parts {b : T_api_Base} (hv : valid b = true) : nameOk b.fName = true ∧ typesOk b.fTypes = true ∧ indexesOk b.fTypes b.fIndexes = true := by
  unfold valid at hv
  simp only [Bool.and_eq_true] at hv
  exact ⟨hv.1, hv.2.2.2.1, hv.2.2.2.2⟩

theorem types_fine {ts : List T_api_Type} (h : typesOk ts = true) {i : Nat} (hi : i < ts.length) : badType ts i = false := by
  unfold typesOk at h
  simp only [Bool.and_eq_true, Bool.not_eq_true'] at h
  exact anyB_false.1 h.2 i hi

theorem type_facts {ts : List T_api_Type} (h : typesOk ts = true) {i : Nat} (hi : i < ts.length) : typeOk ts[i] = true ∧ dupType ts i = false ∧ (i = 0 → rootBad ts[i] = false) ∧ (0 < i → (ts[i]).fParent ∈ before ts i) ∧ (way ts i).length ≤ 5 := by
  have hb := types_fine h hi
  rw [badType, at'_eq hi] at hb
  simp only [Bool.or_eq_false_iff] at hb
  obtain ⟨⟨h1, h2⟩, h3, h4⟩ := hb
  refine ⟨by simpa using h1, h2, fun e => ?_, fun e => ?_, by simp at h4; omega⟩
  · subst e
    simpa using h3
  · have hbq : Nat.beq i 0 = false := by
      cases hbb : Nat.beq i 0 with
      | false => rfl
      | true => have := Nat.eq_of_beq_eq_true hbb; omega
    rw [hbq, cond_false, Bool.not_eq_false', List.any_eq_true] at h3
    obtain ⟨z, hz, he⟩ := h3
    have : (ts[i]).fParent = z := by simpa using he
    rw [this]; exact hz

theorem root_parent {t : T_api_Type} (h : rootBad t = false) : t.fParent = -1 := by
  unfold rootBad at h
  simp only [Bool.or_eq_false_iff] at h
  simpa using h.1

theorem before_mem {ts : List T_api_Type} {i : Nat} (hu : Up ts i) {y : Int} (h : y ∈ before ts i) : 0 ≤ y ∧ y < (i : Int) := by
  cases i with
  | zero => cases h
  | succ q =>
    have := chain_lt hu (q + 1) q (by omega) y h
    omega

/-- A parent, in a base that is valid. -/
theorem parent_facts {b : T_api_Base} (hv : valid b = true) {i : Nat} (hi : i < b.fTypes.length) : (i = 0 → (b.fTypes[i]).fParent = -1) ∧ (0 < i → 0 ≤ (b.fTypes[i]).fParent ∧ (b.fTypes[i]).fParent < (i : Int)) := by
  obtain ⟨_, ht, _⟩ := valid_parts hv
  obtain ⟨_, _, h3, h4, _⟩ := type_facts ht hi
  obtain ⟨hup, _, _⟩ := valid_up hv
  exact ⟨fun e => root_parent (h3 e), fun e => before_mem (hup.mono (by omega)) (h4 e)⟩

theorem fields_short {t : T_api_Type} (h : typeOk t = true) : t.fFields.length ≤ 5 := by
  unfold typeOk fieldsOk at h
  simp only [Bool.and_eq_true, Bool.not_eq_true', Bool.or_eq_false_iff, Bool.not_eq_false'] at h
  have := h.1.2.2.2.2.2
  simp at this
  omega

theorem clone_Field {k : Nat} {l : List T_api_Field} (hk : 1 ≤ k) (hl : l.length ≤ 1000) : slices_Clone_Field k l = some l := by
  obtain ⟨k, rfl, _⟩ := succ_of (c := 0) hk
  cases l with
  | nil => rfl
  | cons y l =>
    simp only [slices_Clone_Field, slices_Clone_Field_c]
    rw [app_ok (by simp only [List.length_nil, maxList, Nat.zero_add]; omega)]
    rfl

theorem dbd_copied_spec {k : Nat} {t : T_api_Type} {p : Int} (hk : 2 ≤ k) (hl : t.fFields.length ≤ 1000) : dbd_copied k t p = some { t with fParent := p } := by
  obtain ⟨k, rfl, _⟩ := succ_of (c := 1) hk
  simp only [dbd_copied, clone_Field (show 1 ≤ k by omega) hl, Option.bind_some]

def badPartD (b : T_api_Base) (types : List Int) (i : Nat) : Bool :=
  at' types (fun t => bif Nat.beq i 0 then t != 0 else (decide (t ≤ prev types i) || decide (posI (types.take i) (match idx b.fTypes t with | some x => x.fParent | none => -1) < 0))) i

theorem badPart_eq {b : T_api_Base} (hv : valid b = true) {types : List Int} (hin : ∀ t ∈ types, 0 ≤ t ∧ t < (b.fTypes.length : Int)) {i : Nat} (hi : i < types.length) : badPartD b types i = badPart b types i := by
  rw [badPartD, badPart, at'_eq hi, at'_eq hi]
  have ht := hin _ (List.getElem_mem hi)
  have ho : outside b types[i] = false := by unfold outside; simp; omega
  have hp := parent_facts hv (show (types[i]).toNat < b.fTypes.length by omega)
  rw [ho, idx_of ht.1 ht.2]
  by_cases h0 : i = 0
  · subst h0
    simp only [show Nat.beq 0 0 = true from rfl, cond_true, Bool.not_true, Bool.false_and, Bool.or_false, Bool.false_or]
    have hpn : decide (posI (types.take 0) (b.fTypes[(types[0]).toNat]'(by omega)).fParent < 0) = true := decide_eq_true (show (-1 : Int) < 0 by decide)
    by_cases ht0 : types[0] = 0
    · have := hp.1 (by omega)
      have e0 : decide ((b.fTypes[(types[0]).toNat]'(by omega)).fParent ≥ 0) = false := by simp; omega
      have e1 : (types[0] != 0) = false := by simp [ht0]
      rw [e0, e1]; rfl
    · have h1 := (hp.2 (by omega)).1
      have e1 : (types[0] != 0) = true := by simpa using ht0
      have e2 : decide ((b.fTypes[(types[0]).toNat]'(by omega)).fParent ≥ 0) = true := by simp; omega
      rw [e1, e2, hpn]; rfl
  · have hb : Nat.beq i 0 = false := by
      cases hbb : Nat.beq i 0 with
      | false => rfl
      | true => exact absurd (Nat.eq_of_beq_eq_true hbb) h0
    simp only [hb, cond_false, Bool.not_false, Bool.true_and, Bool.false_or]
    rw [prev_eq hi (by omega)]
    by_cases hle : types[i] ≤ types[i - 1]
    · rw [decide_eq_true hle]; rfl
    · rw [decide_eq_false hle]
      have hpr := hin _ (List.getElem_mem (show i - 1 < types.length by omega))
      have h1 := (hp.2 (by omega)).1
      have e2 : decide ((b.fTypes[(types[i]).toNat]'(by omega)).fParent ≥ 0) = true := by simp; omega
      rw [e2]; rfl

theorem partIndexes_L2 {b : T_api_Base} {types : List Int} {i : Nat} (hi : i < b.fIndexes.length) : (b.fIndexes.take (i + 1)).filterMap (newIndex types) = (b.fIndexes.take i).filterMap (newIndex types) ++ (bif decide (posI types (b.fIndexes[i]).fType ≥ 0) then [{ b.fIndexes[i] with fType := posI types (b.fIndexes[i]).fType }] else []) := by
  rw [List.take_add_one, List.getElem?_eq_getElem hi, List.filterMap_append]
  congr 1
  simp only [Option.toList_some, List.filterMap_cons, List.filterMap_nil, newIndex]
  cases decide (posI types (b.fIndexes[i]).fType ≥ 0) <;> rfl

theorem filterMap_len {α β : Type} (f : α → Option β) : ∀ l : List α, (l.filterMap f).length ≤ l.length
  | [] => Nat.le_refl 0
  | x :: l => by
    have := filterMap_len f l
    rw [List.filterMap_cons]
    cases f x with
    | none => simp only [List.length_cons]; omega
    | some y => simp only [List.length_cons]; omega

theorem dbd_Part_L2_spec {k : Nat} {b : T_api_Base} {types : List Int} {K : List T_api_Search → Option (T_api_Base × Int)} (hk : 1010 ≤ k) (hl : types.length ≤ 1000) (hx : b.fIndexes.length ≤ 1000) :
    dbd_Part_L2 k b types (fun _ y => K y) k 0 [] = K (partIndexes b types) := by
  have e63 := maxLen_eq
  refine Eq.trans (loopS (L := fun m x s => dbd_Part_L2 k b types _ m x s) (n := b.fIndexes.length) (σ := fun i => (b.fIndexes.take i).filterMap (newIndex types)) (g := fun _ => false) (r := fun _ => none) (z := K (partIndexes b types)) ?_ ?_ (by omega) rfl) (scan_false _ _ (fun _ _ _ => rfl))
  · intro m i hi _
    have hfl := filterMap_len (newIndex types) (b.fIndexes.take i)
    rw [List.length_take] at hfl
    simp only [dbd_Part_L2, idx_at hi, wrap_next hi (show b.fIndexes.length ≤ maxLen by omega), Option.bind_some, show decide ((i : Int) < (b.fIndexes.length : Int)) = true by simp; exact hi, cond_true, cond_false, index_intI (show types.length + 2 ≤ k by omega) (show types.length ≤ maxLen by omega), partIndexes_L2 hi]
    cases decide (posI types (b.fIndexes[i]).fType ≥ 0) with
    | true =>
      simp only [cond_true]
      rw [app_ok (by simp only [List.length_cons, List.length_nil, maxList]; omega)]
      rfl
    | false => simp only [cond_false, List.append_nil]
  · intro m _
    simp only [dbd_Part_L2, show decide ((b.fIndexes.length : Int) < (b.fIndexes.length : Int)) = false by simp, cond_false, List.take_length]
    rfl

theorem ref11_Part_L2_spec {k : Nat} {b : T_api_Base} {types : List Int} {K : List T_api_Search → Option (T_api_Base × Int)} (hk : 1010 ≤ k) (hl : types.length ≤ 1000) (hx : b.fIndexes.length ≤ 1000) :
    ref11_Part_L2 k b types (fun _ y => K y) k 0 [] = K (partIndexes b types) := by
  have e63 := maxLen_eq
  refine Eq.trans (loopS (L := fun m x s => ref11_Part_L2 k b types _ m x s) (n := b.fIndexes.length) (σ := fun i => (b.fIndexes.take i).filterMap (newIndex types)) (g := fun _ => false) (r := fun _ => none) (z := K (partIndexes b types)) ?_ ?_ (by omega) rfl) (scan_false _ _ (fun _ _ _ => rfl))
  · intro m i hi _
    have hfl := filterMap_len (newIndex types) (b.fIndexes.take i)
    rw [List.length_take] at hfl
    simp only [ref11_Part_L2, idx_at hi, wrap_next hi (show b.fIndexes.length ≤ maxLen by omega), Option.bind_some, show decide ((i : Int) < (b.fIndexes.length : Int)) = true by simp; exact hi, cond_true, cond_false, place_spec (show types.length + 2 ≤ k by omega) (show types.length ≤ maxLen by omega), partIndexes_L2 hi]
    cases decide (posI types (b.fIndexes[i]).fType ≥ 0) with
    | true =>
      simp only [cond_true]
      rw [app_ok (by simp only [List.length_cons, List.length_nil, maxList]; omega)]
      rfl
    | false => simp only [cond_false, List.append_nil]
  · intro m _
    simp only [ref11_Part_L2, show decide ((b.fIndexes.length : Int) < (b.fIndexes.length : Int)) = false by simp, cond_false, List.take_length]
    rfl

theorem newType_dbd {b : T_api_Base} (hv : valid b = true) {types : List Int} (hin : ∀ t ∈ types, 0 ≤ t ∧ t < (b.fTypes.length : Int)) {i : Nat} (hi : i < types.length) (hg : badPartD b types i = false) (h : (types[i]).toNat < b.fTypes.length) :
    { b.fTypes[(types[i]).toNat] with fParent := posI (types.take i) (b.fTypes[(types[i]).toNat]).fParent } = newType b types types[i] := by
  have ht := hin _ (List.getElem_mem hi)
  unfold newType
  rw [idx_of ht.1 ht.2]
  simp only
  rw [badPartD, at'_eq hi, idx_of ht.1 ht.2] at hg
  by_cases h0 : i = 0
  · subst h0
    simp only [show Nat.beq 0 0 = true from rfl, cond_true, bne_eq_false_iff_eq] at hg
    have hp := (parent_facts hv h).1 (by omega)
    have hne : (-1 : Int) ∉ types := fun hm => by have := hin _ hm; omega
    rw [hp, posI_none hne]
    rfl
  · have hb : Nat.beq i 0 = false := by
      cases hbb : Nat.beq i 0 with
      | false => rfl
      | true => exact absurd (Nat.eq_of_beq_eq_true hbb) h0
    rw [hb, cond_false, Bool.or_eq_false_iff] at hg
    have hg2 := hg.2
    simp only [decide_eq_false_iff_not] at hg2
    have hm : (b.fTypes[(types[i]).toNat]).fParent ∈ types.take i := by
      refine Classical.byContradiction (fun hc => hg2 (posI_neg.2 hc))
    rw [posI_take hm]

theorem dbd_Part_spec {k : Nat} {b : T_api_Base} {types : List Int} (hk : maxLen + 20 ≤ k) (hw : wf_T_api_Base b) (hl : types.length ≤ 1000) : dbd_Part k b types = some (partOf b types) := by
  have e63 := maxLen_eq
  obtain ⟨k, rfl, hq⟩ := succ_of hk
  simp only [dbd_Part, dbd_asked_spec (show maxLen + 10 ≤ k by omega) hw hl, Option.bind_some]
  unfold partOf
  cases hv : valid b with
  | false =>
    have : asked b types = 100 := by unfold asked; rw [hv]; rfl
    rw [this]; rfl
  | true =>
    simp only [Bool.not_true, cond_false]
    by_cases hout : types.any (outside b) = true
    · have h2 : asked b types = 2 := by unfold asked; rw [hv, hout]; rfl
      have h3 : isPartB b types = false := by
        unfold isPartB
        have : anyB (badPart b types) types.length = true := by
          rw [← anyB_any] at hout
          obtain ⟨i, hi, hg⟩ := anyB_iff.1 hout
          refine anyB_iff.2 ⟨i, hi, ?_⟩
          rw [at'_eq hi] at hg
          rw [badPart, at'_eq hi, hg]; rfl
        rw [this]; rfl
      rw [h2, h3]; rfl
    · have hout' : types.any (outside b) = false := by simpa using hout
      have h0 : asked b types = 0 := by unfold asked; rw [hv, hout']; rfl
      obtain ⟨_, hin⟩ := asked_zero h0
      have hx : b.fIndexes.length ≤ 1000 := by
        obtain ⟨_, _, h3⟩ := valid_parts hv
        unfold indexesOk at h3
        simp only [Bool.and_eq_true, decide_eq_true_eq] at h3
        omega
      simp only [h0, bne_self_eq_false, cond_false]
      refine Eq.trans (loopS (L := fun m x s => dbd_Part_L1 k b types _ m x s) (n := types.length) (σ := fun i => (types.take i).map (newType b types)) (g := badPartD b types) (r := fun _ => some (noBase, 2)) (z := some (bif ((types.length : Int) == 0) then (noBase, 2) else (part b types, 0))) ?_ ?_ (by omega) rfl) ?_
      rotate_left 2
      · rw [scan_const]
        have : anyB (badPartD b types) types.length = anyB (badPart b types) types.length := anyB_congr (fun i hi _ => badPart_eq hv hin hi)
        rw [this]
        unfold isPartB
        cases anyB (badPart b types) types.length with
        | true => rfl
        | false =>
          by_cases hz : types.length = 0
          · have e1 : ((types.length : Int) == 0) = true := by rw [beq_iff_eq]; omega
            have e2 : decide ((types.length : Int) > 0) = false := decide_eq_false (by omega)
            rw [e1, e2]; rfl
          · have e1 : ((types.length : Int) == 0) = false := by rw [beq_eq_false_iff_ne]; omega
            have e2 : decide ((types.length : Int) > 0) = true := decide_eq_true (by omega)
            rw [e1, e2]; rfl
      · intro m i hi _
        have ht := hin _ (List.getElem_mem hi)
        have htn : (types[i]).toNat < b.fTypes.length := by omega
        have hfs := fields_short (type_facts (valid_parts hv).2.1 htn).1
        have htl : (types.take i).length ≤ 1000 := by rw [List.length_take]; omega
        simp only [dbd_Part_L1, idx_at hi, wrap_next hi (show types.length ≤ maxLen by omega), Option.bind_some, show decide ((i : Int) < (types.length : Int)) = true by simp; exact hi, cond_true, cut_take (show i ≤ types.length by omega), idx_of ht.1 ht.2, index_intI (show (types.take i).length + 2 ≤ k by omega) (show (types.take i).length ≤ maxLen by omega), dbd_copied_spec (show 2 ≤ k by omega) (show (b.fTypes[(types[i]).toNat]).fFields.length ≤ 1000 by omega)]
        have hcond : (bif ((i : Int) == 0) then (bif (types[i] != 0) then (some (true)) else (bif (decide ((i : Int) > 0)) then ((idx types (Go.IntKind.wrap .i64 ((i : Int) - 1))).bind fun v24 => (bif (decide (types[i] ≤ v24)) then (some (true)) else (some ((decide (posI (types.take i) (b.fTypes[(types[i]).toNat]).fParent < 0)))))) else (some (false)))) else (bif (decide ((i : Int) > 0)) then ((idx types (Go.IntKind.wrap .i64 ((i : Int) - 1))).bind fun v25 => (bif (decide (types[i] ≤ v25)) then (some (true)) else (some ((decide (posI (types.take i) (b.fTypes[(types[i]).toNat]).fParent < 0)))))) else (some (false)))) = some (badPartD b types i) := by
          rw [badPartD, at'_eq hi, idx_of ht.1 ht.2]
          by_cases h0 : i = 0
          · subst h0
            simp only [show (((0 : Nat) : Int) == 0) = true from rfl, show Nat.beq 0 0 = true from rfl, show decide (((0 : Nat) : Int) > 0) = false from rfl, cond_true, cond_false]
            cases (types[0] != 0) <;> rfl
          · have hb : Nat.beq i 0 = false := by
              cases hbb : Nat.beq i 0 with
              | false => rfl
              | true => exact absurd (Nat.eq_of_beq_eq_true hbb) h0
            have hi1 : i - 1 < types.length := by omega
            simp only [show ((i : Int) == 0) = false by simp; omega, hb, show decide ((i : Int) > 0) = true by simp; omega, cond_true, cond_false, wrap_prev hi (by omega) (show types.length ≤ maxLen by omega), idx_at hi1, Option.bind_some, prev_eq hi (by omega)]
            cases decide (types[i] ≤ types[i - 1]) <;> rfl
        rw [hcond]
        simp only [Option.bind_some]
        cases hg : badPartD b types i with
        | true => rfl
        | false =>
          simp only [cond_false]
          rw [newType_dbd hv hin hi hg htn]
          rw [app_ok (by simp only [List.length_map, List.length_cons, List.length_nil, maxList]; omega)]
          simp only [Option.bind_some]
          congr 1
          rw [List.take_add_one, List.getElem?_eq_getElem hi, List.map_append]
          rfl
      · intro m _
        simp only [dbd_Part_L1, show decide ((types.length : Int) < (types.length : Int)) = false by simp, cond_false, List.take_length]
        by_cases hz : ((types.length : Int) == 0) = true
        · rw [hz]; rfl
        · have hz' : ((types.length : Int) == 0) = false := by simpa using hz
          rw [hz']
          simp only [cond_false]
          rw [dbd_Part_L2_spec (K := fun y => some ({ fName := b.fName, fKind := b.fKind, fTypes := types.map (newType b types), fIndexes := y }, 0)) (by omega) hl hx]
          rfl

/-- What 'isPartB' says. -/
theorem isPart_facts {b : T_api_Base} {types : List Int} (h : isPartB b types = true) : 0 < types.length ∧ (∀ i (hi : i < types.length), 0 ≤ types[i] ∧ types[i] < (b.fTypes.length : Int)) ∧ (∀ i (hi : i < types.length), 0 < i → types[i - 1]'(by omega) < types[i]) ∧
    (∀ i (hi : i < types.length) (ht : (types[i]).toNat < b.fTypes.length), 0 ≤ (b.fTypes[(types[i]).toNat]).fParent → (b.fTypes[(types[i]).toNat]).fParent ∈ types.take i) := by
  unfold isPartB at h
  simp only [Bool.and_eq_true, Bool.not_eq_true', decide_eq_true_eq] at h
  obtain ⟨h1, h2⟩ := h
  have hb := fun i hi => anyB_false.1 h1 i hi
  have hin : ∀ i (hi : i < types.length), 0 ≤ types[i] ∧ types[i] < (b.fTypes.length : Int) := by
    intro i hi
    have := hb i hi
    rw [badPart, at'_eq hi] at this
    simp only [Bool.or_eq_false_iff] at this
    have ho := this.1.1
    unfold outside at ho
    simp at ho
    omega
  refine ⟨by omega, hin, fun i hi h0 => ?_, fun i hi ht hp => ?_⟩
  · have := hb i hi
    rw [badPart, at'_eq hi] at this
    simp only [Bool.or_eq_false_iff] at this
    have ho := this.1.2
    have hbq : Nat.beq i 0 = false := by
      cases hbb : Nat.beq i 0 with
      | false => rfl
      | true => have := Nat.eq_of_beq_eq_true hbb; omega
    rw [hbq, prev_eq hi h0] at ho
    simp at ho
    omega
  · have := hb i hi
    have hi2 := hin i hi
    rw [badPart, at'_eq hi, idx_of hi2.1 hi2.2] at this
    simp only [Bool.or_eq_false_iff, Bool.and_eq_false_iff, decide_eq_false_iff_not] at this
    rcases this.2 with h3 | h3
    · exact absurd hp h3
    · exact Classical.byContradiction (fun hc => h3 (posI_neg.2 hc))

theorem ref11_Part_spec {k : Nat} {b : T_api_Base} {types : List Int} (hk : maxLen + 20 ≤ k) (hw : wf_T_api_Base b) (hl : types.length ≤ 1000) : ref11_Part k b types = some (partOf b types) := by
  have e63 := maxLen_eq
  obtain ⟨k, rfl, hq⟩ := succ_of hk
  simp only [ref11_Part, ref11_valid (show maxLen + 9 ≤ k by omega) hw, ref11_IsPart_spec (show types.length + 5 ≤ k by omega) (show types.length ≤ maxLen by omega), Option.bind_some]
  unfold partOf
  cases hv : valid b with
  | false => rfl
  | true =>
    cases hp : isPartB b types with
    | false => rfl
    | true =>
      simp only [Bool.not_true, cond_false]
      obtain ⟨_, hin, _, _⟩ := isPart_facts hp
      have hx : b.fIndexes.length ≤ 1000 := by
        obtain ⟨_, _, h3⟩ := valid_parts hv
        unfold indexesOk at h3
        simp only [Bool.and_eq_true, decide_eq_true_eq] at h3
        omega
      refine Eq.trans (loopS (L := fun m x s => ref11_Part_L1 k b types _ m x s) (n := types.length) (σ := fun i => (types.take i).map (newType b types)) (g := fun _ => false) (r := fun _ => none) (z := some (part b types, 0)) ?_ ?_ (by omega) rfl) (scan_false _ _ (fun _ _ _ => rfl))
      · intro m i hi _
        have ht := hin i hi
        have htn : (types[i]).toNat < b.fTypes.length := by omega
        have hfs := fields_short (type_facts (valid_parts hv).2.1 htn).1
        have htl : (types.take i).length ≤ 1000 := by rw [List.length_take]; omega
        simp only [ref11_Part_L1, idx_at hi, wrap_next hi (show types.length ≤ maxLen by omega), Option.bind_some, show decide ((i : Int) < (types.length : Int)) = true by simp; exact hi, cond_true, cond_false, idx_of ht.1 ht.2, place_spec (show types.length + 2 ≤ k by omega) (show types.length ≤ maxLen by omega)]
        rw [app_ok (by simp only [List.length_nil, maxList]; omega)]
        simp only [Option.bind_some, List.nil_append, place_spec (show types.length + 2 ≤ k by omega) (show types.length ≤ maxLen by omega)]
        rw [app_ok (by simp only [List.length_map, List.length_cons, List.length_nil, maxList]; omega)]
        simp only [Option.bind_some]
        congr 1
        rw [List.take_add_one, List.getElem?_eq_getElem hi, List.map_append]
        simp only [Option.toList_some, List.map_cons, List.map_nil, newType, idx_of ht.1 ht.2]
      · intro m _
        simp only [ref11_Part_L1, show decide ((types.length : Int) < (types.length : Int)) = false by simp, cond_false, List.take_length]
        rw [ref11_Part_L2_spec (K := fun y => some ({ fName := b.fName, fKind := b.fKind, fTypes := types.map (newType b types), fIndexes := y }, 0)) (by omega) hl hx]
        rfl

end Go.Sh
namespace Go.Sh
open Go.AE
set_option linter.unusedVariables false
set_option linter.unusedSimpArgs false

/-- What is asked of the numbers of a part. -/
structure Nums (b : T_api_Base) (types : List Int) : Prop where
  pos : 0 < types.length
  low : ∀ i (hi : i < types.length), 0 ≤ types[i]
  high : ∀ i (hi : i < types.length), (types[i]).toNat < b.fTypes.length
  step : ∀ i (hi : i < types.length), 0 < i → types[i - 1]'(by omega) < types[i]
  par : ∀ i (hi : i < types.length) (ht : (types[i]).toNat < b.fTypes.length), 0 ≤ (b.fTypes[(types[i]).toNat]).fParent → (b.fTypes[(types[i]).toNat]).fParent ∈ types.take i

theorem nums_of {b : T_api_Base} {types : List Int} (h : isPartB b types = true) : Nums b types := by
  obtain ⟨h1, h2, h3, h4⟩ := isPart_facts h
  exact ⟨h1, fun i hi => (h2 i hi).1, fun i hi => by have := h2 i hi; omega, h3, h4⟩

theorem of_nums {b : T_api_Base} {types : List Int} (h : Nums b types) : isPartB b types = true := by
  unfold isPartB
  have e2 : decide ((types.length : Int) > 0) = true := decide_eq_true (by have := h.pos; omega)
  rw [e2, Bool.and_true, Bool.not_eq_true']
  refine anyB_false.2 (fun i hi => ?_)
  have h0 := h.low i hi
  have h1 := h.high i hi
  rw [badPart, at'_eq hi, idx_of h0 (by omega)]
  have ho : outside b types[i] = false := by unfold outside; simp; omega
  rw [ho]
  have hs : (!Nat.beq i 0 && decide (types[i] ≤ prev types i)) = false := by
    by_cases e : i = 0
    · subst e; rfl
    · rw [prev_eq hi (by omega)]
      have := h.step i hi (by omega)
      rw [decide_eq_false (show ¬ types[i] ≤ types[i - 1] by omega), Bool.and_false]
  rw [hs]
  simp only [Bool.false_or]
  by_cases hp : 0 ≤ (b.fTypes[(types[i]).toNat]).fParent
  · have := h.par i hi h1 hp
    rw [decide_eq_false (show ¬ posI (types.take i) (b.fTypes[(types[i]).toNat]).fParent < 0 from fun hn => posI_neg.1 hn this), Bool.and_false]
  · rw [decide_eq_false (show ¬ (b.fTypes[(types[i]).toNat]).fParent ≥ 0 by omega), Bool.false_and]

section
variable {b : T_api_Base} {types : List Int}

theorem Nums.mono (h : Nums b types) : ∀ (d i j : Nat) (hj : j < types.length) (e : i + d = j), 0 < d → types[i]'(by omega) < types[j]
  | 0, _, _, _, _, h0 => by omega
  | d + 1, i, j, hj, e, _ => by
    have hs := h.step j hj (by omega)
    by_cases hd : d = 0
    · subst hd
      have : j - 1 = i := by omega
      simp only [this] at hs
      exact hs
    · have := h.mono d i (j - 1) (by omega) (by omega) (by omega)
      omega

theorem Nums.lt (h : Nums b types) {i j : Nat} (hj : j < types.length) (hij : i < j) : types[i]'(by omega) < types[j] := h.mono (j - i) i j hj (by omega) (by omega)

theorem Nums.ge (h : Nums b types) : ∀ i (hi : i < types.length), (i : Int) ≤ types[i]
  | 0, hi => h.low 0 hi
  | i + 1, hi => by
    have := h.ge i (by omega)
    have := h.lt hi (Nat.lt_succ_self i)
    omega

theorem Nums.pos_at (h : Nums b types) {i : Nat} (hi : i < types.length) : posI types types[i] = (i : Int) :=
  posI_at hi rfl (fun j hj hji => by have := h.lt hi hji; omega)

theorem Nums.short (h : Nums b types) : types.length ≤ b.fTypes.length := by
  have h0 := h.pos
  have h1 := h.ge (types.length - 1) (by omega)
  have h2 := h.high (types.length - 1) (by omega)
  have h3 := h.low (types.length - 1) (by omega)
  omega

theorem Nums.neg (h : Nums b types) : (-1 : Int) ∉ types := fun hm => by
  obtain ⟨i, hi, e⟩ := List.getElem_of_mem hm
  have := h.low i hi
  omega

theorem Nums.first (h : Nums b types) (hv : valid b = true) : types[0]'h.pos = 0 := by
  have h0 := h.pos
  have h1 := h.high 0 h0
  have h2 := h.low 0 h0
  refine Classical.byContradiction (fun hne => ?_)
  have hp := (parent_facts hv h1).2 (by omega)
  have := h.par 0 h0 h1 hp.1
  simp at this

theorem partTypes_length : (partTypes b types).length = types.length := by unfold partTypes; rw [List.length_map]

theorem partTypes_at (h : Nums b types) {i : Nat} (hi : i < types.length) (hi' : i < (partTypes b types).length) : (partTypes b types)[i] = { b.fTypes[(types[i]).toNat]'(h.high i hi) with fParent := posI types (b.fTypes[(types[i]).toNat]'(h.high i hi)).fParent } := by
  have h0 := h.low i hi
  have h1 := h.high i hi
  have e : (partTypes b types)[i] = newType b types types[i] := by simp [partTypes]
  rw [e]
  unfold newType
  rw [idx_of h0 (by omega)]

/-- The parent's new number. -/
theorem Nums.parent0 (h : Nums b types) (hv : valid b = true) {i : Nat} (hi : i < types.length) (e : i = 0) : posI types (b.fTypes[(types[i]).toNat]'(h.high i hi)).fParent = -1 ∧ (b.fTypes[(types[i]).toNat]'(h.high i hi)).fParent = -1 := by
  have hp := parent_facts hv (h.high i hi)
  have hf := h.first hv
  have : (b.fTypes[(types[i]).toNat]'(h.high i hi)).fParent = -1 := hp.1 (by subst e; rw [hf]; rfl)
  rw [this]
  exact ⟨posI_none h.neg, rfl⟩

theorem Nums.parentS (h : Nums b types) (hv : valid b = true) {i : Nat} (hi : i < types.length) (e : 0 < i) : ∃ j, ∃ hj : j < i, types[j]'(Nat.lt_trans hj hi) = (b.fTypes[(types[i]).toNat]'(h.high i hi)).fParent ∧ posI types (b.fTypes[(types[i]).toNat]'(h.high i hi)).fParent = (j : Int) := by
  have hp := parent_facts hv (h.high i hi)
  have hge := h.ge i hi
  have hpp := hp.2 (by have := h.low i hi; omega)
  have hm := h.par i hi (h.high i hi) hpp.1
  obtain ⟨j, hj, he⟩ := List.getElem_of_mem hm
  rw [List.length_take] at hj
  have hjl : j < types.length := by omega
  have he' : types[j] = (b.fTypes[(types[i]).toNat]'(h.high i hi)).fParent := by rw [← he]; simp
  exact ⟨j, by omega, he', by rw [← he']; exact h.pos_at hjl⟩

theorem part_up (h : Nums b types) (hv : valid b = true) : Up (partTypes b types) types.length := by
  intro j hj hjn
  rw [partTypes_at h hjn hj]
  show posI types _ < _
  by_cases e : j = 0
  · rw [(h.parent0 hv hjn e).1]; omega
  · obtain ⟨q, hq, _, e2⟩ := h.parentS hv hjn (Nat.pos_of_ne_zero e)
    rw [e2]; omega

theorem part_way (h : Nums b types) (hv : valid b = true) : ∀ (i : Nat) (hi : i < types.length), way (partTypes b types) i = (way b.fTypes (types[i]).toNat).map (posI types) := by
  intro i
  induction i using Nat.strongRecOn with
  | _ i ih =>
    intro hi
    obtain ⟨hup, _, _⟩ := valid_up hv
    have hupP := part_up h hv
    have hiP : i < (partTypes b types).length := by rw [partTypes_length]; exact hi
    have hti := h.high i hi
    have h0 := h.low i hi
    rw [way_succ hupP hi hiP, way_succ hup hti hti, partTypes_at h hi hiP]
    rw [List.map_append]
    have hself : [((i : Nat) : Int)] = [(((types[i]).toNat : Nat) : Int)].map (posI types) := by
      rw [show (((types[i]).toNat : Nat) : Int) = types[i] by omega, List.map_cons, h.pos_at hi]; rfl
    rw [hself]
    congr 1
    by_cases e : i = 0
    · obtain ⟨q1, q2⟩ := h.parent0 hv hi e
      simp only [q1]
      rw [q2, chain_neg (by omega), chain_neg (by omega)]; rfl
    · obtain ⟨j, hj, q1, q2⟩ := h.parentS hv hi (Nat.pos_of_ne_zero e)
      simp only [q2]
      have hjl : j < types.length := by omega
      have hj0 := h.low j hjl
      have hjt := h.high j hjl
      rw [chain_way hupP (by omega) (by omega) (by omega), Int.toNat_natCast, ih j hj hjl, ← q1, chain_way hup hj0 (by omega) (by omega)]

end

/-! In order: what lies between a type and its parent is below the parent. -/

theorem way_trans {b : T_api_Base} (hv : valid b = true) {p q y : Nat} (hy : y < b.fTypes.length) (h1 : (q : Int) ∈ way b.fTypes y) (h2 : (p : Int) ∈ way b.fTypes q) : (p : Int) ∈ way b.fTypes y := by
  obtain ⟨hup, _, _⟩ := valid_up hv
  have hc := way_cut hup (y + 1) (y : Int) (by omega) (by omega) (q : Int) h1
  rw [Int.toNat_natCast] at hc
  rw [← hc] at h2
  exact List.mem_of_mem_take h2

theorem between {b : T_api_Base} (hv : valid b = true) {x p : Nat} (hx : x < b.fTypes.length) (hp : (b.fTypes[x]).fParent = (p : Int)) : ∀ (d y : Nat), y + d + 1 = x → p ≤ y → (p : Int) ∈ way b.fTypes y
  | 0, y, e, _ => by
    obtain ⟨_, ht, _⟩ := valid_parts hv
    have := (type_facts ht hx).2.2.2.1 (by omega)
    rw [hp] at this
    obtain ⟨q, rfl⟩ : ∃ q, x = q + 1 := ⟨y, by omega⟩
    have : q = y := by omega
    subst this
    assumption
  | d + 1, y, e, hpy => by
    obtain ⟨hup, _, _⟩ := valid_up hv
    obtain ⟨_, ht, _⟩ := valid_parts hv
    have ih := between hv hx hp d (y + 1) (by omega) (by omega)
    have hy1 : y + 1 < b.fTypes.length := by omega
    rw [way_succ hup hy1 hy1, List.mem_append] at ih
    have hpar := (parent_facts hv hy1).2 (by omega)
    have hbef := (type_facts ht hy1).2.2.2.1 (by omega)
    rcases ih with ih | ih
    · rw [chain_way hup hpar.1 (by omega) (by omega)] at ih
      have hbef' : ((((b.fTypes[y + 1]).fParent).toNat : Nat) : Int) ∈ way b.fTypes y := by
        rw [show ((((b.fTypes[y + 1]).fParent).toNat : Nat) : Int) = (b.fTypes[y + 1]).fParent by omega]
        exact hbef
      exact way_trans hv (by omega) hbef' ih
    · simp only [List.mem_singleton] at ih
      omega

/-! Valid. -/

theorem dup_false {ts : List T_api_Type} {i : Nat} (hi : i < ts.length) : dupType ts i = false ↔ ∀ j (hj : j < i), (ts[j]'(by omega)).fName ≠ (ts[i]).fName := by
  rw [dupType, at'_eq hi, List.any_eq_false]
  constructor
  · intro h j hj e
    have hm : ts[j]'(by omega) ∈ ts.take i := by
      rw [List.mem_take_iff_getElem]
      exact ⟨j, by omega, rfl⟩
    have := h _ hm
    simp [e] at this
  · intro h g hg
    rw [List.mem_take_iff_getElem] at hg
    obtain ⟨j, hj, rfl⟩ := hg
    have := h j (by omega)
    simpa using this

theorem part_typesOk {b : T_api_Base} {types : List Int} (h : Nums b types) (hv : valid b = true) : typesOk (partTypes b types) = true := by
  obtain ⟨_, ht, _⟩ := valid_parts hv
  obtain ⟨hup, hn1, hn8⟩ := valid_up hv
  unfold typesOk
  have h0 := h.pos
  have hsh := h.short
  have hl := partTypes_length (b := b) (types := types)
  rw [decide_eq_false (show ¬ ((partTypes b types).length : Int) < 1 by omega), decide_eq_false (show ¬ ((partTypes b types).length : Int) > 8 by omega)]
  simp only [Bool.or_false, Bool.not_false, Bool.true_and, Bool.not_eq_true']
  refine anyB_false.2 (fun i hi => ?_)
  have hi2 : i < types.length := by omega
  have hti := h.high i hi2
  obtain ⟨f1, f2, f3, f4, f5⟩ := type_facts ht hti
  have hat := partTypes_at h hi2 hi
  rw [badType, at'_eq hi]
  have hw := part_way h hv i hi2
  have g5 : decide (((way (partTypes b types) i).length : Int) > 5) = false := by
    rw [hw, List.length_map]
    exact decide_eq_false (by omega)
  have g1 : typeOk (partTypes b types)[i] = true := by rw [hat]; exact f1
  have g2 : dupType (partTypes b types) i = false := by
    refine (dup_false hi).2 (fun j hj e => ?_)
    rw [hat, partTypes_at h (show j < types.length by omega) (by omega)] at e
    have hlt := h.lt hi2 hj
    have h0j := h.low j (by omega)
    exact (dup_false hti).1 f2 (types[j]).toNat (by omega) e
  rw [g1, g2, g5]
  simp only [Bool.not_true, Bool.false_or, Bool.or_false]
  by_cases e : i = 0
  · subst e
    simp only [show Nat.beq 0 0 = true from rfl, cond_true]
    obtain ⟨q1, q2⟩ := h.parent0 hv hi2 rfl
    have : (partTypes b types)[0] = b.fTypes[(types[0]).toNat] := by
      rw [hat, q1]
      generalize b.fTypes[(types[0]).toNat] = x at q2
      cases x
      simp only at q2
      subst q2
      rfl
    rw [this]
    exact f3 (by rw [h.first hv]; rfl)
  · have hb : Nat.beq i 0 = false := by
      cases hbb : Nat.beq i 0 with
      | false => rfl
      | true => exact absurd (Nat.eq_of_beq_eq_true hbb) e
    rw [hb, cond_false, Bool.not_eq_false', List.any_eq_true]
    obtain ⟨j, hj, q1, q2⟩ := h.parentS hv hi2 (Nat.pos_of_ne_zero e)
    obtain ⟨i', rfl⟩ : ∃ q, i = q + 1 := ⟨i - 1, by omega⟩
    refine ⟨posI types (b.fTypes[(types[i' + 1]).toNat]).fParent, ?_, by rw [hat]; simp⟩
    show _ ∈ way (partTypes b types) i'
    rw [part_way h hv i' (by omega)]
    refine List.mem_map.2 ⟨(b.fTypes[(types[i' + 1]).toNat]).fParent, ?_, rfl⟩
    have hj0 := h.low j (by omega)
    have hi0 := h.low i' (by omega)
    have hlt := h.lt hi2 (Nat.lt_succ_self i')
    have hle : types[j] ≤ types[i'] := by
      by_cases ej : j = i'
      · subst ej; exact Int.le_refl _
      · have := h.lt (show i' < types.length by omega) (show j < i' by omega)
        omega
    rw [← q1, show types[j] = (((types[j]).toNat : Nat) : Int) by omega]
    exact between hv hti (p := (types[j]).toNat) (by rw [← q1]; omega) ((types[i' + 1]).toNat - (types[i']).toNat - 1) (types[i']).toNat (by omega) (by omega)

def elemBad (ts : List T_api_Type) (x : T_api_Search) : Bool := ((!nameOk x.fName) || (decide (x.fType < 0) || (decide (x.fType ≥ (ts.length : Int)) || decide ((x.fSparse.length : Int) > 1)))) || fieldBad ts x

theorem badIndex_split {ts : List T_api_Type} {xs : List T_api_Search} {i : Nat} (hi : i < xs.length) : badIndex ts xs i = (elemBad ts xs[i] || dupIndex xs i) := by
  rw [badIndex, at'_eq hi, elemBad]
  cases nameOk xs[i].fName <;> cases decide (xs[i].fType < 0) <;> cases decide (xs[i].fType ≥ (ts.length : Int)) <;> cases decide ((xs[i].fSparse.length : Int) > 1) <;> cases dupIndex xs i <;> cases fieldBad ts xs[i] <;> rfl

theorem dupIndex_false {xs : List T_api_Search} {i : Nat} (hi : i < xs.length) : dupIndex xs i = false ↔ ∀ j (hj : j < i), (xs[j]'(by omega)).fName ≠ (xs[i]).fName := by
  rw [dupIndex, at'_eq hi, List.any_eq_false]
  constructor
  · intro h j hj e
    have hm : xs[j]'(by omega) ∈ xs.take i := by
      rw [List.mem_take_iff_getElem]
      exact ⟨j, by omega, rfl⟩
    have := h _ hm
    simp [e] at this
  · intro h g hg
    rw [List.mem_take_iff_getElem] at hg
    obtain ⟨j, hj, rfl⟩ := hg
    have := h j (by omega)
    simpa using this

theorem indexes_iff {ts : List T_api_Type} {xs : List T_api_Search} : anyB (badIndex ts xs) xs.length = false ↔ (∀ x ∈ xs, elemBad ts x = false) ∧ xs.Pairwise (fun a b => a.fName ≠ b.fName) := by
  rw [anyB_false, List.pairwise_iff_getElem]
  constructor
  · intro h
    refine ⟨fun x hx => ?_, fun i j hi hj hij => ?_⟩
    · obtain ⟨i, hi, rfl⟩ := List.getElem_of_mem hx
      have := h i hi
      rw [badIndex_split hi, Bool.or_eq_false_iff] at this
      exact this.1
    · have := h j hj
      rw [badIndex_split hj, Bool.or_eq_false_iff] at this
      exact (dupIndex_false hj).1 this.2 i hij
  · rintro ⟨h1, h2⟩ i hi
    rw [badIndex_split hi, h1 _ (List.getElem_mem hi), Bool.false_or]
    exact (dupIndex_false hi).2 (fun j hj => h2 j i (by omega) hi hj)

theorem newIndex_some {types : List Int} {x y : T_api_Search} (h : newIndex types x = some y) : x.fType ∈ types ∧ y = { x with fType := posI types x.fType } := by
  unfold newIndex at h
  cases hd : decide (posI types x.fType ≥ 0) with
  | false => rw [hd] at h; cases h
  | true =>
    rw [hd] at h
    refine ⟨?_, (Option.some.inj h).symm⟩
    have := of_decide_eq_true hd
    exact Classical.byContradiction (fun hc => by rw [posI_none hc] at this; omega)

theorem part_indexesOk {b : T_api_Base} {types : List Int} (h : Nums b types) (hv : valid b = true) : indexesOk (partTypes b types) (partIndexes b types) = true := by
  obtain ⟨_, ht, hx⟩ := valid_parts hv
  unfold indexesOk at hx ⊢
  simp only [Bool.and_eq_true, Bool.not_eq_true', decide_eq_true_eq] at hx ⊢
  obtain ⟨hx1, hx2⟩ := hx
  obtain ⟨e1, e2⟩ := indexes_iff.1 hx1
  refine ⟨indexes_iff.2 ⟨fun y hy => ?_, ?_⟩, ?_⟩
  · unfold partIndexes at hy
    rw [List.mem_filterMap] at hy
    obtain ⟨x, hxm, hxy⟩ := hy
    obtain ⟨hm, rfl⟩ := newIndex_some hxy
    have hb := e1 x hxm
    unfold elemBad at hb ⊢
    obtain ⟨j, hj, he, _, hp⟩ := posI_mem hm
    have h0 := h.low j hj
    have h1 := h.high j hj
    have hjP : j < (partTypes b types).length := by rw [partTypes_length]; exact hj
    simp only [Bool.or_eq_false_iff] at hb ⊢
    obtain ⟨⟨b1, b2, b3, b4⟩, b5⟩ := hb
    refine ⟨⟨b1, ?_, ?_, b4⟩, ?_⟩
    · rw [hp]; exact decide_eq_false (by omega)
    · rw [hp, partTypes_length]; exact decide_eq_false (by omega)
    · unfold fieldBad at b5 ⊢
      simp only [hp]
      rw [idx_at hjP, partTypes_at h hj hjP]
      rw [← he, idx_of h0 (by omega)] at b5
      exact b5
  · unfold partIndexes
    refine List.Pairwise.filterMap (newIndex types) (fun a a' haa y hy y' hy' => ?_) e2
    obtain ⟨_, rfl⟩ := newIndex_some hy
    obtain ⟨_, rfl⟩ := newIndex_some hy'
    exact haa
  · have := filterMap_len (newIndex types) b.fIndexes
    unfold partIndexes
    omega

theorem part_valid {b : T_api_Base} {types : List Int} (h : Nums b types) (hv : valid b = true) : valid (part b types) = true := by
  unfold valid at hv ⊢
  simp only [Bool.and_eq_true] at hv ⊢
  have hv' : valid b = true := by unfold valid; simp only [Bool.and_eq_true]; exact hv
  exact ⟨hv.1, hv.2.1, hv.2.2.1, part_typesOk h hv', part_indexesOk h hv'⟩

end Go.Sh
namespace Go.Sh
open Go.AE
set_option linter.unusedVariables false
set_option linter.unusedSimpArgs false

theorem wfI_of {n : Int} (h : -9223372036854775808 ≤ n) (h' : n ≤ 9223372036854775807) : wfI .i64 n := by
  unfold wfI Lit.wf
  simp only [Bool.and_eq_true, decide_eq_true_eq]
  have e1 : IntKind.i64.min = -9223372036854775808 := by decide
  have e2 : IntKind.i64.max = 9223372036854775807 := by decide
  rw [e1, e2]
  exact ⟨h, h'⟩

theorem posI_bounds {l : List Int} {y : Int} (hl : l.length ≤ maxLen) : wfI .i64 (posI l y) := by
  have e63 := maxLen_eq
  rcases posI_cases l y with ⟨_, h2⟩ | ⟨j, h1, _, _, h4⟩
  · rw [h2]; exact wfI_of (by omega) (by omega)
  · rw [h4]; exact wfI_of (by omega) (by omega)

theorem wf_newType {b : T_api_Base} (hw : wf_T_api_Base b) {types : List Int} (hl : types.length ≤ maxLen) (t : Int) : wf_T_api_Type (newType b types t) := by
  have e63 := maxLen_eq
  unfold newType
  cases hx : idx b.fTypes t with
  | none =>
    show wf_T_api_Type ⟨[], 0, 0, 0, [], 0, false, false⟩
    refine ⟨?_, wfI_of (by decide) (by decide), wfI_of (by decide) (by decide), wfI_of (by decide) (by decide), ⟨?_, fun a ha => by cases ha⟩, wfI_of (by decide) (by decide), trivial, trivial, trivial⟩
    · unfold wfS; exact Nat.zero_le _
    · exact Nat.zero_le _
  | some x =>
    have hm : x ∈ b.fTypes := by
      unfold idx at hx
      split at hx
      · exact List.mem_of_getElem? hx
      · cases hx
    obtain ⟨h1, _, h3, h4, h5, h6, _⟩ := hw.2.2.1.2 x hm
    exact ⟨h1, posI_bounds hl, h3, h4, h5, h6, trivial, trivial, trivial⟩

theorem wf_part {b : T_api_Base} (hw : wf_T_api_Base b) {types : List Int} (hl : types.length ≤ maxLen) : wf_T_api_Base (part b types) := by
  refine ⟨hw.1, hw.2.1, ⟨?_, fun t ht => ?_⟩, ⟨?_, fun y hy => ?_⟩, trivial⟩
  · show (partTypes b types).length ≤ maxLen
    rw [partTypes_length]; exact hl
  · change t ∈ partTypes b types at ht
    unfold partTypes at ht
    obtain ⟨n, _, rfl⟩ := List.mem_map.1 ht
    exact wf_newType hw hl n
  · have := filterMap_len (newIndex types) b.fIndexes
    have h2 := hw.2.2.2.1.1
    show (partIndexes b types).length ≤ maxLen
    unfold partIndexes
    omega
  · change y ∈ partIndexes b types at hy
    unfold partIndexes at hy
    obtain ⟨x, hx, hxy⟩ := List.mem_filterMap.1 hy
    obtain ⟨_, rfl⟩ := newIndex_some hxy
    obtain ⟨h1, _, h3, h4, _⟩ := hw.2.2.2.1.2 x hx
    exact ⟨h1, posI_bounds hl, h3, h4, trivial⟩

theorem wf_noBase : wf_T_api_Base noBase := by
  refine ⟨?_, wfI_of (by decide) (by decide), ⟨Nat.zero_le _, fun a ha => by cases ha⟩, ⟨Nat.zero_le _, fun a ha => by cases ha⟩, trivial⟩
  unfold wfS; exact Nat.zero_le _

theorem wf_partOf {b : T_api_Base} (hw : wf_T_api_Base b) {types : List Int} (hl : types.length ≤ maxLen) : wf_T_api_Base (partOf b types).1 := by
  unfold partOf
  cases valid b with
  | false => exact wf_noBase
  | true =>
    cases isPartB b types with
    | false => exact wf_noBase
    | true => exact wf_part hw hl

/-! All of them. -/

def allOf (n : Nat) : List Int := (List.range n).map Int.ofNat

theorem allOf_succ (n : Nat) : allOf (n + 1) = allOf n ++ [(n : Int)] := by
  unfold allOf
  rw [List.range_succ, List.map_append]; rfl

theorem allOf_length (n : Nat) : (allOf n).length = n := by unfold allOf; rw [List.length_map, List.length_range]

theorem allOf_at {n i : Nat} (h : i < (allOf n).length) : (allOf n)[i] = (i : Int) := by
  simp [allOf]

theorem posI_all {n : Nat} {y : Int} (h0 : 0 ≤ y) (h : y < (n : Int)) : posI (allOf n) y = y := by
  have hl := allOf_length n
  have := posI_at (l := allOf n) (y := y) (j := y.toNat) (by omega) (by rw [allOf_at]; omega) (fun i hi hij => by rw [allOf_at]; omega)
  rw [this]; omega

theorem nums_all {b : T_api_Base} (hv : valid b = true) : Nums b (allOf b.fTypes.length) := by
  obtain ⟨_, h1, h8⟩ := valid_up hv
  have hl := allOf_length b.fTypes.length
  refine ⟨by omega, fun i hi => by rw [allOf_at]; omega, fun i hi => by rw [allOf_at]; omega, fun i hi h0 => by rw [allOf_at, allOf_at]; omega, fun i hi ht hp => ?_⟩
  have hti : ((allOf b.fTypes.length)[i]).toNat = i := by rw [allOf_at]; omega
  have hpp := parent_facts hv ht
  rw [List.mem_take_iff_getElem]
  have h0 : 0 < ((allOf b.fTypes.length)[i]).toNat := by
    refine Nat.pos_of_ne_zero (fun e => ?_)
    have := hpp.1 e
    omega
  have h2 := (hpp.2 h0).2
  refine ⟨(b.fTypes[((allOf b.fTypes.length)[i]).toNat]).fParent.toNat, by omega, ?_⟩
  rw [allOf_at]
  omega

theorem part_all {b : T_api_Base} (hv : valid b = true) : part b (allOf b.fTypes.length) = b := by
  have hn := nums_all hv
  have hl := allOf_length b.fTypes.length
  have h1 : partTypes b (allOf b.fTypes.length) = b.fTypes := by
    refine List.ext_getElem (by rw [partTypes_length, hl]) (fun i hi hi' => ?_)
    rw [partTypes_at hn (by omega) hi]
    have hti : ((allOf b.fTypes.length)[i]'(by omega)).toNat = i := by rw [allOf_at]; omega
    simp only [hti]
    have hp := parent_facts hv hi'
    have hpos : posI (allOf b.fTypes.length) (b.fTypes[i]).fParent = (b.fTypes[i]).fParent := by
      by_cases e : i = 0
      · have := hp.1 e
        rw [this]
        exact posI_none hn.neg
      · have := hp.2 (Nat.pos_of_ne_zero e)
        exact posI_all this.1 (by omega)
    rw [hpos]
  have h2 : partIndexes b (allOf b.fTypes.length) = b.fIndexes := by
    obtain ⟨_, _, hx⟩ := valid_parts hv
    unfold indexesOk at hx
    simp only [Bool.and_eq_true, Bool.not_eq_true'] at hx
    obtain ⟨e1, _⟩ := indexes_iff.1 hx.1
    unfold partIndexes
    have : ∀ l : List T_api_Search, (∀ x ∈ l, elemBad b.fTypes x = false) → l.filterMap (newIndex (allOf b.fTypes.length)) = l := by
      intro l
      induction l with
      | nil => intro _; rfl
      | cons x l ih =>
        intro h
        have hb := h x (by simp)
        unfold elemBad at hb
        simp only [Bool.or_eq_false_iff, decide_eq_false_iff_not] at hb
        have hp := posI_all (n := b.fTypes.length) (y := x.fType) (by omega) (by omega)
        have : newIndex (allOf b.fTypes.length) x = some x := by
          unfold newIndex
          rw [hp, decide_eq_true (show x.fType ≥ 0 by omega)]
          rfl
        rw [List.filterMap_cons, this, ih (fun y hy => h y (by simp [hy]))]
    exact this _ e1
  unfold part
  rw [h1, h2]

theorem partOf_ok {b : T_api_Base} (hv : valid b = true) {types : List Int} (h : Nums b types) : partOf b types = (part b types, 0) := by
  unfold partOf
  rw [hv, of_nums h]; rfl

theorem parts_L1 {k : Nat} {b : T_api_Base} {K : List Int → Option Bool} (hk : b.fTypes.length < k) (hl : b.fTypes.length ≤ 1000) : law11_DbdParts_L1 b (fun y _ => K y) k [] 0 = K (allOf b.fTypes.length) := by
  have e63 := maxLen_eq
  refine Eq.trans (loopS (L := fun m x s => law11_DbdParts_L1 b _ m s x) (n := b.fTypes.length) (σ := allOf) (g := fun _ => false) (r := fun _ => none) (z := K (allOf b.fTypes.length)) ?_ ?_ (by omega) rfl) (scan_false _ _ (fun _ _ _ => rfl))
  · intro m i hi _
    have hal := allOf_length i
    simp only [law11_DbdParts_L1, wrap_next hi (show b.fTypes.length ≤ maxLen by omega), show decide ((i : Int) < (b.fTypes.length : Int)) = true by simp; exact hi, cond_true, cond_false]
    rw [app_ok (by simp only [List.length_cons, List.length_nil, maxList]; omega), allOf_succ]
    rfl
  · intro m _
    simp only [law11_DbdParts_L1, show decide ((b.fTypes.length : Int) < (b.fTypes.length : Int)) = false by simp, cond_false]

theorem law_law11_DbdParts (b : T_api_Base) (types : List Int) (hb : wf_T_api_Base b) (hts : wfL (wfI .i64) types) : ∃ k, law11_DbdParts k b types = some true := by
  have e63 := maxLen_eq
  refine ⟨maxLen + 30 + 1, ?_⟩
  generalize hK : maxLen + 30 = k
  have hk : maxLen + 30 ≤ k := by omega
  clear hK
  obtain ⟨r, hr⟩ := small_total (k := k) (by omega) hb
  have hF := first_true (k := k) (by omega)
  simp only [law11_DbdParts, hr, hF, Option.bind_some]
  by_cases hlen : types.length ≤ 20
  · have hl1 : types.length ≤ 1000 := by omega
    have hl2 : types.length ≤ maxLen := by omega
    have hwp := wf_partOf hb hl2
    simp only [decide_eq_false (show ¬ (types.length : Int) > 20 by omega), dbd_Part_spec (show maxLen + 20 ≤ k by omega) hb hl1, ref11_Part_spec (show maxLen + 20 ≤ k by omega) hb hl1, ref11_Same_spec (show maxLen + 8 ≤ k by omega) hwp, dbd_valid (show maxLen + 9 ≤ k by omega) hwp, ref11_valid (show maxLen + 9 ≤ k by omega) hb, sameB_refl, Option.bind_some, Bool.not_true, cond_false, bne_self_eq_false]
    have hvp : (bif ((partOf b types).2 == 0) then (some (!valid (partOf b types).1)) else (some (false))) = some false := by
      unfold partOf
      cases hv : valid b with
      | false => rfl
      | true =>
        cases hp : isPartB b types with
        | false => rfl
        | true =>
          simp only [Bool.not_true, cond_false, beq_self_eq_true, cond_true]
          rw [part_valid (nums_of hp) hv]; rfl
    rw [hvp]
    simp only [Option.bind_some, cond_false]
    cases r with
    | false => rfl
    | true =>
      simp only [Bool.not_true, cond_false, Option.bind_some]
      cases hv : valid b with
      | false => rfl
      | true =>
        obtain ⟨_, h1, h8⟩ := valid_up hv
        simp only [Bool.not_true, cond_false]
        rw [parts_L1 (K := fun y => (((dbd_Part k b y).bind fun v24 => (some (v24.2, v24.1))).bind fun o25 => ((bif (o25.1 == 0) then ((ref11_Same k o25.2 b).bind fun v26 => (bif v26 then (some true) else (some (false)))) else (some (false))).bind fun o28 => (some o28)))) (by omega) (by omega)]
        have hal := allOf_length b.fTypes.length
        rw [dbd_Part_spec (show maxLen + 20 ≤ k by omega) hb (by omega), partOf_ok hv (nums_all hv), part_all hv]
        simp only [Option.bind_some, ref11_Same_spec (show maxLen + 8 ≤ k by omega) hb, sameB_refl]
        rfl
  · simp only [decide_eq_true (show (types.length : Int) > 20 by omega)]
    cases r <;> rfl

end Go.Sh
namespace Go.Sh
open Go.AE
set_option linter.unusedVariables false
set_option linter.unusedSimpArgs false

def bothAt (l : List Int) (s : Int) : Int := match idx l s with | some t => t | none => 0
def bothOf (l m : List Int) : List Int := m.map (bothAt l)

section
variable {b : T_api_Base} {l m : List Int}

theorem bothOf_length : (bothOf l m).length = m.length := by unfold bothOf; rw [List.length_map]

theorem both_high (h : Nums b l) (h2 : Nums (part b l) m) {i : Nat} (hi : i < m.length) : (m[i]).toNat < l.length := by
  have := h2.high i hi
  change (m[i]).toNat < (partTypes b l).length at this
  rw [partTypes_length] at this
  exact this

theorem bothOf_at (h : Nums b l) (h2 : Nums (part b l) m) {i : Nat} (hi : i < m.length) (hi' : i < (bothOf l m).length) : (bothOf l m)[i] = l[(m[i]).toNat]'(both_high h h2 hi) := by
  have h0 := h2.low i hi
  have h1 := both_high h h2 hi
  have e : (bothOf l m)[i] = bothAt l m[i] := by simp [bothOf]
  rw [e, bothAt, idx_of h0 (by omega)]

/-- The numbers of a part of a part, in the base. -/
theorem nums_both (h : Nums b l) (hv : valid b = true) (h2 : Nums (part b l) m) : Nums b (bothOf l m) := by
  have hl := bothOf_length (l := l) (m := m)
  refine ⟨by rw [hl]; exact h2.pos, fun i hi => ?_, fun i hi => ?_, fun i hi h0 => ?_, fun i hi ht hp => ?_⟩
  · rw [bothOf_at h h2 (by omega) hi]; exact h.low _ _
  · rw [bothOf_at h h2 (by omega) hi]; exact h.high _ _
  · rw [bothOf_at h h2 (by omega) hi, bothOf_at h h2 (by omega) (by omega)]
    have hs := h2.step i (by omega) h0
    have l1 := h2.low i (by omega)
    have l2 := h2.low (i - 1) (by omega)
    exact h.lt (both_high h h2 (by omega)) (by omega)
  · have him : i < m.length := by omega
    have hs := both_high h h2 him
    have hsl := h2.low i him
    have he := bothOf_at h h2 him hi
    simp only [he] at hp ⊢
    have hti := h.high _ hs
    have hmem := h.par _ hs hti hp
    -- its new number in the part
    have hpos : 0 < (m[i]).toNat := by
      refine Nat.pos_of_ne_zero (fun e => ?_)
      have : l.take (m[i]).toNat = [] := by rw [e]; rfl
      rw [this] at hmem
      cases hmem
    obtain ⟨j, hj, q1, q2⟩ := h.parentS hv hs hpos
    have hsP : (m[i]).toNat < (part b l).fTypes.length := h2.high i him
    have hat : ((part b l).fTypes[(m[i]).toNat]).fParent = (j : Int) := by
      show ((partTypes b l)[(m[i]).toNat]'hsP).fParent = _
      rw [partTypes_at h hs hsP]
      exact q2
    have hm2 := h2.par i him hsP (by rw [hat]; omega)
    rw [hat] at hm2
    rw [List.mem_take_iff_getElem] at hm2
    obtain ⟨q, hq, e⟩ := hm2
    have hqm : q < m.length := by omega
    rw [List.mem_take_iff_getElem]
    refine ⟨q, by omega, ?_⟩
    rw [bothOf_at h h2 hqm (by omega)]
    have : (m[q]).toNat = j := by rw [e]; omega
    simp only [this]
    exact q1

/-- Places of places. -/
theorem place_both (h : Nums b l) (hv : valid b = true) (h2 : Nums (part b l) m) (y : Int) : (y ∉ l ∧ y ∉ bothOf l m) ∨ ∃ j, ∃ hj : j < l.length, l[j] = y ∧ posI l y = (j : Int) ∧ posI (bothOf l m) y = posI m (j : Int) := by
  have hb := nums_both h hv h2
  have hl := bothOf_length (l := l) (m := m)
  by_cases hy : y ∈ l
  · obtain ⟨j, hj, he⟩ := List.getElem_of_mem hy
    refine .inr ⟨j, hj, he, by rw [← he]; exact h.pos_at hj, ?_⟩
    by_cases hm : (j : Int) ∈ m
    · obtain ⟨q, hq, e⟩ := List.getElem_of_mem hm
      rw [← e, h2.pos_at hq]
      have hq' : q < (bothOf l m).length := by omega
      have := hb.pos_at hq'
      rw [bothOf_at h h2 hq hq'] at this
      have e2 : (m[q]).toNat = j := by rw [e]; omega
      simp only [e2, he] at this
      exact this
    · rw [posI_none hm]
      refine posI_none (fun hm2 => hm ?_)
      obtain ⟨q, hq, e⟩ := List.getElem_of_mem hm2
      have hqm : q < m.length := by omega
      rw [bothOf_at h h2 hqm hq] at e
      have hs := both_high h h2 hqm
      have hs0 := h2.low q hqm
      have : (m[q]).toNat = j := by
        rcases Nat.lt_trichotomy (m[q]).toNat j with h' | h' | h'
        · have := h.lt hj h'; omega
        · exact h'
        · have := h.lt hs h'; omega
      have e3 : m[q] = (j : Int) := by omega
      rw [← e3]
      exact List.getElem_mem hqm
  · refine .inl ⟨hy, fun hm2 => hy ?_⟩
    obtain ⟨q, hq, e⟩ := List.getElem_of_mem hm2
    rw [bothOf_at h h2 (by omega) hq] at e
    rw [← e]
    exact List.getElem_mem _

theorem posI_both (h : Nums b l) (hv : valid b = true) (h2 : Nums (part b l) m) (y : Int) : posI m (posI l y) = posI (bothOf l m) y := by
  rcases place_both h hv h2 y with ⟨h3, h4⟩ | ⟨j, hj, e1, e2, e3⟩
  · rw [posI_none h3, posI_none h4, posI_none h2.neg]
  · rw [e2, e3]

theorem part_both (h : Nums b l) (hv : valid b = true) (h2 : Nums (part b l) m) : part (part b l) m = part b (bothOf l m) := by
  have hb := nums_both h hv h2
  have hl := bothOf_length (l := l) (m := m)
  have ht : partTypes (part b l) m = partTypes b (bothOf l m) := by
    refine List.ext_getElem (by rw [partTypes_length, partTypes_length, hl]) (fun i hi hi' => ?_)
    have him : i < m.length := by rw [partTypes_length] at hi; exact hi
    have hib : i < (bothOf l m).length := by omega
    have hs := both_high h h2 him
    have hsP : (m[i]).toNat < (partTypes b l).length := by rw [partTypes_length]; exact hs
    rw [partTypes_at h2 him hi, partTypes_at hb hib hi']
    have hat : (part b l).fTypes[(m[i]).toNat]'(h2.high i him) = { b.fTypes[(l[(m[i]).toNat]).toNat]'(h.high _ hs) with fParent := posI l (b.fTypes[(l[(m[i]).toNat]).toNat]'(h.high _ hs)).fParent } := partTypes_at h hs hsP
    rw [hat]
    have hbi := bothOf_at h h2 him hib
    simp only [hbi, posI_both h hv h2]
  have hx : partIndexes (part b l) m = partIndexes b (bothOf l m) := by
    show (b.fIndexes.filterMap (newIndex l)).filterMap (newIndex m) = b.fIndexes.filterMap (newIndex (bothOf l m))
    rw [List.filterMap_filterMap]
    congr 1
    funext x
    unfold newIndex
    rcases place_both h hv h2 x.fType with ⟨h3, h4⟩ | ⟨j, hj, e1, e2, e3⟩
    · rw [posI_none h3, posI_none h4]; rfl
    · rw [e2, e3, decide_eq_true (show (j : Int) ≥ 0 by omega)]
      simp only [cond_true, Option.bind_some]
  unfold part at ht hx ⊢
  rw [ht, hx]

end

theorem partOf_ne {b : T_api_Base} (hv : valid b = true) {types : List Int} (h : isPartB b types = false) : partOf b types = (noBase, 2) := by
  unfold partOf
  rw [hv, h]; rfl

theorem twice_L1 {b : T_api_Base} {l m : List Int} {k : Nat} {K : List Int → Option Bool} (h : Nums b l) (h2 : Nums (part b l) m) (hk : m.length < k) (hl : m.length ≤ 1000) : law11_DbdTwice_L1 l m (fun y _ => K y) k [] 0 = K (bothOf l m) := by
  have e63 := maxLen_eq
  refine Eq.trans (loopS (L := fun q x s => law11_DbdTwice_L1 l m _ q s x) (n := m.length) (σ := fun i => (m.take i).map (bothAt l)) (g := fun _ => false) (r := fun _ => none) (z := K (bothOf l m)) ?_ ?_ (by omega) rfl) (scan_false _ _ (fun _ _ _ => rfl))
  · intro q i hi _
    have h0 := h2.low i hi
    have h1 := both_high h h2 hi
    have htl : (m.take i).length ≤ 1000 := by rw [List.length_take]; omega
    have hix := idx_of (l := l) h0 (by omega)
    simp only [law11_DbdTwice_L1, idx_at hi, wrap_next hi (show m.length ≤ maxLen by omega), Option.bind_some, show decide ((i : Int) < (m.length : Int)) = true by simp; exact hi, cond_true, cond_false, hix]
    rw [app_ok (by simp only [List.length_map, List.length_cons, List.length_nil, maxList]; omega)]
    simp only [Option.bind_some]
    congr 1
    rw [List.take_add_one, List.getElem?_eq_getElem hi, List.map_append]
    simp only [Option.toList_some, List.map_cons, List.map_nil, bothAt, hix]
  · intro q _
    simp only [law11_DbdTwice_L1, show decide ((m.length : Int) < (m.length : Int)) = false by simp, cond_false, List.take_length]
    rfl

theorem law_law11_DbdTwice (b : T_api_Base) (l m : List Int) (hb : wf_T_api_Base b) (hl : wfL (wfI .i64) l) (hm : wfL (wfI .i64) m) : ∃ k, law11_DbdTwice k b l m = some true := by
  have e63 := maxLen_eq
  refine ⟨maxLen + 30 + 1, ?_⟩
  generalize hK : maxLen + 30 = k
  have hk : maxLen + 30 ≤ k := by omega
  clear hK
  obtain ⟨r, hr⟩ := small_total (k := k) (by omega) hb
  have hF := first_true (k := k) (by omega)
  simp only [law11_DbdTwice, hr, hF, ref11_valid (show maxLen + 9 ≤ k by omega) hb, Option.bind_some]
  cases r with
  | false => rfl
  | true =>
    cases hv : valid b with
    | false => rfl
    | true =>
      by_cases hl20 : l.length ≤ 20
      · by_cases hm20 : m.length ≤ 20
        · rw [decide_eq_false (show ¬ (l.length : Int) > 20 by omega), decide_eq_false (show ¬ (m.length : Int) > 20 by omega), ref11_IsPart_spec (show l.length + 5 ≤ k by omega) (show l.length ≤ maxLen by omega)]
          cases hp : isPartB b l with
          | false => rfl
          | true =>
            have hn := nums_of hp
            have hvp := part_valid hn hv
            have hwp := wf_part hb (types := l) (by omega)
            simp only [Bool.not_true, cond_false, Option.bind_some, dbd_Part_spec (show maxLen + 20 ≤ k by omega) hb (show l.length ≤ 1000 by omega), partOf_ok hv hn, bne_self_eq_false, dbd_Part_spec (show maxLen + 20 ≤ k by omega) hwp (show m.length ≤ 1000 by omega), ref11_IsPart_spec (show m.length + 5 ≤ k by omega) (show m.length ≤ maxLen by omega)]
            cases hp2 : isPartB (part b l) m with
            | false => rw [partOf_ne hvp hp2]; rfl
            | true =>
              have hn2 := nums_of hp2
              have hbn := nums_both hn hv hn2
              have hbl := bothOf_length (l := l) (m := m)
              have hwq := wf_part hwp (types := m) (by omega)
              simp only [Bool.not_true, cond_false]
              rw [twice_L1 (K := fun y => (((dbd_Part k b y).bind fun v27 => (some (v27.2, v27.1))).bind fun o28 => ((bif ((partOf (part b l) m).2 == 0) then (bif (o28.1 == 0) then ((ref11_Same k (partOf (part b l) m).1 o28.2).bind fun v29 => (bif v29 then (some true) else (some (false)))) else (some (false))) else (some (false))).bind fun o31 => (some o31)))) hn hn2 (by omega) (by omega)]
              rw [dbd_Part_spec (show maxLen + 20 ≤ k by omega) hb (show (bothOf l m).length ≤ 1000 by omega), partOf_ok hv hbn, partOf_ok hvp hn2, part_both hn hv hn2]
              have hws := wf_part hb (types := bothOf l m) (by omega)
              simp only [Option.bind_some, ref11_Same_spec (show maxLen + 8 ≤ k by omega) hws, sameB_refl]
              rfl
        · rw [decide_eq_false (show ¬ (l.length : Int) > 20 by omega), decide_eq_true (show (m.length : Int) > 20 by omega)]
          rfl
      · rw [decide_eq_true (show (l.length : Int) > 20 by omega)]
        rfl

end Go.Sh
