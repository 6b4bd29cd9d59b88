/- The functions as functions on lists, and what they come to: no program in sight. Conditions: those that each theorem names. -/
import Derived.Test.YtgpblbjceghpjaaGreatDoorA3
import Derived.IntWalk
namespace Go.Sh
open Go.AE (idx idxS cut cat app upTo inB sameLen revInt wfI wfS wfL wfT mkN repS repL joinS cmpB idxB quoI remE shlI shrI andI orI xorI catL bytesB itoaA repG trimR fdS runeS)
set_option linter.unusedVariables false
abbrev Str := List UInt8
structure T_api_Field where
  fName : Str
  fAt : Int
  fBytes : Int
  deriving DecidableEq
structure T_api_Type where
  fName : Str
  fParent : Int
  fMin : Int
  fSize : Int
  fFields : (List T_api_Field)
  fKey : Int
  fUnique : Bool
  fLast : Bool
  deriving DecidableEq
structure T_api_Search where
  fName : Str
  fType : Int
  fField : Int
  fSparse : Str
  deriving DecidableEq
structure T_api_Base where
  fName : Str
  fKind : Int
  fTypes : (List T_api_Type)
  fIndexes : (List T_api_Search)
  deriving DecidableEq
structure T_api_Term where
  fField : Str
  fOp : Int
  fValue : Str
  deriving DecidableEq
structure T_progenylaw12_Case where
  fBase : T_api_Base
  fType : Int
  fWhen : (List (List T_api_Term))
  deriving DecidableEq
structure T_arr6_Str where
  e0 : Str
  e1 : Str
  e2 : Str
  e3 : Str
  e4 : Str
  e5 : Str
  deriving DecidableEq
def wf_T_api_Field (a : T_api_Field) : Prop := wfS a.fName ∧ (wfI .i64) a.fAt ∧ (wfI .i64) a.fBytes ∧ wfT ()
def wf_T_api_Type (a : T_api_Type) : Prop := wfS a.fName ∧ (wfI .i64) a.fParent ∧ (wfI .i64) a.fMin ∧ (wfI .i64) a.fSize ∧ (wfL wf_T_api_Field) a.fFields ∧ (wfI .i64) a.fKey ∧ wfT a.fUnique ∧ wfT a.fLast ∧ wfT ()
def wf_T_api_Search (a : T_api_Search) : Prop := wfS a.fName ∧ (wfI .i64) a.fType ∧ (wfI .i64) a.fField ∧ wfS a.fSparse ∧ wfT ()
def wf_T_api_Base (a : T_api_Base) : Prop := wfS a.fName ∧ (wfI .i64) a.fKind ∧ (wfL wf_T_api_Type) a.fTypes ∧ (wfL wf_T_api_Search) a.fIndexes ∧ wfT ()
def wf_T_api_Term (a : T_api_Term) : Prop := wfS a.fField ∧ (wfI .i64) a.fOp ∧ wfS a.fValue ∧ wfT ()
def wf_T_progenylaw12_Case (a : T_progenylaw12_Case) : Prop := wf_T_api_Base a.fBase ∧ (wfI .i64) a.fType ∧ (wfL (wfL wf_T_api_Term)) a.fWhen ∧ wfT ()
def wf_T_arr6_Str (a : T_arr6_Str) : Prop := wfS a.e0 ∧ wfS a.e1 ∧ wfS a.e2 ∧ wfS a.e3 ∧ wfS a.e4 ∧ wfS a.e5 ∧ wfT ()
def law12_Large_L2 (a0 : T_api_Base) (x17 : Int)  (K0 : Int → Option Bool) : Nat → Int → Option Bool
  | 0, _ => none
  | m + 1, x26 =>
    (((idx a0.fTypes x17).bind fun v27 => (some ((decide (x26 < (v27.fFields.length : Int)))))).bind fun o28 =>
        (bif o28 then (((idx a0.fTypes x17).bind fun v29 => ((idx v29.fFields x26).bind fun v30 => (some ((decide ((v30.fName.length : Int) > 40)))))).bind fun o31 =>
          (bif o31 then (some true) else
          (law12_Large_L2 a0 x17 K0 m (Go.IntKind.wrap .i64 (x26 + 1))))) else
        (K0 x26)))
def law12_Large_L1 (k : Nat) (a0 : T_api_Base)  (K0 : Int → Option Bool) : Nat → Int → Option Bool
  | 0, _ => none
  | m + 1, x17 =>
    (bif (decide (x17 < (a0.fTypes.length : Int))) then (((idx a0.fTypes x17).bind fun v18 => (bif (decide ((v18.fFields.length : Int) > 20)) then (some (true)) else ((idx a0.fTypes x17).bind fun v19 => (some ((decide ((v19.fName.length : Int) > 40))))))).bind fun o20 =>
          (bif o20 then (some true) else
          (law12_Large_L2 a0 x17 (fun y32 =>
            (law12_Large_L1 k a0 K0 m (Go.IntKind.wrap .i64 (x17 + 1)))) k 0))) else
        (K0 x17))
def law12_Large_L3 (a0 : T_api_Base)  (K0 : Int → Option Bool) : Nat → Int → Option Bool
  | 0, _ => none
  | m + 1, x37 =>
    (bif (decide (x37 < (a0.fIndexes.length : Int))) then (((idx a0.fIndexes x37).bind fun v38 => (bif (decide ((v38.fName.length : Int) > 40)) then (some (true)) else ((idx a0.fIndexes x37).bind fun v39 => (some ((decide ((v39.fSparse.length : Int) > 40))))))).bind fun o40 =>
          (bif o40 then (some true) else
          (law12_Large_L3 a0 K0 m (Go.IntKind.wrap .i64 (x37 + 1))))) else
        (K0 x37))
def law12_Large : Nat → (T_api_Base) → Option Bool
  | 0, _ => none
  | k + 1, a0 =>
    ((bif (decide ((a0.fTypes.length : Int) > 20)) then (some (true)) else (bif (decide ((a0.fIndexes.length : Int) > 20)) then (some (true)) else (some ((decide ((a0.fName.length : Int) > 40)))))).bind fun o1 =>
      (bif o1 then (some true) else
      (law12_Large_L1 k a0 (fun y33 =>
        (law12_Large_L3 a0 (fun y41 =>
          (some false)) k 0)) k 0)))
def law12_Long_L2 (a0 : (List (List T_api_Term))) (x19 : Int)  (K0 : Int → Option Bool) : Nat → Int → Option Bool
  | 0, _ => none
  | m + 1, x29 =>
    (((idx a0 x19).bind fun v30 => (some ((decide (x29 < (v30.length : Int)))))).bind fun o31 =>
        (bif o31 then (((idx a0 x19).bind fun v32 => ((idx v32 x29).bind fun v33 => (bif (decide ((v33.fField.length : Int) > 100)) then (some (true)) else ((idx a0 x19).bind fun v34 => ((idx v34 x29).bind fun v35 => (some ((decide ((v35.fValue.length : Int) > 100))))))))).bind fun o36 =>
          (bif o36 then (some true) else
          (law12_Long_L2 a0 x19 K0 m (Go.IntKind.wrap .i64 (x29 + 1))))) else
        (K0 x29)))
def law12_Long_L1 (k : Nat) (a0 : (List (List T_api_Term)))  (K0 : Int → Option Bool) : Nat → Int → Option Bool
  | 0, _ => none
  | m + 1, x19 =>
    (bif (decide (x19 < (a0.length : Int))) then (((idx a0 x19).bind fun v20 => (some ((decide ((v20.length : Int) > 20))))).bind fun o21 =>
          (bif o21 then (some true) else
          (law12_Long_L2 a0 x19 (fun y37 =>
            (law12_Long_L1 k a0 K0 m (Go.IntKind.wrap .i64 (x19 + 1)))) k 0))) else
        (K0 x19))
def law12_Long : Nat → ((List (List T_api_Term))) → Option Bool
  | 0, _ => none
  | k + 1, a0 =>
    (law12_Long_L1 k a0 (fun y38 =>
      (some (decide ((a0.length : Int) > 20)))) k 0)
def law12_shop : Nat → Option T_api_Base
  | 0 => none
  | k + 1 =>
    (some ({ fName := ([83, 72, 79, 80] : Str), fKind := 4, fTypes := ([({ fName := ([67, 85, 83, 84] : Str), fParent := (-1), fMin := 4, fSize := 10, fFields := ([({ fName := ([67, 85, 83, 84, 78, 79] : Str), fAt := 0, fBytes := 4 } : T_api_Field)] : List T_api_Field), fKey := 0, fUnique := true, fLast := false } : T_api_Type)] : List T_api_Type), fIndexes := ([] : List T_api_Search) } : T_api_Base))
def dbd_IsName_L1 (a0 : Str)  (K0 : Int → Option Bool) : Nat → Int → Option Bool
  | 0, _ => none
  | m + 1, x7 =>
    (bif (decide (x7 < (a0.length : Int))) then (((idxS a0 x7).bind fun v8 => (bif (decide (v8 ≥ 65)) then ((idxS a0 x7).bind fun v9 => (some ((decide (v9 ≤ 90))))) else (some (false)))).bind fun o10 =>
          ((bif (!o10) then (bif (x7 == 0) then (some (true)) else ((idxS a0 x7).bind fun v11 => (bif (decide (v11 < 48)) then (some (true)) else ((idxS a0 x7).bind fun v12 => (some ((decide (v12 > 57)))))))) else (some (false))).bind fun o13 =>
          (bif o13 then (some false) else
          (dbd_IsName_L1 a0 K0 m (Go.IntKind.wrap .i64 (x7 + 1)))))) else
        (K0 x7))
def dbd_IsName : Nat → (Str) → Option Bool
  | 0, _ => none
  | k + 1, a0 =>
    (dbd_IsName_L1 a0 (fun y14 =>
      ((bif (decide ((a0.length : Int) ≥ 1)) then (some ((decide ((a0.length : Int) ≤ 8)))) else (some (false))).bind fun o15 =>
        (some o15))) k 0)
def slices_IndexFunc_Field_L1 (k : Nat) (a0 : (List T_api_Field)) (a1 : Nat → T_api_Field → Option Bool) (K0 : Int → Option Int) : Nat → Int → Option Int
  | 0, _ => none
  | m + 1, x4 =>
    (bif (decide (x4 < (a0.length : Int))) then (((idx a0 x4).bind fun v5 => (a1 k v5)).bind fun o7 =>
          (bif o7 then (some x4) else
          (slices_IndexFunc_Field_L1 k a0 a1 K0 m (Go.IntKind.wrap .i64 (x4 + 1))))) else
        (K0 x4))
def slices_IndexFunc_Field : Nat → ((List T_api_Field)) → (Nat → T_api_Field → Option Bool) → Option Int
  | 0, _, _ => none
  | k + 1, a0, a1 =>
    (slices_IndexFunc_Field_L1 k a0 a1 (fun y8 =>
      (some (-1))) k 0)
def slices_ContainsFunc_Field : Nat → ((List T_api_Field)) → (Nat → T_api_Field → Option Bool) → Option Bool
  | 0, _, _ => none
  | k + 1, a0, a1 =>
    (((slices_IndexFunc_Field k a0 a1).bind fun v1 => (some ((decide (v1 ≥ 0))))).bind fun o2 =>
      (some o2))
def dbd_areFields_1 : Nat → (T_api_Field) → (T_api_Field) → Option Bool
  | 0, _, _ => none
  | k + 1, a0, a1 =>
    (some (a0.fName == a1.fName))
def dbd_areFields_L1 (k : Nat) (a0 : (List T_api_Field)) (a1 : Int)  (K0 : Int → Option Bool) : Nat → Int → Option Bool
  | 0, _ => none
  | m + 1, x8 =>
    (bif (decide (x8 < (a0.length : Int))) then (((idx a0 x8).bind fun v9 => (some (x8, v9))).bind fun o10 =>
          (((dbd_IsName k o10.2.fName).bind fun v11 => (bif (!v11) then (some (true)) else (bif (decide (o10.2.fAt < 0)) then (some (true)) else (bif (decide (o10.2.fAt ≥ a1)) then (some (true)) else (bif (decide (o10.2.fBytes < 1)) then (some (true)) else (some ((decide (o10.2.fBytes > (Go.IntKind.wrap .i64 (a1 - o10.2.fAt))))))))))).bind fun o12 =>
          (bif o12 then (some false) else
          (((cut a0 0 o10.1).bind fun v13 => (slices_ContainsFunc_Field k v13 (fun j x0 => (dbd_areFields_1 j x0 o10.2)))).bind fun o15 =>
            (bif o15 then (some false) else
            (dbd_areFields_L1 k a0 a1 K0 m (Go.IntKind.wrap .i64 (x8 + 1)))))))) else
        (K0 x8))
def dbd_areFields : Nat → ((List T_api_Field)) → (Int) → Option Bool
  | 0, _, _ => none
  | k + 1, a0, a1 =>
    (dbd_areFields_L1 k a0 a1 (fun y16 =>
      (some (decide ((a0.length : Int) ≤ 5)))) k 0)
def dbd_isType : Nat → (T_api_Type) → Option Bool
  | 0, _ => none
  | k + 1, a0 =>
    (((dbd_IsName k a0.fName).bind fun v1 => (bif (!v1) then (some (true)) else (bif (decide (a0.fMin < 1)) then (some (true)) else (bif (decide (a0.fMin > a0.fSize)) then (some (true)) else (bif (decide (a0.fSize > 40)) then (some (true)) else ((dbd_areFields k a0.fFields a0.fSize).bind fun v2 => (some ((!v2))))))))).bind fun o3 =>
      (bif o3 then (some false) else
      (bif (a0.fKey == (-1)) then (some (!a0.fUnique)) else
        ((bif (decide (a0.fKey < 0)) then (some (true)) else (some ((decide (a0.fKey ≥ (a0.fFields.length : Int)))))).bind fun o4 =>
          (bif o4 then (some false) else
          (((idx a0.fFields a0.fKey).bind fun v5 => ((idx a0.fFields a0.fKey).bind fun v6 => (some ((decide ((Go.IntKind.wrap .i64 (v5.fAt + v6.fBytes)) ≤ a0.fMin)))))).bind fun o7 =>
            (some o7)))))))
def slices_IndexFunc_Type_L1 (k : Nat) (a0 : (List T_api_Type)) (a1 : Nat → T_api_Type → Option Bool) (K0 : Int → Option Int) : Nat → Int → Option Int
  | 0, _ => none
  | m + 1, x4 =>
    (bif (decide (x4 < (a0.length : Int))) then (((idx a0 x4).bind fun v5 => (a1 k v5)).bind fun o7 =>
          (bif o7 then (some x4) else
          (slices_IndexFunc_Type_L1 k a0 a1 K0 m (Go.IntKind.wrap .i64 (x4 + 1))))) else
        (K0 x4))
def slices_IndexFunc_Type : Nat → ((List T_api_Type)) → (Nat → T_api_Type → Option Bool) → Option Int
  | 0, _, _ => none
  | k + 1, a0, a1 =>
    (slices_IndexFunc_Type_L1 k a0 a1 (fun y8 =>
      (some (-1))) k 0)
def slices_ContainsFunc_Type : Nat → ((List T_api_Type)) → (Nat → T_api_Type → Option Bool) → Option Bool
  | 0, _, _ => none
  | k + 1, a0, a1 =>
    (((slices_IndexFunc_Type k a0 a1).bind fun v1 => (some ((decide (v1 ≥ 0))))).bind fun o2 =>
      (some o2))
def dbd_areTypes_1 : Nat → (T_api_Type) → (T_api_Type) → Option Bool
  | 0, _, _ => none
  | k + 1, a0, a1 =>
    (some (a0.fName == a1.fName))
def slices_Index_int_L1 (a0 : (List Int)) (a1 : Int)  (K0 : Int → Option Int) : Nat → Int → Option Int
  | 0, _ => none
  | m + 1, x3 =>
    (bif (decide (x3 < (a0.length : Int))) then (((idx a0 x3).bind fun v4 => (some ((a1 == v4)))).bind fun o5 =>
          (bif o5 then (some x3) else
          (slices_Index_int_L1 a0 a1 K0 m (Go.IntKind.wrap .i64 (x3 + 1))))) else
        (K0 x3))
def slices_Index_int : Nat → ((List Int)) → (Int) → Option Int
  | 0, _, _ => none
  | k + 1, a0, a1 =>
    (slices_Index_int_L1 a0 a1 (fun y6 =>
      (some (-1))) k 0)
def dbd_areTypes_L1 (k : Nat) (a0 : (List T_api_Type))  (K0 : Int → (List Int) → Option Bool) : Nat → Int → (List Int) → Option Bool
  | 0, _, _ => none
  | m + 1, x15, x16 =>
    (bif (decide (x15 < (a0.length : Int))) then (((idx a0 x15).bind fun v17 => (some (x15, v17))).bind fun o18 =>
          (((dbd_isType k o18.2).bind fun v19 => (bif (!v19) then (some (true)) else ((cut a0 0 o18.1).bind fun v20 => (slices_ContainsFunc_Type k v20 (fun j x0 => (dbd_areTypes_1 j x0 o18.2)))))).bind fun o22 =>
          (bif o22 then (some false) else
          ((slices_Index_int k x16 o18.2.fParent).bind fun o24 =>
            ((bif (o18.1 == 0) then (bif (o18.2.fParent != (-1)) then (some (true)) else (bif (decide (o18.2.fKey < 0)) then (some (true)) else (bif (!o18.2.fUnique) then (some (true)) else ((idx o18.2.fFields o18.2.fKey).bind fun v25 => (bif (decide (v25.fBytes > 24)) then (some (true)) else (bif (decide (o18.1 > 0)) then (some ((decide (o24 < 0)))) else (some (false)))))))) else (bif (decide (o18.1 > 0)) then (some ((decide (o24 < 0)))) else (some (false)))).bind fun o26 =>
            (bif o26 then (some false) else
            (((upTo x16 (Go.IntKind.wrap .i64 (o24 + 1))).bind fun v27 => (app (List.take v27 x16) ([o18.1] : List Int))).bind fun o29 =>
              (bif (decide ((o29.length : Int) > 5)) then (some false) else
              (dbd_areTypes_L1 k a0 K0 m (Go.IntKind.wrap .i64 (x15 + 1)) o29))))))))) else
        (K0 x15 x16))
def dbd_areTypes : Nat → ((List T_api_Type)) → Option Bool
  | 0, _ => none
  | k + 1, a0 =>
    ((bif (decide ((a0.length : Int) < 1)) then (some (true)) else (some ((decide ((a0.length : Int) > 8))))).bind fun o1 =>
      (bif o1 then (some false) else
      (dbd_areTypes_L1 k a0 (fun y30 y31 =>
        (some true)) k 0 ([] : List Int))))
def slices_IndexFunc_Search_L1 (k : Nat) (a0 : (List T_api_Search)) (a1 : Nat → T_api_Search → Option Bool) (K0 : Int → Option Int) : Nat → Int → Option Int
  | 0, _ => none
  | m + 1, x4 =>
    (bif (decide (x4 < (a0.length : Int))) then (((idx a0 x4).bind fun v5 => (a1 k v5)).bind fun o7 =>
          (bif o7 then (some x4) else
          (slices_IndexFunc_Search_L1 k a0 a1 K0 m (Go.IntKind.wrap .i64 (x4 + 1))))) else
        (K0 x4))
def slices_IndexFunc_Search : Nat → ((List T_api_Search)) → (Nat → T_api_Search → Option Bool) → Option Int
  | 0, _, _ => none
  | k + 1, a0, a1 =>
    (slices_IndexFunc_Search_L1 k a0 a1 (fun y8 =>
      (some (-1))) k 0)
def slices_ContainsFunc_Search : Nat → ((List T_api_Search)) → (Nat → T_api_Search → Option Bool) → Option Bool
  | 0, _, _ => none
  | k + 1, a0, a1 =>
    (((slices_IndexFunc_Search k a0 a1).bind fun v1 => (some ((decide (v1 ≥ 0))))).bind fun o2 =>
      (some o2))
def dbd_areIndexes_1 : Nat → (T_api_Search) → (T_api_Search) → Option Bool
  | 0, _, _ => none
  | k + 1, a0, a1 =>
    (some (a0.fName == a1.fName))
def dbd_areIndexes_L1 (k : Nat) (a0 : (List T_api_Search)) (a1 : (List T_api_Type))  (K0 : Int → Option Bool) : Nat → Int → Option Bool
  | 0, _ => none
  | m + 1, x11 =>
    (bif (decide (x11 < (a0.length : Int))) then (((idx a0 x11).bind fun v12 => (some (x11, v12))).bind fun o13 =>
          (((dbd_IsName k o13.2.fName).bind fun v14 => (bif (!v14) then (some (true)) else (bif (decide (o13.2.fType < 0)) then (some (true)) else (bif (decide (o13.2.fType ≥ (a1.length : Int))) then (some (true)) else (bif (decide ((o13.2.fSparse.length : Int) > 1)) then (some (true)) else ((cut a0 0 o13.1).bind fun v15 => (slices_ContainsFunc_Search k v15 (fun j x0 => (dbd_areIndexes_1 j x0 o13.2))))))))).bind fun o17 =>
          (bif o17 then (some false) else
          (((idx a1 o13.2.fType).bind fun v18 => (some (v18.fFields))).bind fun o19 =>
            ((bif (decide (o13.2.fField < 0)) then (some (true)) else (bif (decide (o13.2.fField ≥ (o19.length : Int))) then (some (true)) else ((idx o19 o13.2.fField).bind fun v20 => (some ((decide (v20.fBytes > 20))))))).bind fun o21 =>
            (bif o21 then (some false) else
            (dbd_areIndexes_L1 k a0 a1 K0 m (Go.IntKind.wrap .i64 (x11 + 1))))))))) else
        (K0 x11))
def dbd_areIndexes : Nat → ((List T_api_Search)) → ((List T_api_Type)) → Option Bool
  | 0, _, _ => none
  | k + 1, a0, a1 =>
    (dbd_areIndexes_L1 k a0 a1 (fun y22 =>
      (some (decide ((a0.length : Int) ≤ 3)))) k 0)
def dbd_Valid : Nat → (T_api_Base) → Option Bool
  | 0, _ => none
  | k + 1, a0 =>
    (((dbd_IsName k a0.fName).bind fun v1 => (bif v1 then (bif (decide (a0.fKind ≥ 1)) then (bif (decide (a0.fKind ≤ 4)) then ((dbd_areTypes k a0.fTypes).bind fun v2 => (bif v2 then (dbd_areIndexes k a0.fIndexes a0.fTypes) else (some (false)))) else (some (false))) else (some (false))) else (some (false)))).bind fun o4 =>
      (some o4))
def slices_IndexFunc_int_L1 (k : Nat) (a0 : (List Int)) (a1 : Nat → Int → Option Bool) (K0 : Int → Option Int) : Nat → Int → Option Int
  | 0, _ => none
  | m + 1, x4 =>
    (bif (decide (x4 < (a0.length : Int))) then (((idx a0 x4).bind fun v5 => (a1 k v5)).bind fun o7 =>
          (bif o7 then (some x4) else
          (slices_IndexFunc_int_L1 k a0 a1 K0 m (Go.IntKind.wrap .i64 (x4 + 1))))) else
        (K0 x4))
def slices_IndexFunc_int : Nat → ((List Int)) → (Nat → Int → Option Bool) → Option Int
  | 0, _, _ => none
  | k + 1, a0, a1 =>
    (slices_IndexFunc_int_L1 k a0 a1 (fun y8 =>
      (some (-1))) k 0)
def slices_ContainsFunc_int : Nat → ((List Int)) → (Nat → Int → Option Bool) → Option Bool
  | 0, _, _ => none
  | k + 1, a0, a1 =>
    (((slices_IndexFunc_int k a0 a1).bind fun v1 => (some ((decide (v1 ≥ 0))))).bind fun o2 =>
      (some o2))
def dbd_asked_1 : Nat → (Int) → (T_api_Base) → Option Bool
  | 0, _, _ => none
  | k + 1, a0, a1 =>
    ((bif (decide (a0 < 0)) then (some (true)) else (some ((decide (a0 ≥ (a1.fTypes.length : Int)))))).bind fun o1 =>
      (some o1))
def dbd_asked : Nat → (T_api_Base) → ((List Int)) → Option Int
  | 0, _, _ => none
  | k + 1, a0, a1 =>
    (((dbd_Valid k a0).bind fun v1 => (some ((!v1)))).bind fun o2 =>
      (bif o2 then (some 100) else
      ((slices_ContainsFunc_int k a1 (fun j x0 => (dbd_asked_1 j x0 a0))).bind fun o4 =>
        (bif o4 then (some 2) else
        (some 0)))))
def slices_Reverse_int : Nat → List Int → Option (List Int)
  | 0, _ => none
  | _ + 1, l => revInt l
def dbd_way_L1 (a0 : T_api_Base)  (K0 : Int → (List Int) → Option (List Int)) : Nat → Int → (List Int) → Option (List Int)
  | 0, _, _ => none
  | m + 1, x5, x6 =>
    (bif (decide (x5 ≥ 0)) then ((app x6 ([x5] : List Int)).bind fun o8 =>
          (((idx a0.fTypes x5).bind fun v9 => (some (v9.fParent))).bind fun o10 =>
          (dbd_way_L1 a0 K0 m o10 o8))) else
        (K0 x5 x6))
def dbd_way : Nat → (T_api_Base) → (Int) → Option (List Int)
  | 0, _, _ => none
  | k + 1, a0, a1 =>
    (dbd_way_L1 a0 (fun y11 y12 =>
      (((slices_Reverse_int k y12).bind (sameLen y12)).bind fun o14 =>
        (some o14))) k a1 ([] : List Int))
def dbd_Way : Nat → (T_api_Base) → (Int) → Option ((List Int) × Int)
  | 0, _, _ => none
  | k + 1, a0, a1 =>
    ((dbd_asked k a0 ([a1] : List Int)).bind fun o2 =>
      (bif (o2 != 0) then (some (([] : List Int), o2)) else
      (((dbd_way k a0 a1).bind fun v3 => (some (v3, 0))).bind fun o4 =>
        (some (o4.1, o4.2)))))
def dbd_Depth : Nat → (T_api_Base) → (Int) → Option (Int × Int)
  | 0, _, _ => none
  | k + 1, a0, a1 =>
    (((dbd_Way k a0 a1).bind fun v1 => (some (v1.1, v1.2))).bind fun o2 =>
      (some ((o2.1.length : Int), o2.2)))
def match_asked : Nat → (T_api_Base) → (Int) → Option Int
  | 0, _, _ => none
  | k + 1, a0, a1 =>
    (((dbd_Depth k a0 a1).bind fun v1 => (some (v1.2))).bind fun o2 =>
      (some o2))
def slices_IndexFunc_TermLL_L1 (k : Nat) (a0 : (List (List (List T_api_Term)))) (a1 : Nat → (List (List T_api_Term)) → Option Bool) (K0 : Int → Option Int) : Nat → Int → Option Int
  | 0, _ => none
  | m + 1, x4 =>
    (bif (decide (x4 < (a0.length : Int))) then (((idx a0 x4).bind fun v5 => (a1 k v5)).bind fun o7 =>
          (bif o7 then (some x4) else
          (slices_IndexFunc_TermLL_L1 k a0 a1 K0 m (Go.IntKind.wrap .i64 (x4 + 1))))) else
        (K0 x4))
def slices_IndexFunc_TermLL : Nat → ((List (List (List T_api_Term)))) → (Nat → (List (List T_api_Term)) → Option Bool) → Option Int
  | 0, _, _ => none
  | k + 1, a0, a1 =>
    (slices_IndexFunc_TermLL_L1 k a0 a1 (fun y8 =>
      (some (-1))) k 0)
def slices_ContainsFunc_TermLL : Nat → ((List (List (List T_api_Term)))) → (Nat → (List (List T_api_Term)) → Option Bool) → Option Bool
  | 0, _, _ => none
  | k + 1, a0, a1 =>
    (((slices_IndexFunc_TermLL k a0 a1).bind fun v1 => (some ((decide (v1 ≥ 0))))).bind fun o2 =>
      (some o2))
def slices_IndexFunc_TermL_L1 (k : Nat) (a0 : (List (List T_api_Term))) (a1 : Nat → (List T_api_Term) → Option Bool) (K0 : Int → Option Int) : Nat → Int → Option Int
  | 0, _ => none
  | m + 1, x4 =>
    (bif (decide (x4 < (a0.length : Int))) then (((idx a0 x4).bind fun v5 => (a1 k v5)).bind fun o7 =>
          (bif o7 then (some x4) else
          (slices_IndexFunc_TermL_L1 k a0 a1 K0 m (Go.IntKind.wrap .i64 (x4 + 1))))) else
        (K0 x4))
def slices_IndexFunc_TermL : Nat → ((List (List T_api_Term))) → (Nat → (List T_api_Term) → Option Bool) → Option Int
  | 0, _, _ => none
  | k + 1, a0, a1 =>
    (slices_IndexFunc_TermL_L1 k a0 a1 (fun y8 =>
      (some (-1))) k 0)
def slices_ContainsFunc_TermL : Nat → ((List (List T_api_Term))) → (Nat → (List T_api_Term) → Option Bool) → Option Bool
  | 0, _, _ => none
  | k + 1, a0, a1 =>
    (((slices_IndexFunc_TermL k a0 a1).bind fun v1 => (some ((decide (v1 ≥ 0))))).bind fun o2 =>
      (some o2))
def slices_IndexFunc_Term_L1 (k : Nat) (a0 : (List T_api_Term)) (a1 : Nat → T_api_Term → Option Bool) (K0 : Int → Option Int) : Nat → Int → Option Int
  | 0, _ => none
  | m + 1, x4 =>
    (bif (decide (x4 < (a0.length : Int))) then (((idx a0 x4).bind fun v5 => (a1 k v5)).bind fun o7 =>
          (bif o7 then (some x4) else
          (slices_IndexFunc_Term_L1 k a0 a1 K0 m (Go.IntKind.wrap .i64 (x4 + 1))))) else
        (K0 x4))
def slices_IndexFunc_Term : Nat → ((List T_api_Term)) → (Nat → T_api_Term → Option Bool) → Option Int
  | 0, _, _ => none
  | k + 1, a0, a1 =>
    (slices_IndexFunc_Term_L1 k a0 a1 (fun y8 =>
      (some (-1))) k 0)
def slices_ContainsFunc_Term : Nat → ((List T_api_Term)) → (Nat → T_api_Term → Option Bool) → Option Bool
  | 0, _, _ => none
  | k + 1, a0, a1 =>
    (((slices_IndexFunc_Term k a0 a1).bind fun v1 => (some ((decide (v1 ≥ 0))))).bind fun o2 =>
      (some o2))
def match_field_1 : Nat → (T_api_Field) → (Str) → Option Bool
  | 0, _, _ => none
  | k + 1, a0, a1 =>
    (some (a0.fName == a1))
def match_field : Nat → (T_api_Type) → (Str) → Option (Int × Bool)
  | 0, _, _ => none
  | k + 1, a0, a1 =>
    ((slices_IndexFunc_Field k a0.fFields (fun j x0 => (match_field_1 j x0 a1))).bind fun o2 =>
      (some (o2, (decide (o2 ≥ 0)))))
def match_isTerm : Nat → (T_api_Type) → (T_api_Term) → Option Bool
  | 0, _, _ => none
  | k + 1, a0, a1 =>
    (((match_field k a0 a1.fField).bind fun v1 => (some (v1.1, v1.2))).bind fun o2 =>
      ((bif o2.2 then (bif (decide (a1.fOp ≥ 1)) then (bif (decide (a1.fOp ≤ 6)) then ((idx a0.fFields o2.1).bind fun v3 => (some (((a1.fValue.length : Int) == v3.fBytes)))) else (some (false))) else (some (false))) else (some (false))).bind fun o4 =>
      (some o4)))
def match_valid_1_1 : Nat → (T_api_Term) → (T_api_Type) → Option Bool
  | 0, _, _ => none
  | k + 1, a0, a1 =>
    (((match_isTerm k a1 a0).bind fun v1 => (some ((!v1)))).bind fun o2 =>
      (some o2))
def match_valid_1 : Nat → ((List T_api_Term)) → (T_api_Type) → Option Bool
  | 0, _, _ => none
  | k + 1, a0, a1 =>
    ((bif (decide ((a0.length : Int) < 1)) then (some (true)) else (bif (decide ((a0.length : Int) > 4)) then (some (true)) else (slices_ContainsFunc_Term k a0 (fun j x0 => (match_valid_1_1 j x0 a1))))).bind fun o2 =>
      (some o2))
def match_valid : Nat → (T_api_Type) → ((List (List T_api_Term))) → Option Bool
  | 0, _, _ => none
  | k + 1, a0, a1 =>
    ((bif (decide ((a1.length : Int) ≤ 4)) then ((slices_ContainsFunc_TermL k a1 (fun j x0 => (match_valid_1 j x0 a0))).bind fun v1 => (some ((!v1)))) else (some (false))).bind fun o2 =>
      (some o2))
def match_conditions_1 : Nat → ((List (List T_api_Term))) → (T_api_Type) → Option Bool
  | 0, _, _ => none
  | k + 1, a0, a1 =>
    (((match_valid k a1 a0).bind fun v1 => (some ((!v1)))).bind fun o2 =>
      (some o2))
def match_conditions : Nat → (T_api_Base) → (Int) → ((List (List (List T_api_Term)))) → Option (T_api_Type × Int)
  | 0, _, _, _ => none
  | k + 1, a0, a1, a2 =>
    ((match_asked k a0 a1).bind fun o2 =>
      (bif (o2 != 0) then (some (({ fName := [], fParent := 0, fMin := 0, fSize := 0, fFields := ([] : List T_api_Field), fKey := 0, fUnique := false, fLast := false } : T_api_Type), o2)) else
      ((idx a0.fTypes a1).bind fun o4 =>
        ((slices_ContainsFunc_TermLL k a2 (fun j x0 => (match_conditions_1 j x0 o4))).bind fun o6 =>
        (bif o6 then (some (({ fName := [], fParent := 0, fMin := 0, fSize := 0, fFields := ([] : List T_api_Field), fKey := 0, fUnique := false, fLast := false } : T_api_Type), 110)) else
        (some (o4, 0)))))))
def strings_Repeat : Nat → Str → Int → Option Str
  | 0, _, _ => none
  | _ + 1, s, n => repS s n
def match_sign : Nat → (Int) → Option Str
  | 0, _ => none
  | k + 1, a0 =>
    ((idx ([({ e0 := ([61, 32] : Str), e1 := ([60, 62] : Str), e2 := ([60, 32] : Str), e3 := ([60, 61] : Str), e4 := ([62, 32] : Str), e5 := ([62, 61] : Str) } : T_arr6_Str).e0, ({ e0 := ([61, 32] : Str), e1 := ([60, 62] : Str), e2 := ([60, 32] : Str), e3 := ([60, 61] : Str), e4 := ([62, 32] : Str), e5 := ([62, 61] : Str) } : T_arr6_Str).e1, ({ e0 := ([61, 32] : Str), e1 := ([60, 62] : Str), e2 := ([60, 32] : Str), e3 := ([60, 61] : Str), e4 := ([62, 32] : Str), e5 := ([62, 61] : Str) } : T_arr6_Str).e2, ({ e0 := ([61, 32] : Str), e1 := ([60, 62] : Str), e2 := ([60, 32] : Str), e3 := ([60, 61] : Str), e4 := ([62, 32] : Str), e5 := ([62, 61] : Str) } : T_arr6_Str).e3, ({ e0 := ([61, 32] : Str), e1 := ([60, 62] : Str), e2 := ([60, 32] : Str), e3 := ([60, 61] : Str), e4 := ([62, 32] : Str), e5 := ([62, 61] : Str) } : T_arr6_Str).e4, ({ e0 := ([61, 32] : Str), e1 := ([60, 62] : Str), e2 := ([60, 32] : Str), e3 := ([60, 61] : Str), e4 := ([62, 32] : Str), e5 := ([62, 61] : Str) } : T_arr6_Str).e5] : List Str) (Go.IntKind.wrap .i64 (a0 - 1))).bind fun o2 =>
      (some o2))
def strings_Join : Nat → List Str → Str → Option Str
  | 0, _, _ => none
  | _ + 1, s, n => joinS s n
def match_Format_L2 (k : Nat) (o33 : (List T_api_Term))  (K0 : Int → (List Str) → Option (Str × Int)) : Nat → Int → (List Str) → Option (Str × Int)
  | 0, _, _ => none
  | m + 1, x43, x44 =>
    (bif (decide (x43 < (o33.length : Int))) then ((idx o33 x43).bind fun o46 =>
          (((strings_Repeat k ([32] : Str) (Go.IntKind.wrap .i64 (8 - (o46.fField.length : Int)))).bind fun v47 => ((cat o46.fField v47).bind fun v48 => ((match_sign k o46.fOp).bind fun v49 => ((cat v48 v49).bind fun v50 => ((cat v50 o46.fValue).bind fun v51 => (app x44 ([v51] : List Str))))))).bind fun o53 =>
          (match_Format_L2 k o33 K0 m (Go.IntKind.wrap .i64 (x43 + 1)) o53))) else
        (K0 x43 x44))
def match_Format_L1 (k : Nat) (a2 : (List (List T_api_Term)))  (K0 : (List Str) → Int → Option (Str × Int)) : Nat → (List Str) → Int → Option (Str × Int)
  | 0, _, _ => none
  | m + 1, x30, x31 =>
    (bif (decide (x31 < (a2.length : Int))) then ((idx a2 x31).bind fun o33 =>
          (match_Format_L2 k o33 (fun y54 y55 =>
          (((strings_Join k y55 ([38] : Str)).bind fun v56 => (app x30 ([v56] : List Str))).bind fun o58 =>
            (match_Format_L1 k a2 K0 m o58 (Go.IntKind.wrap .i64 (x31 + 1))))) k 0 ([] : List Str))) else
        (K0 x30 x31))
def match_Format : Nat → (T_api_Base) → (Int) → ((List (List T_api_Term))) → Option (Str × Int)
  | 0, _, _, _ => none
  | k + 1, a0, a1, a2 =>
    (((match_conditions k a0 a1 ([a2] : List (List (List T_api_Term)))).bind fun v1 => (some (v1.2))).bind fun o2 =>
      (bif (o2 != 0) then (some (([] : Str), o2)) else
      (match_Format_L1 k a2 (fun y59 y60 =>
        (((strings_Join k y59 ([124] : Str)).bind fun v61 => (some (v61, 0))).bind fun o62 =>
          (some (o62.1, o62.2)))) k ([] : List Str) 0)))
def match_span_L1 (a0 : Str) (a2 : (List T_api_Term))  (K0 : Str → Str → Int → Option (Str × Str)) : Nat → Int → Str → Str → Option (Str × Str)
  | 0, _, _, _ => none
  | m + 1, x8, x9, x10 =>
    (bif (decide (x8 < (a2.length : Int))) then ((idx a2 x8).bind fun o12 =>
          (bif (!(o12.fField == a0)) then (match_span_L1 a0 a2 K0 m (Go.IntKind.wrap .i64 (x8 + 1)) x9 x10) else
          ((bif (o12.fOp == 1) then (some (true)) else (bif (o12.fOp == 5) then (some (true)) else (some ((o12.fOp == 6))))).bind fun o13 =>
            (bif o13 then ((bif (o12.fOp == 1) then (some (true)) else (bif (o12.fOp == 3) then (some (true)) else (some ((o12.fOp == 4))))).bind fun o14 =>
              (bif o14 then (match_span_L1 a0 a2 K0 m (Go.IntKind.wrap .i64 (x8 + 1)) (Go.AE.maxS x9 o12.fValue) (Go.AE.minS x10 o12.fValue)) else
              (match_span_L1 a0 a2 K0 m (Go.IntKind.wrap .i64 (x8 + 1)) (Go.AE.maxS x9 o12.fValue) x10))) else
            ((bif (o12.fOp == 1) then (some (true)) else (bif (o12.fOp == 3) then (some (true)) else (some ((o12.fOp == 4))))).bind fun o15 =>
              (bif o15 then (match_span_L1 a0 a2 K0 m (Go.IntKind.wrap .i64 (x8 + 1)) x9 (Go.AE.minS x10 o12.fValue)) else
              (match_span_L1 a0 a2 K0 m (Go.IntKind.wrap .i64 (x8 + 1)) x9 x10))))))) else
        (K0 x9 x10 x8))
def match_span : Nat → (Str) → (Int) → ((List T_api_Term)) → Option (Str × Str)
  | 0, _, _, _ => none
  | k + 1, a0, a1, a2 =>
    ((strings_Repeat k ([255] : Str) a1).bind fun o2 =>
      (match_span_L1 a0 a2 (fun y16 y17 y18 =>
      (some (y16, y17))) k 0 ([] : Str) o2))
def match_Range_L1 (k : Nat) (a2 : (List (List T_api_Term))) (o4 : T_api_Field)  (K0 : Str → Str → Int → Option (Str × Str × Int)) : Nat → Str → Str → Int → Option (Str × Str × Int)
  | 0, _, _, _ => none
  | m + 1, x9, x10, x11 =>
    (bif (decide (x11 < (a2.length : Int))) then (((idx a2 x11).bind fun v12 => (some (x11, v12))).bind fun o13 =>
          (((match_span k o4.fName o4.fBytes o13.2).bind fun v14 => (some (v14.1, v14.2))).bind fun o15 =>
          (bif (o13.1 == 0) then (match_Range_L1 k a2 o4 K0 m (Go.AE.minS o15.1 o15.1) (Go.AE.maxS o15.2 o15.2) (Go.IntKind.wrap .i64 (x11 + 1))) else
          (match_Range_L1 k a2 o4 K0 m (Go.AE.minS x9 o15.1) (Go.AE.maxS x10 o15.2) (Go.IntKind.wrap .i64 (x11 + 1)))))) else
        (K0 x9 x10 x11))
def match_Range : Nat → (T_api_Base) → (Int) → ((List (List T_api_Term))) → Option (Str × Str × Int)
  | 0, _, _, _ => none
  | k + 1, a0, a1, a2 =>
    (((match_conditions k a0 a1 ([a2] : List (List (List T_api_Term)))).bind fun v1 => (some (v1.2, v1.1))).bind fun o2 =>
      (bif (o2.1 != 0) then (some (([] : Str), ([] : Str), o2.1)) else
      (bif (decide (o2.2.fKey < 0)) then (some (([] : Str), ([] : Str), 5)) else
        ((idx o2.2.fFields o2.2.fKey).bind fun o4 =>
          (match_Range_L1 k a2 o4 (fun y16 y17 y18 =>
          (bif ((a2.length : Int) == 0) then (((match_span k o4.fName o4.fBytes ([] : List T_api_Term)).bind fun v19 => (some (v19.1, v19.2))).bind fun o20 =>
              (some (o20.1, o20.2, 0))) else
            (some (y16, y17, 0)))) k ([] : Str) ([] : Str) 0)))))
def law12_Awake : Nat → Option Bool
  | 0 => none
  | k + 1 =>
    (((law12_shop k).bind fun v1 => ((match_Format k v1 0 ([([({ fField := ([67, 85, 83, 84, 78, 79] : Str), fOp := 6, fValue := ([48, 49, 48, 48] : Str) } : T_api_Term), ({ fField := ([67, 85, 83, 84, 78, 79] : Str), fOp := 4, fValue := ([48, 49, 57, 57] : Str) } : T_api_Term)] : List T_api_Term)] : List (List T_api_Term))).bind fun v2 => (some (v2.1, v2.2)))).bind fun o3 =>
      (((law12_shop k).bind fun v4 => ((match_Range k v4 0 ([([({ fField := ([67, 85, 83, 84, 78, 79] : Str), fOp := 6, fValue := ([48, 49, 48, 48] : Str) } : T_api_Term), ({ fField := ([67, 85, 83, 84, 78, 79] : Str), fOp := 4, fValue := ([48, 49, 57, 57] : Str) } : T_api_Term)] : List T_api_Term)] : List (List T_api_Term))).bind fun v5 => (some (v5.1, v5.2.1, v5.2.2)))).bind fun o6 =>
      ((bif (o3.2 == 0) then (bif (o6.2.2 == 0) then (bif (o3.1 == ([67, 85, 83, 84, 78, 79, 32, 32, 62, 61, 48, 49, 48, 48, 38, 67, 85, 83, 84, 78, 79, 32, 32, 60, 61, 48, 49, 57, 57] : Str)) then (bif (o6.1 == ([48, 49, 48, 48] : Str)) then (some ((o6.2.1 == ([48, 49, 57, 57] : Str)))) else (some (false))) else (some (false))) else (some (false))) else (some (false))).bind fun o7 =>
      (some o7))))
def ref11_IsName_L1 (a0 : Str)  (K0 : Int → Option Bool) : Nat → Int → Option Bool
  | 0, _ => none
  | m + 1, x7 =>
    (bif (decide (x7 < (a0.length : Int))) then (((idxS a0 x7).bind fun v8 => (bif (decide (v8 ≥ 65)) then ((idxS a0 x7).bind fun v9 => (some ((decide (v9 ≤ 90))))) else (some (false)))).bind fun o10 =>
          ((bif (!o10) then (bif (x7 == 0) then (some (true)) else ((idxS a0 x7).bind fun v11 => (bif (decide (v11 < 48)) then (some (true)) else ((idxS a0 x7).bind fun v12 => (some ((decide (v12 > 57)))))))) else (some (false))).bind fun o13 =>
          (bif o13 then (some false) else
          (ref11_IsName_L1 a0 K0 m (Go.IntKind.wrap .i64 (x7 + 1)))))) else
        (K0 x7))
def ref11_IsName : Nat → (Str) → Option Bool
  | 0, _ => none
  | k + 1, a0 =>
    (ref11_IsName_L1 a0 (fun y14 =>
      ((bif (decide ((a0.length : Int) ≥ 1)) then (some ((decide ((a0.length : Int) ≤ 8)))) else (some (false))).bind fun o15 =>
        (some o15))) k 0)
def ref11_fields_L2 (a0 : T_api_Type) (x11 : Int) (o13 : T_api_Field)  (K0 : Int → Option Bool) : Nat → Int → Option Bool
  | 0, _ => none
  | m + 1, x18 =>
    (bif (decide (x18 < x11)) then (((idx a0.fFields x18).bind fun v19 => (some ((v19.fName == o13.fName)))).bind fun o20 =>
          (bif o20 then (some false) else
          (ref11_fields_L2 a0 x11 o13 K0 m (Go.IntKind.wrap .i64 (x18 + 1))))) else
        (K0 x18))
def ref11_fields_L1 (k : Nat) (a0 : T_api_Type)  (K0 : Int → Option Bool) : Nat → Int → Option Bool
  | 0, _ => none
  | m + 1, x11 =>
    (bif (decide (x11 < (a0.fFields.length : Int))) then ((idx a0.fFields x11).bind fun o13 =>
          (((ref11_IsName k o13.fName).bind fun v14 => (bif (!v14) then (some (true)) else (bif (decide (o13.fAt < 0)) then (some (true)) else (bif (decide (o13.fAt > a0.fSize)) then (some (true)) else (bif (decide (o13.fBytes < 1)) then (some (true)) else (some ((decide (o13.fBytes > (Go.IntKind.wrap .i64 (a0.fSize - o13.fAt))))))))))).bind fun o15 =>
          (bif o15 then (some false) else
          (ref11_fields_L2 a0 x11 o13 (fun y21 =>
            (ref11_fields_L1 k a0 K0 m (Go.IntKind.wrap .i64 (x11 + 1)))) k 0)))) else
        (K0 x11))
def ref11_fields : Nat → (T_api_Type) → Option Bool
  | 0, _ => none
  | k + 1, a0 =>
    (ref11_fields_L1 k a0 (fun y22 =>
      ((bif (decide (a0.fKey < (-1))) then (some (true)) else (bif (decide (a0.fKey ≥ (a0.fFields.length : Int))) then (some (true)) else (bif (decide (a0.fKey < 0)) then (some (a0.fUnique)) else (some (false))))).bind fun o23 =>
        (bif o23 then (some false) else
        ((bif (decide ((a0.fFields.length : Int) ≤ 5)) then (bif (decide (a0.fKey < 0)) then (some (true)) else ((idx a0.fFields a0.fKey).bind fun v24 => ((idx a0.fFields a0.fKey).bind fun v25 => (some ((decide ((Go.IntKind.wrap .i64 (v24.fAt + v25.fBytes)) ≤ a0.fMin))))))) else (some (false))).bind fun o26 =>
          (some o26))))) k 0)
def ref11_above_L1 (a0 : T_api_Base) (a1 : Int)  (K0 : Int → Option Bool) : Nat → Int → Option Bool
  | 0, _ => none
  | m + 1, x5 =>
    (bif (decide (x5 ≥ 0)) then (bif (x5 == a1) then (some true) else
          (((idx a0.fTypes x5).bind fun v6 => (some (v6.fParent))).bind fun o7 =>
            (ref11_above_L1 a0 a1 K0 m o7))) else
        (K0 x5))
def ref11_above : Nat → (T_api_Base) → (Int) → (Int) → Option Bool
  | 0, _, _, _ => none
  | k + 1, a0, a1, a2 =>
    (((idx a0.fTypes a2).bind fun v1 => (some (v1.fParent))).bind fun o2 =>
      (ref11_above_L1 a0 a1 (fun y8 =>
      (some false)) k o2))
def ref11_way_L1 (a0 : T_api_Base)  (K0 : Int → (List Int) → Option (List Int)) : Nat → Int → (List Int) → Option (List Int)
  | 0, _, _ => none
  | m + 1, x5, x6 =>
    (bif (decide (x5 ≥ 0)) then ((app ([x5] : List Int) x6).bind fun o8 =>
          (((idx a0.fTypes x5).bind fun v9 => (some (v9.fParent))).bind fun o10 =>
          (ref11_way_L1 a0 K0 m o10 o8))) else
        (K0 x5 x6))
def ref11_way : Nat → (T_api_Base) → (Int) → Option (List Int)
  | 0, _, _ => none
  | k + 1, a0, a1 =>
    (ref11_way_L1 a0 (fun y11 y12 =>
      (some y12)) k a1 ([] : List Int))
def ref11_Valid_L2 (a0 : T_api_Base) (x20 : Int) (o22 : T_api_Type)  (K0 : Int → Option Bool) : Nat → Int → Option Bool
  | 0, _ => none
  | m + 1, x28 =>
    (bif (decide (x28 < x20)) then (((idx a0.fTypes x28).bind fun v29 => (some ((v29.fName == o22.fName)))).bind fun o30 =>
          (bif o30 then (some false) else
          (ref11_Valid_L2 a0 x20 o22 K0 m (Go.IntKind.wrap .i64 (x28 + 1))))) else
        (K0 x28))
def ref11_Valid_L1 (k : Nat) (a0 : T_api_Base)  (K0 : Int → Option Bool) : Nat → Int → Option Bool
  | 0, _ => none
  | m + 1, x20 =>
    (bif (decide (x20 < (a0.fTypes.length : Int))) then ((idx a0.fTypes x20).bind fun o22 =>
          (((ref11_IsName k o22.fName).bind fun v23 => (bif (!v23) then (some (true)) else (bif (decide (o22.fMin < 1)) then (some (true)) else (bif (decide (o22.fMin > o22.fSize)) then (some (true)) else (bif (decide (o22.fSize > 40)) then (some (true)) else ((ref11_fields k o22).bind fun v24 => (some ((!v24))))))))).bind fun o25 =>
          (bif o25 then (some false) else
          (ref11_Valid_L2 a0 x20 o22 (fun y31 =>
            (bif (x20 == 0) then ((bif (o22.fParent != (-1)) then (some (true)) else (bif (decide (o22.fKey < 0)) then (some (true)) else (bif (!o22.fUnique) then (some (true)) else ((idx o22.fFields o22.fKey).bind fun v32 => (some ((decide (v32.fBytes > 24)))))))).bind fun o33 =>
                (bif o33 then (some false) else
                (ref11_Valid_L1 k a0 K0 m (Go.IntKind.wrap .i64 (x20 + 1))))) else
              ((bif (decide (o22.fParent < 0)) then (some (true)) else (bif (decide (o22.fParent ≥ x20)) then (some (true)) else (bif (o22.fParent != (Go.IntKind.wrap .i64 (x20 - 1))) then ((ref11_above k a0 o22.fParent (Go.IntKind.wrap .i64 (x20 - 1))).bind fun v34 => (bif (!v34) then (some (true)) else ((ref11_way k a0 x20).bind fun v35 => (some ((decide ((v35.length : Int) > 5))))))) else ((ref11_way k a0 x20).bind fun v36 => (some ((decide ((v36.length : Int) > 5)))))))).bind fun o37 =>
                (bif o37 then (some false) else
                (ref11_Valid_L1 k a0 K0 m (Go.IntKind.wrap .i64 (x20 + 1))))))) k 0)))) else
        (K0 x20))
def ref11_Valid_L4 (a0 : T_api_Base) (x52 : Int) (o54 : T_api_Search)  (K0 : Int → Option Bool) : Nat → Int → Option Bool
  | 0, _ => none
  | m + 1, x62 =>
    (bif (decide (x62 < x52)) then (((idx a0.fIndexes x62).bind fun v63 => (some ((v63.fName == o54.fName)))).bind fun o64 =>
          (bif o64 then (some false) else
          (ref11_Valid_L4 a0 x52 o54 K0 m (Go.IntKind.wrap .i64 (x62 + 1))))) else
        (K0 x62))
def ref11_Valid_L3 (k : Nat) (a0 : T_api_Base)  (K0 : Int → Option Bool) : Nat → Int → Option Bool
  | 0, _ => none
  | m + 1, x52 =>
    (bif (decide (x52 < (a0.fIndexes.length : Int))) then ((idx a0.fIndexes x52).bind fun o54 =>
          (((ref11_IsName k o54.fName).bind fun v55 => (bif (!v55) then (some (true)) else (bif (decide (o54.fType < 0)) then (some (true)) else (bif (decide (o54.fType ≥ (a0.fTypes.length : Int))) then (some (true)) else (bif (decide (o54.fField < 0)) then (some (true)) else ((idx a0.fTypes o54.fType).bind fun v56 => (bif (decide (o54.fField ≥ (v56.fFields.length : Int))) then (some (true)) else ((idx a0.fTypes o54.fType).bind fun v57 => ((idx v57.fFields o54.fField).bind fun v58 => (bif (decide (v58.fBytes > 20)) then (some (true)) else (some ((decide ((o54.fSparse.length : Int) > 1)))))))))))))).bind fun o59 =>
          (bif o59 then (some false) else
          (ref11_Valid_L4 a0 x52 o54 (fun y65 =>
            (ref11_Valid_L3 k a0 K0 m (Go.IntKind.wrap .i64 (x52 + 1)))) k 0)))) else
        (K0 x52))
def ref11_Valid : Nat → (T_api_Base) → Option Bool
  | 0, _ => none
  | k + 1, a0 =>
    (((ref11_IsName k a0.fName).bind fun v1 => (bif (!v1) then (some (true)) else (bif (decide (a0.fKind < 1)) then (some (true)) else (bif (decide (a0.fKind > 4)) then (some (true)) else (bif (decide ((a0.fTypes.length : Int) < 1)) then (some (true)) else (bif (decide ((a0.fTypes.length : Int) > 8)) then (some (true)) else (some ((decide ((a0.fIndexes.length : Int) > 3)))))))))).bind fun o2 =>
      (bif o2 then (some false) else
      (ref11_Valid_L1 k a0 (fun y38 =>
        (ref11_Valid_L3 k a0 (fun y66 =>
          (some true)) k 0)) k 0)))
def ref12_isType : Nat → (T_api_Base) → (Int) → Option Int
  | 0, _, _ => none
  | k + 1, a0, a1 =>
    (((ref11_Valid k a0).bind fun v1 => (some ((!v1)))).bind fun o2 =>
      (bif o2 then (some 100) else
      ((bif (decide (a1 < 0)) then (some (true)) else (some ((decide (a1 ≥ (a0.fTypes.length : Int)))))).bind fun o3 =>
        (bif o3 then (some 2) else
        (some 0)))))
def ref11_isType : Nat → (T_api_Base) → (Int) → Option Bool
  | 0, _, _ => none
  | k + 1, a0, a1 =>
    ((bif (decide (a1 ≥ 0)) then (some ((decide (a1 < (a0.fTypes.length : Int))))) else (some (false))).bind fun o1 =>
      (some o1))
def ref11_asked_L1 (k : Nat) (a0 : T_api_Base) (a1 : (List Int))  (K0 : Int → Option Int) : Nat → Int → Option Int
  | 0, _ => none
  | m + 1, x6 =>
    (bif (decide (x6 < (a1.length : Int))) then (((idx a1 x6).bind fun v7 => ((ref11_isType k a0 v7).bind fun v8 => (some ((!v8))))).bind fun o9 =>
          (bif o9 then (some 2) else
          (ref11_asked_L1 k a0 a1 K0 m (Go.IntKind.wrap .i64 (x6 + 1))))) else
        (K0 x6))
def ref11_asked : Nat → (T_api_Base) → ((List Int)) → Option Int
  | 0, _, _ => none
  | k + 1, a0, a1 =>
    (((ref11_Valid k a0).bind fun v1 => (some ((!v1)))).bind fun o2 =>
      (bif o2 then (some 100) else
      (ref11_asked_L1 k a0 a1 (fun y10 =>
        (some 0)) k 0)))
def ref11_Field_L1 (a0 : T_api_Base) (a1 : Int) (a2 : Str)  (K0 : Int → Option (Int × Int)) : Nat → Int → Option (Int × Int)
  | 0, _ => none
  | m + 1, x8 =>
    (((idx a0.fTypes a1).bind fun v9 => (some ((decide (x8 < (v9.fFields.length : Int)))))).bind fun o10 =>
        (bif o10 then (((idx a0.fTypes a1).bind fun v11 => ((idx v11.fFields x8).bind fun v12 => (some ((v12.fName == a2))))).bind fun o13 =>
          (bif o13 then (some (x8, 0)) else
          (ref11_Field_L1 a0 a1 a2 K0 m (Go.IntKind.wrap .i64 (x8 + 1))))) else
        (K0 x8)))
def ref11_Field : Nat → (T_api_Base) → (Int) → (Str) → Option (Int × Int)
  | 0, _, _, _ => none
  | k + 1, a0, a1, a2 =>
    ((ref11_asked k a0 ([a1] : List Int)).bind fun o2 =>
      (bif (o2 != 0) then (some (0, o2)) else
      (ref11_Field_L1 a0 a1 a2 (fun y14 =>
        (some (0, 5))) k 0)))
def ref12_isTerm : Nat → (T_api_Base) → (Int) → (T_api_Term) → Option Bool
  | 0, _, _, _ => none
  | k + 1, a0, a1, a2 =>
    (((ref11_Field k a0 a1 a2.fField).bind fun v1 => (some (v1.1, v1.2))).bind fun o2 =>
      ((bif (o2.2 == 0) then (bif (decide (a2.fOp ≥ 1)) then (bif (decide (a2.fOp ≤ 6)) then ((idx a0.fTypes a1).bind fun v3 => ((idx v3.fFields o2.1).bind fun v4 => (some (((a2.fValue.length : Int) == v4.fBytes))))) else (some (false))) else (some (false))) else (some (false))).bind fun o5 =>
      (some o5)))
def ref12_isCondition_L2 (k : Nat) (a0 : T_api_Base) (a1 : Int) (a2 : (List (List T_api_Term))) (x18 : Int)  (K0 : Int → Option Bool) : Nat → Int → Option Bool
  | 0, _ => none
  | m + 1, x28 =>
    (((idx a2 x18).bind fun v29 => (some ((decide (x28 < (v29.length : Int)))))).bind fun o30 =>
        (bif o30 then (((idx a2 x18).bind fun v31 => ((idx v31 x28).bind fun v32 => ((ref12_isTerm k a0 a1 v32).bind fun v33 => (some ((!v33)))))).bind fun o34 =>
          (bif o34 then (some false) else
          (ref12_isCondition_L2 k a0 a1 a2 x18 K0 m (Go.IntKind.wrap .i64 (x28 + 1))))) else
        (K0 x28)))
def ref12_isCondition_L1 (k : Nat) (a0 : T_api_Base) (a1 : Int) (a2 : (List (List T_api_Term)))  (K0 : Int → Option Bool) : Nat → Int → Option Bool
  | 0, _ => none
  | m + 1, x18 =>
    (bif (decide (x18 < (a2.length : Int))) then (((idx a2 x18).bind fun v19 => (bif (decide ((v19.length : Int) < 1)) then (some (true)) else ((idx a2 x18).bind fun v20 => (some ((decide ((v20.length : Int) > 4))))))).bind fun o21 =>
          (bif o21 then (some false) else
          (ref12_isCondition_L2 k a0 a1 a2 x18 (fun y35 =>
            (ref12_isCondition_L1 k a0 a1 a2 K0 m (Go.IntKind.wrap .i64 (x18 + 1)))) k 0))) else
        (K0 x18))
def ref12_isCondition : Nat → (T_api_Base) → (Int) → ((List (List T_api_Term))) → Option Bool
  | 0, _, _, _ => none
  | k + 1, a0, a1, a2 =>
    (ref12_isCondition_L1 k a0 a1 a2 (fun y36 =>
      (some (decide ((a2.length : Int) ≤ 4)))) k 0)
def ref12_asked : Nat → (T_api_Base) → (Int) → ((List (List T_api_Term))) → ((List (List T_api_Term))) → Option Int
  | 0, _, _, _, _ => none
  | k + 1, a0, a1, a2, a3 =>
    ((ref12_isType k a0 a1).bind fun o2 =>
      ((bif (o2 == 0) then ((ref12_isCondition k a0 a1 a2).bind fun v3 => (bif (!v3) then (some (true)) else ((ref12_isCondition k a0 a1 a3).bind fun v4 => (some ((!v4)))))) else (some (false))).bind fun o5 =>
      (bif o5 then (some 110) else
      (some o2))))
def ref12_Padded_L1   (K0 : Str → Option Str) : Nat → Str → Option Str
  | 0, _ => none
  | m + 1, x3 =>
    (bif (decide ((x3.length : Int) < 8)) then ((cat x3 ([32] : Str)).bind fun o5 =>
          (ref12_Padded_L1 K0 m o5)) else
        (K0 x3))
def ref12_Padded : Nat → (Str) → Option Str
  | 0, _ => none
  | k + 1, a0 =>
    (ref12_Padded_L1 (fun y6 =>
      (some y6)) k a0)
def ref12_sign : Nat → (Int) → Option Str
  | 0, _ => none
  | k + 1, a0 =>
    (bif (a0 == 1) then (some ([61, 32] : Str)) else
      (bif (a0 == 2) then (some ([60, 62] : Str)) else
        (bif (a0 == 3) then (some ([60, 32] : Str)) else
          (bif (a0 == 4) then (some ([60, 61] : Str)) else
            (bif (a0 == 5) then (some ([62, 32] : Str)) else
              (some ([62, 61] : Str)))))))
def ref12_format_L2 (k : Nat) (a0 : (List (List T_api_Term))) (x124 : Int)  (K0 : Str → Int → Option Str) : Nat → Str → Int → Option Str
  | 0, _, _ => none
  | m + 1, x155, x156 =>
    (((idx a0 x124).bind fun v157 => (some ((decide (x156 < (v157.length : Int)))))).bind fun o158 =>
        (bif o158 then (bif (decide (x156 > 0)) then ((cat x155 ([38] : Str)).bind fun o160 =>
            (((idx a0 x124).bind fun v161 => ((idx v161 x156).bind fun v162 => ((ref12_Padded k v162.fField).bind fun v163 => ((idx a0 x124).bind fun v164 => ((idx v164 x156).bind fun v165 => ((ref12_sign k v165.fOp).bind fun v166 => ((cat v163 v166).bind fun v167 => ((idx a0 x124).bind fun v168 => ((idx v168 x156).bind fun v169 => ((cat v167 v169.fValue).bind fun v170 => (cat o160 v170))))))))))).bind fun o172 =>
            (ref12_format_L2 k a0 x124 K0 m o172 (Go.IntKind.wrap .i64 (x156 + 1))))) else
          (((idx a0 x124).bind fun v173 => ((idx v173 x156).bind fun v174 => ((ref12_Padded k v174.fField).bind fun v175 => ((idx a0 x124).bind fun v176 => ((idx v176 x156).bind fun v177 => ((ref12_sign k v177.fOp).bind fun v178 => ((cat v175 v178).bind fun v179 => ((idx a0 x124).bind fun v180 => ((idx v180 x156).bind fun v181 => ((cat v179 v181.fValue).bind fun v182 => (cat x155 v182))))))))))).bind fun o184 =>
            (ref12_format_L2 k a0 x124 K0 m o184 (Go.IntKind.wrap .i64 (x156 + 1))))) else
        (K0 x155 x156)))
def ref12_format_L3 (k : Nat) (a0 : (List (List T_api_Term))) (x124 : Int)  (K0 : Str → Int → Option Str) : Nat → Str → Int → Option Str
  | 0, _, _ => none
  | m + 1, x215, x216 =>
    (((idx a0 x124).bind fun v217 => (some ((decide (x216 < (v217.length : Int)))))).bind fun o218 =>
        (bif o218 then (bif (decide (x216 > 0)) then ((cat x215 ([38] : Str)).bind fun o220 =>
            (((idx a0 x124).bind fun v221 => ((idx v221 x216).bind fun v222 => ((ref12_Padded k v222.fField).bind fun v223 => ((idx a0 x124).bind fun v224 => ((idx v224 x216).bind fun v225 => ((ref12_sign k v225.fOp).bind fun v226 => ((cat v223 v226).bind fun v227 => ((idx a0 x124).bind fun v228 => ((idx v228 x216).bind fun v229 => ((cat v227 v229.fValue).bind fun v230 => (cat o220 v230))))))))))).bind fun o232 =>
            (ref12_format_L3 k a0 x124 K0 m o232 (Go.IntKind.wrap .i64 (x216 + 1))))) else
          (((idx a0 x124).bind fun v233 => ((idx v233 x216).bind fun v234 => ((ref12_Padded k v234.fField).bind fun v235 => ((idx a0 x124).bind fun v236 => ((idx v236 x216).bind fun v237 => ((ref12_sign k v237.fOp).bind fun v238 => ((cat v235 v238).bind fun v239 => ((idx a0 x124).bind fun v240 => ((idx v240 x216).bind fun v241 => ((cat v239 v241.fValue).bind fun v242 => (cat x215 v242))))))))))).bind fun o244 =>
            (ref12_format_L3 k a0 x124 K0 m o244 (Go.IntKind.wrap .i64 (x216 + 1))))) else
        (K0 x215 x216)))
def ref12_format_L1 (k : Nat) (a0 : (List (List T_api_Term)))  (K0 : Str → Int → Option Str) : Nat → Str → Int → Option Str
  | 0, _, _ => none
  | m + 1, x123, x124 =>
    (bif (decide (x124 < (a0.length : Int))) then (bif (decide (x124 > 0)) then ((cat x123 ([124] : Str)).bind fun o126 =>
            (ref12_format_L2 k a0 x124 (fun y185 y186 =>
            (ref12_format_L1 k a0 K0 m y185 (Go.IntKind.wrap .i64 (x124 + 1)))) k o126 0)) else
          (ref12_format_L3 k a0 x124 (fun y245 y246 =>
            (ref12_format_L1 k a0 K0 m y245 (Go.IntKind.wrap .i64 (x124 + 1)))) k x123 0)) else
        (K0 x123 x124))
def ref12_format : Nat → ((List (List T_api_Term))) → Option Str
  | 0, _ => none
  | k + 1, a0 =>
    (ref12_format_L1 k a0 (fun y247 y248 =>
      (some y247)) k ([] : Str) 0)
def ref12_Format : Nat → (T_api_Base) → (Int) → ((List (List T_api_Term))) → Option (Str × Int)
  | 0, _, _, _ => none
  | k + 1, a0, a1, a2 =>
    ((ref12_asked k a0 a1 a2 ([] : List (List T_api_Term))).bind fun o2 =>
      (bif (o2 != 0) then (some (([] : Str), o2)) else
      (((ref12_format k a2).bind fun v3 => (some (v3, 0))).bind fun o4 =>
        (some (o4.1, o4.2)))))
def strings_TrimRight : Nat → Str → Str → Option Str
  | 0, _, _ => none
  | _ + 1, s, n => trimR s n
def match_take_L1 (k : Nat) (a1 : Str)  (K0 : Int → Option (T_api_Term × Str × Bool)) : Nat → Int → Option (T_api_Term × Str × Bool)
  | 0, _ => none
  | m + 1, x7 =>
    ((bif (decide (x7 ≤ 6)) then ((match_sign k x7).bind fun v8 => ((cut a1 8 10).bind fun v9 => (some ((!(v8 == v9)))))) else (some (false))).bind fun o10 =>
        (bif o10 then (match_take_L1 k a1 K0 m (Go.IntKind.wrap .i64 (x7 + 1))) else
        (K0 x7)))
def match_take : Nat → (T_api_Type) → (Str) → Option (T_api_Term × Str × Bool)
  | 0, _, _ => none
  | k + 1, a0, a1 =>
    (bif (decide ((a1.length : Int) < 10)) then (some (({ fField := [], fOp := 0, fValue := [] } : T_api_Term), ([] : Str), false)) else
      (((cut a1 0 8).bind fun v1 => (strings_TrimRight k v1 ([32] : Str))).bind fun o3 =>
        (match_take_L1 k a1 (fun y11 =>
        (((match_field k a0 o3).bind fun v12 => (some (v12.1, v12.2))).bind fun o13 =>
          ((bif (!o13.2) then (some (true)) else (some ((decide (y11 > 6))))).bind fun o14 =>
          (bif o14 then (some (({ fField := [], fOp := 0, fValue := [] } : T_api_Term), ([] : Str), false)) else
          ((cut a1 10 (a1.length : Int)).bind fun o16 =>
            (((idx a0.fFields o13.1).bind fun v17 => (some (v17.fBytes))).bind fun o18 =>
            (bif (decide ((o16.length : Int) < o18)) then (some (({ fField := [], fOp := 0, fValue := [] } : T_api_Term), ([] : Str), false)) else
            ((cut o16 0 o18).bind fun o20 =>
              (((cut o16 o18 (o16.length : Int)).bind fun v21 => (some (v21, true, ({ fField := o3, fOp := y11, fValue := o20 } : T_api_Term)))).bind fun o22 =>
              (some (o22.2.2, o22.1, o22.2.1))))))))))) k 1)))
def match_Parse_L1 (k : Nat) (a0 : T_api_Base) (a1 : Int)  (K0 : Str → (List (List T_api_Term)) → Option ((List (List T_api_Term)) × Int)) : Nat → Str → (List (List T_api_Term)) → Option ((List (List T_api_Term)) × Int)
  | 0, _, _ => none
  | m + 1, x20, x21 =>
    (((idx a0.fTypes a1).bind fun v22 => ((match_take k v22 x20).bind fun v23 => (some (v23.2.1, v23.2.2, v23.1)))).bind fun o24 =>
        (bif (!o24.2.1) then (some (([] : List (List T_api_Term)), 3)) else
        (((inB x21.length (Go.IntKind.wrap .i64 ((x21.length : Int) - 1))).bind fun v25 => ((x21[0 + (Go.IntKind.wrap .i64 ((x21.length : Int) - 1)).toNat]?).bind fun v26 => ((app v26 ([o24.2.2] : List T_api_Term)).bind fun v27 => ((inB x21.length (Go.IntKind.wrap .i64 ((x21.length : Int) - 1))).bind fun v28 => ((x21[0 + (Go.IntKind.wrap .i64 ((x21.length : Int) - 1)).toNat]?).bind fun v29 => (some ((x21.set (0 + (Go.IntKind.wrap .i64 ((x21.length : Int) - 1)).toNat) v27)))))))).bind fun o30 =>
          (bif (o24.1 == ([] : Str)) then (K0 o24.1 o30) else
          ((idxS o24.1 0).bind fun o32 =>
            (bif (o32 == 38) then ((cut o24.1 1 (o24.1.length : Int)).bind fun o34 =>
              (match_Parse_L1 k a0 a1 K0 m o34 o30)) else
            (bif (o32 == 124) then ((app o30 ([([] : List T_api_Term)] : List (List T_api_Term))).bind fun o36 =>
                ((cut o24.1 1 (o24.1.length : Int)).bind fun o38 =>
                (match_Parse_L1 k a0 a1 K0 m o38 o36))) else
              (some (([] : List (List T_api_Term)), 3)))))))))
def match_Parse : Nat → (T_api_Base) → (Int) → (Str) → Option ((List (List T_api_Term)) × Int)
  | 0, _, _, _ => none
  | k + 1, a0, a1, a2 =>
    ((match_asked k a0 a1).bind fun o2 =>
      (bif (o2 != 0) then (some (([] : List (List T_api_Term)), o2)) else
      (bif (a2 == ([] : Str)) then (some (([] : List (List T_api_Term)), 0)) else
        (match_Parse_L1 k a0 a1 (fun y39 y40 =>
          (((idx a0.fTypes a1).bind fun v41 => ((match_valid k v41 y40).bind fun v42 => (some ((!v42))))).bind fun o43 =>
            (bif o43 then (some (([] : List (List T_api_Term)), 3)) else
            (some (y40, 0))))) k a2 ([([] : List T_api_Term)] : List (List T_api_Term))))))
def ref12_Front_L2 (k : Nat) (a2 : Str) (o31 : T_api_Field)  (K0 : Int → Option (T_api_Term × Str × Bool)) : Nat → Int → Option (T_api_Term × Str × Bool)
  | 0, _ => none
  | m + 1, x41 =>
    (bif (decide (x41 ≤ 6)) then (((ref12_Padded k o31.fName).bind fun v42 => ((ref12_sign k x41).bind fun v43 => (cat v42 v43))).bind fun o45 =>
          ((bif (decide ((a2.length : Int) ≥ (Go.IntKind.wrap .i64 ((o45.length : Int) + o31.fBytes)))) then ((cut a2 0 (o45.length : Int)).bind fun v46 => (some ((v46 == o45)))) else (some (false))).bind fun o47 =>
          (bif o47 then (((cut a2 (o45.length : Int) (Go.IntKind.wrap .i64 ((o45.length : Int) + o31.fBytes))).bind fun v48 => ((cut a2 (Go.IntKind.wrap .i64 ((o45.length : Int) + o31.fBytes)) (a2.length : Int)).bind fun v49 => (some (v49, true, ({ fField := o31.fName, fOp := x41, fValue := v48 } : T_api_Term))))).bind fun o50 =>
            (some (o50.2.2, o50.1, o50.2.1))) else
          (ref12_Front_L2 k a2 o31 K0 m (Go.IntKind.wrap .i64 (x41 + 1)))))) else
        (K0 x41))
def ref12_Front_L1 (k : Nat) (a0 : T_api_Base) (a1 : Int) (a2 : Str)  (K0 : Int → Option (T_api_Term × Str × Bool)) : Nat → Int → Option (T_api_Term × Str × Bool)
  | 0, _ => none
  | m + 1, x26 =>
    (((idx a0.fTypes a1).bind fun v27 => (some ((decide (x26 < (v27.fFields.length : Int)))))).bind fun o28 =>
        (bif o28 then (((idx a0.fTypes a1).bind fun v29 => (idx v29.fFields x26)).bind fun o31 =>
          (ref12_Front_L2 k a2 o31 (fun y51 =>
          (ref12_Front_L1 k a0 a1 a2 K0 m (Go.IntKind.wrap .i64 (x26 + 1)))) k 1)) else
        (K0 x26)))
def ref12_Front : Nat → (T_api_Base) → (Int) → (Str) → Option (T_api_Term × Str × Bool)
  | 0, _, _, _ => none
  | k + 1, a0, a1, a2 =>
    (ref12_Front_L1 k a0 a1 a2 (fun y52 =>
      (some (({ fField := [], fOp := 0, fValue := [] } : T_api_Term), ([] : Str), false))) k 0)
def ref12_Begin_L1 (k : Nat) (a0 : T_api_Base) (a1 : Int)   : Nat → Str → (List T_api_Term) → (List (List T_api_Term)) → Option ((List (List T_api_Term)) × Str × Bool)
  | 0, _, _, _ => none
  | m + 1, x17, x18, x19 =>
    (((ref12_Front k a0 a1 x17).bind fun v20 => (some (v20.2.1, v20.2.2, v20.1))).bind fun o21 =>
        (bif (!o21.2.1) then (some (([] : List (List T_api_Term)), ([] : Str), false)) else
        ((app x18 ([o21.2.2] : List T_api_Term)).bind fun o23 =>
          ((bif (!(o21.1 == ([] : Str))) then ((idxS o21.1 0).bind fun v24 => (some ((v24 == 38)))) else (some (false))).bind fun o25 =>
          (bif o25 then ((cut o21.1 1 (o21.1.length : Int)).bind fun o27 =>
            (ref12_Begin_L1 k a0 a1 m o27 o23 x19)) else
          ((app x19 ([o23] : List (List T_api_Term))).bind fun o29 =>
            ((bif (o21.1 == ([] : Str)) then (some (true)) else ((idxS o21.1 0).bind fun v30 => (some ((v30 != 124))))).bind fun o31 =>
            (bif o31 then (((ref12_isCondition k a0 a1 o29).bind fun v32 => (some (o29, o21.1, v32))).bind fun o33 =>
              (some (o33.1, o33.2.1, o33.2.2))) else
            ((cut o21.1 1 (o21.1.length : Int)).bind fun o35 =>
              (ref12_Begin_L1 k a0 a1 m o35 ([] : List T_api_Term) o29))))))))))
def ref12_Begin : Nat → (T_api_Base) → (Int) → (Str) → Option ((List (List T_api_Term)) × Str × Bool)
  | 0, _, _, _ => none
  | k + 1, a0, a1, a2 =>
    (ref12_Begin_L1 k a0 a1 k a2 ([] : List T_api_Term) ([] : List (List T_api_Term)))
def ref12_Parse : Nat → (T_api_Base) → (Int) → (Str) → Option ((List (List T_api_Term)) × Int)
  | 0, _, _, _ => none
  | k + 1, a0, a1, a2 =>
    ((ref12_isType k a0 a1).bind fun o2 =>
      ((bif (o2 != 0) then (some (true)) else (some ((a2 == ([] : Str))))).bind fun o3 =>
      (bif o3 then (some (([] : List (List T_api_Term)), o2)) else
      (((ref12_Begin k a0 a1 a2).bind fun v4 => (some (v4.1, v4.2.1, v4.2.2))).bind fun o5 =>
        ((bif (!o5.2.2) then (some (true)) else (some ((!(o5.2.1 == ([] : Str)))))).bind fun o6 =>
        (bif o6 then (some (([] : List (List T_api_Term)), 3)) else
        (some (o5.1, 0))))))))
def ref12_Same_L2 (a0 : (List (List T_api_Term))) (a1 : (List (List T_api_Term))) (x20 : Int)  (K0 : Int → Option Bool) : Nat → Int → Option Bool
  | 0, _ => none
  | m + 1, x31 =>
    (((idx a0 x20).bind fun v32 => (some ((decide (x31 < (v32.length : Int)))))).bind fun o33 =>
        (bif o33 then (((idx a0 x20).bind fun v34 => ((idx v34 x31).bind fun v35 => ((idx a1 x20).bind fun v36 => ((idx v36 x31).bind fun v37 => (some ((!(v35.fField == v37.fField && (v35.fOp == v37.fOp && (v35.fValue == v37.fValue && true)))))))))).bind fun o38 =>
          (bif o38 then (some false) else
          (ref12_Same_L2 a0 a1 x20 K0 m (Go.IntKind.wrap .i64 (x31 + 1))))) else
        (K0 x31)))
def ref12_Same_L1 (k : Nat) (a0 : (List (List T_api_Term))) (a1 : (List (List T_api_Term)))  (K0 : Int → Option Bool) : Nat → Int → Option Bool
  | 0, _ => none
  | m + 1, x20 =>
    (bif (decide (x20 < (a0.length : Int))) then (((idx a0 x20).bind fun v21 => ((idx a1 x20).bind fun v22 => (some (((v21.length : Int) != (v22.length : Int)))))).bind fun o23 =>
          (bif o23 then (some false) else
          (ref12_Same_L2 a0 a1 x20 (fun y39 =>
            (ref12_Same_L1 k a0 a1 K0 m (Go.IntKind.wrap .i64 (x20 + 1)))) k 0))) else
        (K0 x20))
def ref12_Same : Nat → ((List (List T_api_Term))) → ((List (List T_api_Term))) → Option Bool
  | 0, _, _ => none
  | k + 1, a0, a1 =>
    (bif ((a0.length : Int) != (a1.length : Int)) then (some false) else
      (ref12_Same_L1 k a0 a1 (fun y40 =>
        (some true)) k 0))
def slices_EqualFunc_TermL_v20_L1 (k : Nat) (a0 : (List (List T_api_Term))) (a1 : (List (List T_api_Term))) (a2 : Nat → (List T_api_Term) → (List T_api_Term) → Option Bool) (K0 : Int → Option Bool) : Nat → Int → Option Bool
  | 0, _ => none
  | m + 1, x7 =>
    (bif (decide (x7 < (a0.length : Int))) then (((idx a0 x7).bind fun v8 => (some (x7, v8))).bind fun o9 =>
          ((idx a1 o9.1).bind fun o11 =>
          (((a2 k o9.2 o11).bind fun v12 => (some ((!v12)))).bind fun o13 =>
          (bif o13 then (some false) else
          (slices_EqualFunc_TermL_v20_L1 k a0 a1 a2 K0 m (Go.IntKind.wrap .i64 (x7 + 1))))))) else
        (K0 x7))
def slices_EqualFunc_TermL_v20 : Nat → ((List (List T_api_Term))) → ((List (List T_api_Term))) → (Nat → (List T_api_Term) → (List T_api_Term) → Option Bool) → Option Bool
  | 0, _, _, _ => none
  | k + 1, a0, a1, a2 =>
    (bif ((a0.length : Int) != (a1.length : Int)) then (some false) else
      (slices_EqualFunc_TermL_v20_L1 k a0 a1 a2 (fun y14 =>
        (some true)) k 0))
def slices_Equal_Term_L1 (a0 : (List T_api_Term)) (a1 : (List T_api_Term))  (K0 : Int → Option Bool) : Nat → Int → Option Bool
  | 0, _ => none
  | m + 1, x4 =>
    (bif (decide (x4 < (a0.length : Int))) then (((idx a0 x4).bind fun v5 => ((idx a1 x4).bind fun v6 => (some ((!(v5.fField == v6.fField && (v5.fOp == v6.fOp && (v5.fValue == v6.fValue && true)))))))).bind fun o7 =>
          (bif o7 then (some false) else
          (slices_Equal_Term_L1 a0 a1 K0 m (Go.IntKind.wrap .i64 (x4 + 1))))) else
        (K0 x4))
def slices_Equal_Term : Nat → ((List T_api_Term)) → ((List T_api_Term)) → Option Bool
  | 0, _, _ => none
  | k + 1, a0, a1 =>
    (bif ((a0.length : Int) != (a1.length : Int)) then (some false) else
      (slices_Equal_Term_L1 a0 a1 (fun y8 =>
        (some true)) k 0))
def match_Same : Nat → ((List (List T_api_Term))) → ((List (List T_api_Term))) → Option Bool
  | 0, _, _ => none
  | k + 1, a0, a1 =>
    ((slices_EqualFunc_TermL_v20 k a0 a1 (fun j x0 x1 => (slices_Equal_Term j x0 x1))).bind fun o2 =>
      (some o2))
def law12_MatchTexts : Nat → (T_progenylaw12_Case) → (Str) → Option Bool
  | 0, _, _ => none
  | k + 1, a0, a1 =>
    (((law12_Large k a0.fBase).bind fun v1 => (bif v1 then (some (true)) else ((law12_Long k a0.fWhen).bind fun v2 => (bif v2 then (some (true)) else (some ((decide ((a1.length : Int) > 1000)))))))).bind fun o3 =>
      (bif o3 then ((law12_Awake k).bind fun o5 =>
        (some o5)) else
      (((match_Format k a0.fBase a0.fType a0.fWhen).bind fun v6 => (some (v6.1, v6.2))).bind fun o7 =>
        (((ref12_Format k a0.fBase a0.fType a0.fWhen).bind fun v8 => (some (v8.1, v8.2))).bind fun o9 =>
        (((match_Parse k a0.fBase a0.fType a1).bind fun v10 => (some (v10.1, v10.2))).bind fun o11 =>
        (((ref12_Parse k a0.fBase a0.fType a1).bind fun v12 => (some (v12.1, v12.2))).bind fun o13 =>
        ((bif (!(o7.1 == o9.1)) then (some (true)) else (bif (o7.2 != o9.2) then (some (true)) else ((ref12_Same k o11.1 o13.1).bind fun v14 => (bif (!v14) then (some (true)) else (some ((o11.2 != o13.2))))))).bind fun o15 =>
        (bif o15 then (some false) else
        (bif (o7.2 == 0) then (((match_Parse k a0.fBase a0.fType o7.1).bind fun v16 => (some (v16.1, v16.2))).bind fun o17 =>
            ((bif (o17.2 != 0) then (some (true)) else ((match_Same k o17.1 a0.fWhen).bind fun v18 => (some ((!v18))))).bind fun o19 =>
            (bif o19 then (some false) else
            (bif (o11.2 == 0) then (((match_Format k a0.fBase a0.fType o11.1).bind fun v20 => (some (v20.1, v20.2))).bind fun o21 =>
                ((bif (o21.2 != 0) then (some (true)) else (some ((!(o21.1 == a1))))).bind fun o22 =>
                (bif o22 then (some false) else
                ((law12_Awake k).bind fun o24 =>
                  (some o24))))) else
              ((law12_Awake k).bind fun o26 =>
                (some o26)))))) else
          (bif (o11.2 == 0) then (((match_Format k a0.fBase a0.fType o11.1).bind fun v20 => (some (v20.1, v20.2))).bind fun o27 =>
              ((bif (o27.2 != 0) then (some (true)) else (some ((!(o27.1 == a1))))).bind fun o28 =>
              (bif o28 then (some false) else
              ((law12_Awake k).bind fun o29 =>
                (some o29))))) else
            ((law12_Awake k).bind fun o30 =>
              (some o30))))))))))))
end Go.Sh
namespace Go.Sh
open Go.AE
set_option linter.unusedVariables false
theorem maxLen_eq : maxLen = 9223372036854775807 := rfl
theorem wrap_in {x : Int} (h : -9223372036854775808 ≤ x) (h' : x ≤ 9223372036854775807) : Go.IntKind.wrap .i64 x = x := IntWalk.i64_in x ⟨h, h'⟩
theorem wrap_next {i n : Nat} (h : i < n) (hn : n ≤ maxLen) : Go.IntKind.wrap .i64 ((i : Int) + 1) = ((i + 1 : Nat) : Int) := by
  rw [wrap_in] <;> (try rw [maxLen_eq] at hn) <;> omega
theorem idx_at {α : Type} {l : List α} {i : Nat} (h : i < l.length) : idx l (i : Int) = some l[i] := by
  unfold idx
  rw [if_pos (by omega), Int.toNat_natCast, List.getElem?_eq_getElem h]
theorem idx_of {α : Type} {l : List α} {x : Int} (h0 : 0 ≤ x) (h : x < (l.length : Int)) : idx l x = some (l[x.toNat]'(by omega)) := by
  unfold idx
  rw [if_pos h0, List.getElem?_eq_getElem (by omega)]
theorem idxS_at {l : List UInt8} {i : Nat} (h : i < l.length) : idxS l (i : Int) = some (l[i].toNat : Int) := by
  unfold idxS
  rw [if_pos (by omega), Int.toNat_natCast, List.getElem?_eq_getElem h]
  rfl
theorem cut_take {α : Type} {l : List α} {i : Nat} (h : i ≤ l.length) : cut l 0 (i : Int) = some (l.take i) := by
  unfold cut
  rw [if_pos ⟨by omega, by omega, by omega⟩]
  simp
theorem app_ok {α : Type} {l m : List α} (h : l.length + m.length ≤ maxList) : app l m = some (l ++ m) := by
  unfold app; rw [if_pos h]
def scan {β : Type} (g : Nat → Bool) (r : Nat → β) (z : β) : Nat → Nat → β
  | 0, _ => z
  | d + 1, i => bif g i then r i else scan g r z d (i + 1)
theorem loop_scan {S β : Type} {n : Nat} {L : Nat → Int → S → β} {σ : Nat → S} {g : Nat → Bool} {r : Nat → β} {z : β}
    (hs : ∀ m i, i < n → (∀ j, j < i → g j = false) → L (m + 1) (i : Int) (σ i) = bif g i then r i else L m ((i + 1 : Nat) : Int) (σ (i + 1)))
    (he : ∀ m, (∀ j, j < n → g j = false) → L (m + 1) (n : Int) (σ n) = z) : ∀ d i m, i + d = n → (∀ j, j < i → g j = false) → d < m → L m (i : Int) (σ i) = scan g r z d i
  | 0, i, m, hd, hb, hm => by
    obtain ⟨m, rfl⟩ : ∃ q, m = q + 1 := ⟨m - 1, by omega⟩
    have : i = n := by omega
    subst this
    exact he m hb
  | d + 1, i, m, hd, hb, hm => by
    obtain ⟨m, rfl⟩ : ∃ q, m = q + 1 := ⟨m - 1, by omega⟩
    rw [hs m i (by omega) hb, scan]
    cases hg : g i with
    | true => rfl
    | false =>
      simp only [cond_false]
      refine loop_scan hs he d (i + 1) m (by omega) (fun j hj => ?_) (by omega)
      by_cases e : j = i
      · subst e; exact hg
      · exact hb j (by omega)
theorem loop0 {β : Type} {n : Nat} {L : Nat → Int → β} {g : Nat → Bool} {r : Nat → β} {z : β}
    (hs : ∀ m i, i < n → (∀ j, j < i → g j = false) → L (m + 1) (i : Int) = bif g i then r i else L m ((i + 1 : Nat) : Int))
    (he : ∀ m, (∀ j, j < n → g j = false) → L (m + 1) (n : Int) = z) {m : Nat} (hm : n < m) : L m 0 = scan g r z n 0 :=
  loop_scan (S := Unit) (L := fun m x _ => L m x) (σ := fun _ => ()) hs he n 0 m (by omega) (fun j hj => by omega) hm
theorem loopS {S β : Type} {n : Nat} {L : Nat → Int → S → β} {σ : Nat → S} {g : Nat → Bool} {r : Nat → β} {z : β}
    (hs : ∀ m i, i < n → (∀ j, j < i → g j = false) → L (m + 1) (i : Int) (σ i) = bif g i then r i else L m ((i + 1 : Nat) : Int) (σ (i + 1)))
    (he : ∀ m, (∀ j, j < n → g j = false) → L (m + 1) (n : Int) (σ n) = z) {m : Nat} (hm : n < m) {s0 : S} (h0 : σ 0 = s0) : L m 0 s0 = scan g r z n 0 := by
  subst h0
  exact loop_scan hs he n 0 m (by omega) (fun j hj => by omega) hm
theorem scan_congr {β : Type} {g g' : Nat → Bool} {r r' : Nat → β} {z z' : β} : ∀ d i, (∀ j, i ≤ j → j < i + d → (∀ q, i ≤ q → q < j → g q = false) → g j = g' j ∧ (g j = true → r j = r' j)) → ((∀ q, i ≤ q → q < i + d → g q = false) → z = z') → scan g r z d i = scan g' r' z' d i
  | 0, i, h, hz => hz (fun q h1 h2 => by omega)
  | d + 1, i, h, hz => by
    obtain ⟨h1, h2⟩ := h i (Nat.le_refl i) (by omega) (fun q a b => by omega)
    simp only [scan]
    rw [← h1]
    cases hg : g i with
    | true => simp only [cond_true]; exact h2 hg
    | false =>
      simp only [cond_false]
      refine scan_congr d (i + 1) (fun j a b hq => h j (by omega) (by omega) (fun q c e => ?_)) (fun hq => hz (fun q a b => ?_))
      · by_cases e2 : q = i
        · subst e2; exact hg
        · exact hq q (by omega) e
      · by_cases e2 : q = i
        · subst e2; exact hg
        · exact hq q (by omega) (by omega)
def anyB (g : Nat → Bool) (n : Nat) : Bool := scan g (fun _ => true) false n 0
theorem scan_map {β γ : Type} (f : β → γ) {g : Nat → Bool} {r : Nat → β} {z : β} : ∀ d i, f (scan g r z d i) = scan g (fun i => f (r i)) (f z) d i
  | 0, _ => rfl
  | d + 1, i => by
    simp only [scan]
    cases g i with
    | true => rfl
    | false => exact scan_map f d (i + 1)
theorem scan_const {β : Type} {g : Nat → Bool} {r z : β} (n : Nat) : scan g (fun _ => r) z n 0 = bif anyB g n then r else z := by
  unfold anyB
  have : ∀ d i, scan g (fun _ => r) z d i = bif scan g (fun _ => true) false d i then r else z := by
    intro d
    induction d with
    | zero => intro i; rfl
    | succ d ih =>
      intro i
      simp only [scan]
      cases g i with
      | true => rfl
      | false => exact ih (i + 1)
  exact this n 0
theorem scan_false {β : Type} {g : Nat → Bool} {r : Nat → β} {z : β} : ∀ d i, (∀ q, i ≤ q → q < i + d → g q = false) → scan g r z d i = z
  | 0, _, _ => rfl
  | d + 1, i, h => by
    simp only [scan, h i (Nat.le_refl i) (by omega), cond_false]
    exact scan_false d (i + 1) (fun q a b => h q (by omega) (by omega))
/-- Either the first place where it holds, or nowhere. -/
theorem scan_cases {β : Type} (g : Nat → Bool) (r : Nat → β) (z : β) : ∀ d i, ((∀ q, i ≤ q → q < i + d → g q = false) ∧ scan g r z d i = z) ∨ ∃ j, i ≤ j ∧ j < i + d ∧ g j = true ∧ (∀ q, i ≤ q → q < j → g q = false) ∧ scan g r z d i = r j
  | 0, i => .inl ⟨fun q a b => by omega, rfl⟩
  | d + 1, i => by
    simp only [scan]
    cases hg : g i with
    | true => exact .inr ⟨i, Nat.le_refl i, by omega, hg, fun q a b => by omega, rfl⟩
    | false =>
      simp only [cond_false]
      rcases scan_cases g r z d (i + 1) with ⟨h1, h2⟩ | ⟨j, h1, h2, h3, h4, h5⟩
      · exact .inl ⟨fun q a b => by
          by_cases e : q = i
          · subst e; exact hg
          · exact h1 q (by omega) (by omega), h2⟩
      · exact .inr ⟨j, by omega, by omega, h3, fun q a b => by
          by_cases e : q = i
          · subst e; exact hg
          · exact h4 q (by omega) b, h5⟩
theorem anyB_iff {g : Nat → Bool} {n : Nat} : anyB g n = true ↔ ∃ i, i < n ∧ g i = true := by
  unfold anyB
  rcases scan_cases g (fun _ => true) false n 0 with ⟨h1, h2⟩ | ⟨j, h1, h2, h3, h4, h5⟩
  · rw [h2]
    exact ⟨fun h => absurd h (by simp), fun ⟨i, hi, hg⟩ => absurd hg (by rw [h1 i (by omega) (by omega)]; simp)⟩
  · rw [h5]
    exact ⟨fun _ => ⟨j, by omega, h3⟩, fun _ => rfl⟩
theorem anyB_false {g : Nat → Bool} {n : Nat} : anyB g n = false ↔ ∀ i, i < n → g i = false := by
  constructor
  · intro h i hi
    cases hg : g i with
    | false => rfl
    | true => rw [anyB_iff.2 ⟨i, hi, hg⟩] at h; cases h
  · intro h
    cases ha : anyB g n with
    | false => rfl
    | true =>
      obtain ⟨i, hi, hg⟩ := anyB_iff.1 ha
      rw [h i hi] at hg; cases hg
theorem anyB_congr {g g' : Nat → Bool} {n : Nat} (h : ∀ i, i < n → (∀ j, j < i → g j = false) → g i = g' i) : anyB g n = anyB g' n :=
  scan_congr n 0 (fun j _ hj hq => ⟨h j (by omega) (fun q hq' => hq q (by omega) hq'), fun _ => rfl⟩) (fun _ => rfl)
/-- Places of a list. -/
def at' {α : Type} (l : List α) (p : α → Bool) (i : Nat) : Bool := match l[i]? with | some x => p x | none => false
theorem at'_eq {α : Type} {l : List α} {p : α → Bool} {i : Nat} (h : i < l.length) : at' l p i = p l[i] := by
  unfold at'
  rw [List.getElem?_eq_getElem h]
theorem anyB_any {α : Type} {l : List α} {p : α → Bool} : anyB (at' l p) l.length = l.any p := by
  cases h : l.any p with
  | true =>
    obtain ⟨x, hx, hp⟩ := List.any_eq_true.1 h
    obtain ⟨i, hi, rfl⟩ := List.getElem_of_mem hx
    exact anyB_iff.2 ⟨i, hi, by rw [at'_eq hi]; exact hp⟩
  | false =>
    rw [List.any_eq_false] at h
    refine anyB_false.2 (fun i hi => ?_)
    rw [at'_eq hi]
    have := h _ (List.getElem_mem hi)
    simpa using this
/-- The first place where it holds, or -1. -/
def pos {α : Type} (l : List α) (p : α → Bool) : Int := scan (at' l p) (fun i => (i : Int)) (-1) l.length 0
theorem pos_cases {α : Type} (l : List α) (p : α → Bool) : ((∀ i (h : i < l.length), p l[i] = false) ∧ pos l p = -1) ∨ ∃ j, ∃ h : j < l.length, p l[j] = true ∧ (∀ i (h : i < l.length), i < j → p l[i] = false) ∧ pos l p = (j : Int) := by
  unfold pos
  rcases scan_cases (at' l p) (fun i => (i : Int)) (-1) l.length 0 with ⟨h1, h2⟩ | ⟨j, h1, h2, h3, h4, h5⟩
  · exact .inl ⟨fun i hi => by rw [← at'_eq (p := p) hi]; exact h1 i (by omega) (by omega), h2⟩
  · refine .inr ⟨j, by omega, ?_, fun i hi hij => ?_, h5⟩
    · rw [← at'_eq (p := p) (show j < l.length by omega)]; exact h3
    · rw [← at'_eq (p := p) hi]; exact h4 i (by omega) hij
theorem pos_any {α : Type} (l : List α) (p : α → Bool) : decide (pos l p ≥ 0) = l.any p := by
  rcases pos_cases l p with ⟨h1, h2⟩ | ⟨j, h1, h2, h3, h4⟩
  · rw [h2]
    have : l.any p = false := by
      rw [List.any_eq_false]
      intro x hx
      obtain ⟨i, hi, rfl⟩ := List.getElem_of_mem hx
      rw [h1 i hi]; simp
    rw [this]; rfl
  · rw [h4]
    have : l.any p = true := List.any_eq_true.2 ⟨l[j], List.getElem_mem h1, h2⟩
    rw [this]
    simp
end Go.Sh

namespace Go.Sh
open Go.AE
set_option linter.unusedVariables false
set_option linter.unusedSimpArgs false
theorem succ_of {k c : Nat} (h : c + 1 ≤ k) : ∃ q, k = q + 1 ∧ c ≤ q := ⟨k - 1, by omega, by omega⟩
def badL (s : Str) (i : Nat) : Bool := at' s (fun c => (!(decide ((c.toNat : Int) ≥ 65) && decide ((c.toNat : Int) ≤ 90))) && (((i : Int) == 0) || (decide ((c.toNat : Int) < 48) || decide ((c.toNat : Int) > 57)))) i
def nameOk (s : Str) : Bool := !anyB (badL s) s.length && (decide ((s.length : Int) ≥ 1) && decide ((s.length : Int) ≤ 8))
theorem dbd_isName {k : Nat} {s : Str} (hk : maxLen + 2 ≤ k) (hs : wfS s) : dbd_IsName k s = some (nameOk s) := by
  obtain ⟨k, rfl, hq⟩ := succ_of hk
  unfold dbd_IsName
  unfold wfS at hs
  refine Eq.trans (loop0 (L := fun m x => dbd_IsName_L1 s _ m x) (n := s.length) (g := badL s) (r := fun _ => some false) (z := some (decide ((s.length : Int) ≥ 1) && decide ((s.length : Int) ≤ 8))) ?_ ?_ (by omega)) ?_
  rotate_left 2
  · rw [scan_const]
    unfold nameOk
    cases anyB (badL s) s.length <;> rfl
  · intro m i hi _
    simp only [dbd_IsName_L1, badL, at'_eq hi, idxS_at hi, wrap_next hi hs, Option.bind_some, show decide ((i : Int) < (s.length : Int)) = true by simp; exact hi, cond_true]
    cases decide ((s[i].toNat : Int) ≥ 65) <;> cases decide ((s[i].toNat : Int) ≤ 90) <;> cases ((i : Int) == 0) <;> cases decide ((s[i].toNat : Int) < 48) <;> cases decide ((s[i].toNat : Int) > 57) <;> rfl
  · intro m _
    simp only [dbd_IsName_L1, show decide ((s.length : Int) < (s.length : Int)) = false by simp, cond_false]
    cases decide ((s.length : Int) ≥ 1) <;> cases decide ((s.length : Int) ≤ 8) <;> rfl
theorem ref11_IsName_L1_eq (a : Str) (K : Int → Option Bool) : ∀ m x, ref11_IsName_L1 a K m x = dbd_IsName_L1 a K m x := by
  intro m
  induction m with
  | zero => intro x; rfl
  | succ m ih => intro x; simp only [ref11_IsName_L1, dbd_IsName_L1, ih]
theorem ref11_isName {k : Nat} {s : Str} (hk : maxLen + 2 ≤ k) (hs : wfS s) : ref11_IsName k s = some (nameOk s) := by
  rw [← dbd_isName hk hs]
  cases k with
  | zero => rfl
  | succ k => simp only [ref11_IsName, dbd_IsName, ref11_IsName_L1_eq]
theorem indexFunc_gen {α : Type} {l : List α} {p : α → Bool} {f : α → Option Bool} (hp : ∀ x ∈ l, f x = some (p x)) {L : Nat → Int → Option Int} {K0 : Int → Option Int}
    (hL : ∀ m x, L (m + 1) x = (bif decide (x < (l.length : Int)) then (((idx l x).bind f).bind fun o => (bif o then (some x) else L m (Go.IntKind.wrap .i64 (x + 1)))) else K0 x))
    (hK : K0 (l.length : Int) = some (-1)) (hn : l.length ≤ maxLen) {m : Nat} (hm : l.length < m) : L m 0 = some (pos l p) := by
  refine Eq.trans (loop0 (L := L) (n := l.length) (g := at' l p) (r := fun i => some (i : Int)) (z := some (-1)) ?_ ?_ hm) ?_
  rotate_left 2
  · unfold pos
    rw [scan_map some]
  · intro m i hi _
    rw [hL, at'_eq hi]
    simp only [show decide ((i : Int) < (l.length : Int)) = true by simp; exact hi, cond_true, idx_at hi, Option.bind_some, hp _ (List.getElem_mem hi), wrap_next hi hn]
  · intro m _
    rw [hL]
    simp only [show decide ((l.length : Int) < (l.length : Int)) = false by simp, cond_false, hK]
theorem indexFunc_Field {k : Nat} {l : List T_api_Field} {p : T_api_Field → Bool} {f : Nat → T_api_Field → Option Bool} (hk : l.length + 2 ≤ k) (hn : l.length ≤ maxLen) (hp : ∀ k', k' + 1 = k → ∀ x ∈ l, f k' x = some (p x)) : slices_IndexFunc_Field k l f = some (pos l p) := by
  obtain ⟨k, rfl, hq⟩ := succ_of hk
  exact indexFunc_gen (hp k rfl) (L := fun m x => slices_IndexFunc_Field_L1 k l f _ m x) (fun m x => rfl) rfl hn (by omega)
theorem indexFunc_Type {k : Nat} {l : List T_api_Type} {p : T_api_Type → Bool} {f : Nat → T_api_Type → Option Bool} (hk : l.length + 2 ≤ k) (hn : l.length ≤ maxLen) (hp : ∀ k', k' + 1 = k → ∀ x ∈ l, f k' x = some (p x)) : slices_IndexFunc_Type k l f = some (pos l p) := by
  obtain ⟨k, rfl, hq⟩ := succ_of hk
  exact indexFunc_gen (hp k rfl) (L := fun m x => slices_IndexFunc_Type_L1 k l f _ m x) (fun m x => rfl) rfl hn (by omega)
theorem indexFunc_Search {k : Nat} {l : List T_api_Search} {p : T_api_Search → Bool} {f : Nat → T_api_Search → Option Bool} (hk : l.length + 2 ≤ k) (hn : l.length ≤ maxLen) (hp : ∀ k', k' + 1 = k → ∀ x ∈ l, f k' x = some (p x)) : slices_IndexFunc_Search k l f = some (pos l p) := by
  obtain ⟨k, rfl, hq⟩ := succ_of hk
  exact indexFunc_gen (hp k rfl) (L := fun m x => slices_IndexFunc_Search_L1 k l f _ m x) (fun m x => rfl) rfl hn (by omega)
theorem indexFunc_int {k : Nat} {l : List Int} {p : Int → Bool} {f : Nat → Int → Option Bool} (hk : l.length + 2 ≤ k) (hn : l.length ≤ maxLen) (hp : ∀ k', k' + 1 = k → ∀ x ∈ l, f k' x = some (p x)) : slices_IndexFunc_int k l f = some (pos l p) := by
  obtain ⟨k, rfl, hq⟩ := succ_of hk
  exact indexFunc_gen (hp k rfl) (L := fun m x => slices_IndexFunc_int_L1 k l f _ m x) (fun m x => rfl) rfl hn (by omega)
theorem index_int {k : Nat} {l : List Int} {y : Int} (hk : l.length + 2 ≤ k) (hn : l.length ≤ maxLen) : slices_Index_int k l y = some (pos l (fun x => y == x)) := by
  obtain ⟨k, rfl, hq⟩ := succ_of hk
  exact indexFunc_gen (f := fun x => some (y == x)) (fun x _ => rfl) (L := fun m x => slices_Index_int_L1 l y _ m x) (fun m x => rfl) rfl hn (by omega)
theorem containsFunc_Field {k : Nat} {l : List T_api_Field} {p : T_api_Field → Bool} {f : Nat → T_api_Field → Option Bool} (hk : l.length + 3 ≤ k) (hn : l.length ≤ maxLen) (hp : ∀ k', k' + 2 = k → ∀ x ∈ l, f k' x = some (p x)) : slices_ContainsFunc_Field k l f = some (l.any p) := by
  obtain ⟨k, rfl, hq⟩ := succ_of hk
  simp only [slices_ContainsFunc_Field, indexFunc_Field hq hn (fun k' e => hp k' (by omega)), Option.bind_some, pos_any]
theorem containsFunc_Type {k : Nat} {l : List T_api_Type} {p : T_api_Type → Bool} {f : Nat → T_api_Type → Option Bool} (hk : l.length + 3 ≤ k) (hn : l.length ≤ maxLen) (hp : ∀ k', k' + 2 = k → ∀ x ∈ l, f k' x = some (p x)) : slices_ContainsFunc_Type k l f = some (l.any p) := by
  obtain ⟨k, rfl, hq⟩ := succ_of hk
  simp only [slices_ContainsFunc_Type, indexFunc_Type hq hn (fun k' e => hp k' (by omega)), Option.bind_some, pos_any]
theorem containsFunc_Search {k : Nat} {l : List T_api_Search} {p : T_api_Search → Bool} {f : Nat → T_api_Search → Option Bool} (hk : l.length + 3 ≤ k) (hn : l.length ≤ maxLen) (hp : ∀ k', k' + 2 = k → ∀ x ∈ l, f k' x = some (p x)) : slices_ContainsFunc_Search k l f = some (l.any p) := by
  obtain ⟨k, rfl, hq⟩ := succ_of hk
  simp only [slices_ContainsFunc_Search, indexFunc_Search hq hn (fun k' e => hp k' (by omega)), Option.bind_some, pos_any]
theorem containsFunc_int {k : Nat} {l : List Int} {p : Int → Bool} {f : Nat → Int → Option Bool} (hk : l.length + 3 ≤ k) (hn : l.length ≤ maxLen) (hp : ∀ k', k' + 2 = k → ∀ x ∈ l, f k' x = some (p x)) : slices_ContainsFunc_int k l f = some (l.any p) := by
  obtain ⟨k, rfl, hq⟩ := succ_of hk
  simp only [slices_ContainsFunc_int, indexFunc_int hq hn (fun k' e => hp k' (by omega)), Option.bind_some, pos_any]
theorem anyB_take {α : Type} {l : List α} {p : α → Bool} {i : Nat} (h : i ≤ l.length) : anyB (at' l p) i = (l.take i).any p := by
  rw [← anyB_any]
  rw [List.length_take, Nat.min_eq_left h]
  refine anyB_congr (fun j hj _ => ?_)
  rw [at'_eq (by omega), at'_eq (by rw [List.length_take]; omega)]
  congr 1
  simp
def badField (size : Int) (fs : List T_api_Field) (i : Nat) : Bool :=
  at' fs (fun f => ((!nameOk f.fName) || (decide (f.fAt < 0) || (decide (f.fAt ≥ size) || (decide (f.fBytes < 1) || decide (f.fBytes > Go.IntKind.wrap .i64 (size - f.fAt)))))) || (fs.take i).any (fun g => g.fName == f.fName)) i
theorem dbd_areFields_spec {k : Nat} {fs : List T_api_Field} {size : Int} (hk : maxLen + 5 ≤ k) (hw : wfL wf_T_api_Field fs) : dbd_areFields k fs size = some (!anyB (badField size fs) fs.length && decide ((fs.length : Int) ≤ 5)) := by
  obtain ⟨k, rfl, hq⟩ := succ_of hk
  unfold dbd_areFields
  obtain ⟨hl, hw⟩ := hw
  refine Eq.trans (loop0 (L := fun m x => dbd_areFields_L1 k fs size _ m x) (n := fs.length) (g := badField size fs) (r := fun _ => some false) (z := some (decide ((fs.length : Int) ≤ 5))) ?_ ?_ (by omega)) ?_
  rotate_left 2
  · rw [scan_const]
    cases anyB (badField size fs) fs.length <;> rfl
  · intro m i hi _
    have h1 := hw _ (List.getElem_mem hi)
    have hc : slices_ContainsFunc_Field k (fs.take i) (fun j x0 => dbd_areFields_1 j x0 fs[i]) = some ((fs.take i).any (fun g => g.fName == fs[i].fName)) := by
      refine containsFunc_Field (by rw [List.length_take]; omega) (by rw [List.length_take]; omega) (fun k' e x hx => ?_)
      obtain ⟨k', rfl, _⟩ := succ_of (show 0 + 1 ≤ k' by omega)
      rfl
    simp only [dbd_areFields_L1, badField, at'_eq hi, idx_at hi, wrap_next hi hl, Option.bind_some, show decide ((i : Int) < (fs.length : Int)) = true by simp; exact hi, cond_true, dbd_isName (show maxLen + 2 ≤ k by omega) h1.1, cut_take (show i ≤ fs.length by omega), hc]
    cases nameOk fs[i].fName <;> cases decide (fs[i].fAt < 0) <;> cases decide (fs[i].fAt ≥ size) <;> cases decide (fs[i].fBytes < 1) <;> cases decide (fs[i].fBytes > Go.IntKind.wrap .i64 (size - fs[i].fAt)) <;> cases (fs.take i).any (fun g => g.fName == fs[i].fName) <;> rfl
  · intro m _
    simp only [dbd_areFields_L1, show decide ((fs.length : Int) < (fs.length : Int)) = false by simp, cond_false]
def keyFit (t : T_api_Type) : Bool := match idx t.fFields t.fKey with | some f => decide ((Go.IntKind.wrap .i64 (f.fAt + f.fBytes)) ≤ t.fMin) | none => false
def fieldsOk (t : T_api_Type) : Bool := !anyB (badField t.fSize t.fFields) t.fFields.length && decide ((t.fFields.length : Int) ≤ 5)
def keyOk (t : T_api_Type) : Bool := bif (t.fKey == (-1)) then !t.fUnique else !(decide (t.fKey < 0) || decide (t.fKey ≥ (t.fFields.length : Int))) && keyFit t
def typeOk (t : T_api_Type) : Bool := !((!nameOk t.fName) || (decide (t.fMin < 1) || (decide (t.fMin > t.fSize) || (decide (t.fSize > 40) || !fieldsOk t)))) && keyOk t
theorem dbd_isType_spec {k : Nat} {t : T_api_Type} (hk : maxLen + 6 ≤ k) (hw : wf_T_api_Type t) : dbd_isType k t = some (typeOk t) := by
  obtain ⟨k, rfl, hq⟩ := succ_of hk
  obtain ⟨h1, _, _, _, h5, _⟩ := hw
  simp only [dbd_isType, dbd_isName (show maxLen + 2 ≤ k by omega) h1, dbd_areFields_spec (show maxLen + 5 ≤ k by omega) h5, Option.bind_some]
  unfold typeOk fieldsOk keyOk keyFit
  generalize (!anyB (badField t.fSize t.fFields) t.fFields.length && decide ((t.fFields.length : Int) ≤ 5)) = fo
  cases hx : idx t.fFields t.fKey with
  | none =>
    -- then the key is out of range
    have : decide (t.fKey < 0) = true ∨ decide (t.fKey ≥ (t.fFields.length : Int)) = true := by
      simp only [decide_eq_true_eq]
      by_cases h0 : t.fKey < 0
      · exact .inl h0
      · by_cases h2 : t.fKey ≥ (t.fFields.length : Int)
        · exact .inr h2
        · rw [idx_of (by omega) (by omega)] at hx; cases hx
    cases nameOk t.fName <;> cases decide (t.fMin < 1) <;> cases decide (t.fMin > t.fSize) <;> cases decide (t.fSize > 40) <;> cases fo <;> try rfl
    rcases this with h | h
    · rw [h]; cases (t.fKey == (-1)) <;> rfl
    · rw [h]; cases (t.fKey == (-1)) <;> cases decide (t.fKey < 0) <;> rfl
  | some f =>
    simp only [Option.bind_some]
    cases nameOk t.fName <;> cases decide (t.fMin < 1) <;> cases decide (t.fMin > t.fSize) <;> cases decide (t.fSize > 40) <;> cases fo <;> cases (t.fKey == (-1)) <;> cases decide (t.fKey < 0) <;> cases decide (t.fKey ≥ (t.fFields.length : Int)) <;> rfl
/-- The reference's fields. -/
def fieldsR (t : T_api_Type) : Bool := !anyB (badField t.fSize t.fFields) t.fFields.length && (!(decide (t.fKey < (-1)) || (decide (t.fKey ≥ (t.fFields.length : Int)) || (decide (t.fKey < 0) && t.fUnique))) && (decide ((t.fFields.length : Int) ≤ 5) && (decide (t.fKey < 0) || keyFit t)))
theorem ref11_fields_spec {k : Nat} {t : T_api_Type} (hk : maxLen + 5 ≤ k) (hw : wf_T_api_Type t) : ref11_fields k t = some (fieldsR t) := by
  obtain ⟨k, rfl, hq⟩ := succ_of hk
  unfold ref11_fields
  obtain ⟨_, _, _, _, ⟨hl, hw⟩, _⟩ := hw
  refine Eq.trans (loop0 (L := fun m x => ref11_fields_L1 k t _ m x) (n := t.fFields.length) (g := badField t.fSize t.fFields) (r := fun _ => some false) (z := some (!(decide (t.fKey < (-1)) || (decide (t.fKey ≥ (t.fFields.length : Int)) || (decide (t.fKey < 0) && t.fUnique))) && (decide ((t.fFields.length : Int) ≤ 5) && (decide (t.fKey < 0) || keyFit t)))) ?_ ?_ (by omega)) ?_
  rotate_left 2
  · rw [scan_const]
    unfold fieldsR
    cases anyB (badField t.fSize t.fFields) t.fFields.length <;> rfl
  · intro m i hi _
    have h1 := hw _ (List.getElem_mem hi)
    simp only [ref11_fields_L1, badField, at'_eq hi, idx_at hi, wrap_next hi hl, Option.bind_some, show decide ((i : Int) < (t.fFields.length : Int)) = true by simp; exact hi, cond_true, ref11_isName (show maxLen + 2 ≤ k by omega) h1.1]
    have hin : ∀ (K : Option Bool), ref11_fields_L2 t (i : Int) t.fFields[i] (fun _ => K) k 0 = bif (t.fFields.take i).any (fun g => g.fName == t.fFields[i].fName) then some false else K := by
      intro K
      rw [← anyB_take (show i ≤ t.fFields.length by omega)]
      refine Eq.trans (loop0 (L := fun m x => ref11_fields_L2 t (i : Int) t.fFields[i] _ m x) (n := i) (g := at' t.fFields (fun g => g.fName == t.fFields[i].fName)) (r := fun _ => some false) (z := K) ?_ ?_ (by omega)) (scan_const i)
      · intro m j hj _
        have hj' : j < t.fFields.length := by omega
        simp only [ref11_fields_L2, at'_eq hj', idx_at hj', wrap_next hj' hl, Option.bind_some, show decide ((j : Int) < (i : Int)) = true by simp; exact hj, cond_true]
      · intro m _
        simp only [ref11_fields_L2, show decide ((i : Int) < (i : Int)) = false by simp, cond_false]
    rw [hin]
    -- 'at' may be at the end in the reference: then no byte is left
    by_cases he : t.fFields[i].fAt = t.fSize
    · have e1 : decide (t.fFields[i].fAt > t.fSize) = false := by simp; omega
      have e2 : decide (t.fFields[i].fAt ≥ t.fSize) = true := by simp; omega
      have e3 : Go.IntKind.wrap .i64 (t.fSize - t.fFields[i].fAt) = 0 := by rw [he, Int.sub_self]; rfl
      rw [e1, e2, e3]
      have e4 : (decide (t.fFields[i].fBytes < 1) || decide (t.fFields[i].fBytes > 0)) = true := by
        simp only [Bool.or_eq_true, decide_eq_true_eq]; omega
      cases nameOk t.fFields[i].fName <;> cases decide (t.fFields[i].fAt < 0) <;> cases h : decide (t.fFields[i].fBytes < 1) <;> cases h' : decide (t.fFields[i].fBytes > 0) <;> first | rfl | (rw [h, h'] at e4; cases e4)
    · have e1 : decide (t.fFields[i].fAt > t.fSize) = decide (t.fFields[i].fAt ≥ t.fSize) := by
        apply decide_eq_decide.2; omega
      rw [e1]
      cases nameOk t.fFields[i].fName <;> cases decide (t.fFields[i].fAt < 0) <;> cases decide (t.fFields[i].fAt ≥ t.fSize) <;> cases decide (t.fFields[i].fBytes < 1) <;> cases decide (t.fFields[i].fBytes > Go.IntKind.wrap .i64 (t.fSize - t.fFields[i].fAt)) <;> rfl
  · intro m _
    simp only [ref11_fields_L1, show decide ((t.fFields.length : Int) < (t.fFields.length : Int)) = false by simp, cond_false]
    unfold keyFit
    cases hx : idx t.fFields t.fKey with
    | none =>
      have : decide (t.fKey < 0) = true ∨ decide (t.fKey ≥ (t.fFields.length : Int)) = true := by
        simp only [decide_eq_true_eq]
        by_cases h0 : t.fKey < 0
        · exact .inl h0
        · by_cases h2 : t.fKey ≥ (t.fFields.length : Int)
          · exact .inr h2
          · rw [idx_of (by omega) (by omega)] at hx; cases hx
      cases h1 : decide (t.fKey < (-1)) <;> cases h2 : decide (t.fKey ≥ (t.fFields.length : Int)) <;> cases h3 : decide (t.fKey < 0) <;> cases t.fUnique <;> cases decide ((t.fFields.length : Int) ≤ 5) <;> first | rfl | (rw [h2, h3] at this; simp at this)
    | some f =>
      simp only [Option.bind_some]
      cases decide (t.fKey < (-1)) <;> cases decide (t.fKey ≥ (t.fFields.length : Int)) <;> cases decide (t.fKey < 0) <;> cases t.fUnique <;> cases decide ((t.fFields.length : Int) ≤ 5) <;> rfl
/-- They agree. -/
theorem fieldsR_eq (t : T_api_Type) : fieldsR t = (fieldsOk t && keyOk t) := by
  unfold fieldsR fieldsOk keyOk
  have hb : ∀ x : Bool, (decide ((t.fFields.length : Int) ≤ 5) && x) = (x && decide ((t.fFields.length : Int) ≤ 5)) := fun x => Bool.and_comm _ _
  have key : (!(decide (t.fKey < (-1)) || (decide (t.fKey ≥ (t.fFields.length : Int)) || (decide (t.fKey < 0) && t.fUnique))) && (decide (t.fKey < 0) || keyFit t)) =
      (bif (t.fKey == (-1)) then !t.fUnique else !(decide (t.fKey < 0) || decide (t.fKey ≥ (t.fFields.length : Int))) && keyFit t) := by
    by_cases h1 : t.fKey = -1
    · have e1 : decide (t.fKey < (-1)) = false := by simp; omega
      have e2 : decide (t.fKey ≥ (t.fFields.length : Int)) = false := by simp; omega
      have e3 : decide (t.fKey < 0) = true := by simp; omega
      have e4 : (t.fKey == (-1)) = true := by simp; exact h1
      rw [e1, e2, e3, e4]
      cases t.fUnique <;> rfl
    · have e4 : (t.fKey == (-1)) = false := by simp; exact h1
      rw [e4]
      by_cases h2 : t.fKey < 0
      · have e1 : decide (t.fKey < (-1)) = true := by simp; omega
        have e3 : decide (t.fKey < 0) = true := by simp; omega
        rw [e1, e3]; rfl
      · have e1 : decide (t.fKey < (-1)) = false := by simp; omega
        have e3 : decide (t.fKey < 0) = false := by simp; omega
        rw [e1, e3]
        cases decide (t.fKey ≥ (t.fFields.length : Int)) <;> rfl
  rw [Bool.and_assoc, ← key]
  congr 1
  cases decide ((t.fFields.length : Int) ≤ 5) <;> simp
end Go.Sh

namespace Go.Sh
open Go.AE
set_option linter.unusedVariables false
set_option linter.unusedSimpArgs false
/-- From the root to 'x'. -/
def chain (ts : List T_api_Type) : Nat → Int → List Int
  | 0, _ => []
  | d + 1, x => if 0 ≤ x then (match ts[x.toNat]? with | some t => chain ts d t.fParent ++ [x] | none => []) else []
def way (ts : List T_api_Type) (x : Nat) : List Int := chain ts (x + 1) (x : Int)
/-- Parents come first, below 'n'. -/
def Up (ts : List T_api_Type) (n : Nat) : Prop := ∀ j (h : j < ts.length), j < n → (ts[j]).fParent < (j : Int)
theorem Up.mono {ts : List T_api_Type} {n m : Nat} (h : Up ts n) (hm : m ≤ n) : Up ts m := fun j hj hjm => h j hj (by omega)
theorem chain_neg {ts : List T_api_Type} {d : Nat} {x : Int} (h : x < 0) : chain ts d x = [] := by
  cases d with
  | zero => rfl
  | succ d => rw [chain, if_neg (by omega)]
theorem chain_stable {ts : List T_api_Type} {n : Nat} (hu : Up ts n) : ∀ (d d' : Nat) (x : Int), x < (d : Int) → x < (d' : Int) → x < (n : Int) → chain ts d x = chain ts d' x
  | 0, d', x, h, h', hn => by rw [chain_neg (d := 0) (by omega), chain_neg (by omega)]
  | d + 1, 0, x, h, h', hn => by rw [chain_neg (by omega), chain_neg (by omega)]
  | d + 1, d' + 1, x, h, h', hn => by
    by_cases h0 : 0 ≤ x
    · simp only [chain, if_pos h0]
      cases ht : ts[x.toNat]? with
      | none => rfl
      | some t =>
        have hlt : x.toNat < ts.length := by
          rcases Nat.lt_or_ge x.toNat ts.length with h1 | h1
          · exact h1
          · rw [List.getElem?_eq_none h1] at ht; cases ht
        have he : ts[x.toNat] = t := by rw [List.getElem?_eq_getElem hlt] at ht; exact Option.some.inj ht
        have := hu x.toNat hlt (by omega)
        rw [he] at this
        simp only
        rw [chain_stable hu d d' t.fParent (by omega) (by omega) (by omega)]
    · rw [chain_neg (by omega), chain_neg (by omega)]
theorem chain_way {ts : List T_api_Type} {n d : Nat} (hu : Up ts n) {x : Int} (h0 : 0 ≤ x) (hd : x < (d : Int)) (hn : x < (n : Int)) : chain ts d x = way ts x.toNat := by
  unfold way
  rw [show ((x.toNat : Nat) : Int) = x by omega]
  exact chain_stable hu _ _ x hd (by omega) hn
theorem way_succ {ts : List T_api_Type} {n x : Nat} (hu : Up ts n) (hn : x < n) (hx : x < ts.length) : way ts x = chain ts n (ts[x]).fParent ++ [(x : Int)] := by
  unfold way
  rw [chain, if_pos (by omega), Int.toNat_natCast, List.getElem?_eq_getElem hx]
  simp only
  have := hu x hx hn
  rw [chain_stable hu x n _ this (by omega) (by omega)]
theorem chain_lt {ts : List T_api_Type} {n : Nat} (hu : Up ts n) : ∀ (d : Nat) (x : Int), x < (n : Int) → ∀ y ∈ chain ts d x, 0 ≤ y ∧ y ≤ x
  | 0, _, _, y, hy => by cases hy
  | d + 1, x, hn, y, hy => by
    by_cases h0 : 0 ≤ x
    · simp only [chain, if_pos h0] at hy
      cases ht : ts[x.toNat]? with
      | none => rw [ht] at hy; cases hy
      | some t =>
        rw [ht] at hy
        have hlt : x.toNat < ts.length := by
          rcases Nat.lt_or_ge x.toNat ts.length with h1 | h1
          · exact h1
          · rw [List.getElem?_eq_none h1] at ht; cases ht
        have he : ts[x.toNat] = t := by rw [List.getElem?_eq_getElem hlt] at ht; exact Option.some.inj ht
        have hp := hu x.toNat hlt (by omega)
        rw [he] at hp
        simp only [List.mem_append, List.mem_singleton] at hy
        rcases hy with hy | hy
        · have := chain_lt hu d t.fParent (by omega) y hy
          omega
        · omega
    · rw [chain_neg (by omega)] at hy; cases hy
theorem chain_len {ts : List T_api_Type} : ∀ (d : Nat) (x : Int), (chain ts d x).length ≤ d
  | 0, _ => Nat.le_refl 0
  | d + 1, x => by
    rw [chain]
    split
    · split
      · have := chain_len (ts := ts) d (by assumption : T_api_Type).fParent
        simp
        omega
      · exact Nat.zero_le _
    · exact Nat.zero_le _
theorem pos_eq {α : Type} {l : List α} {p : α → Bool} {j : Nat} (h : j < l.length) (hp : p l[j] = true) (hb : ∀ i (h : i < l.length), i < j → p l[i] = false) : pos l p = (j : Int) := by
  rcases pos_cases l p with ⟨h1, _⟩ | ⟨q, h1, h2, h3, h4⟩
  · rw [h1 j h] at hp; cases hp
  · rw [h4]
    rcases Nat.lt_trichotomy q j with h5 | h5 | h5
    · rw [hb q h1 h5] at h2; cases h2
    · rw [h5]
    · rw [h3 j h h5] at hp; cases hp
theorem pos_none {α : Type} {l : List α} {p : α → Bool} (h : l.any p = false) : pos l p = -1 := by
  rcases pos_cases l p with ⟨_, h2⟩ | ⟨j, h1, h2, _, _⟩
  · exact h2
  · rw [List.any_eq_false] at h
    have := h _ (List.getElem_mem h1)
    rw [h2] at this; simp at this
/-- Up to one that is on the way: its own way. -/
theorem way_cut {ts : List T_api_Type} {n : Nat} (hu : Up ts n) : ∀ (d : Nat) (x : Int), x < (d : Int) → x < (n : Int) → ∀ y : Int, y ∈ chain ts d x → (chain ts d x).take ((pos (chain ts d x) (fun z => y == z)) + 1).toNat = way ts y.toNat
  | 0, _, _, _, y, hy => by cases hy
  | d + 1, x, hd, hn, y, hy => by
    by_cases h0 : 0 ≤ x
    · have hy1 := hy
      simp only [chain, if_pos h0] at hy1 ⊢
      cases ht : ts[x.toNat]? with
      | none => rw [ht] at hy1; cases hy1
      | some t =>
        rw [ht] at hy1
        simp only at hy1 ⊢
        have hlt : x.toNat < ts.length := by
          rcases Nat.lt_or_ge x.toNat ts.length with h1 | h1
          · exact h1
          · rw [List.getElem?_eq_none h1] at ht; cases ht
        have he : ts[x.toNat] = t := by rw [List.getElem?_eq_getElem hlt] at ht; exact Option.some.inj ht
        have hp := hu x.toNat hlt (by omega)
        rw [he] at hp
        have hlow := chain_lt hu d t.fParent (by omega)
        by_cases hyx : y = x
        · subst hyx
          have hps : pos (chain ts d t.fParent ++ [y]) (fun z => y == z) = ((chain ts d t.fParent).length : Int) := by
            refine pos_eq (by simp) (by simp) (fun i hi hij => ?_)
            rw [List.getElem_append_left hij]
            have := hlow _ (List.getElem_mem hij)
            simp only [beq_eq_false_iff_ne, ne_eq]
            omega
          rw [hps]
          have e1 : (((chain ts d t.fParent).length : Int) + 1).toNat = (chain ts d t.fParent).length + 1 := by omega
          rw [e1, List.take_of_length_le (by simp)]
          rw [way_succ hu (show y.toNat < n by omega) hlt, he]
          rw [chain_stable hu d n t.fParent (by omega) (by omega) (by omega)]
          rw [show ((y.toNat : Nat) : Int) = y by omega]
        · have hy2 : y ∈ chain ts d t.fParent := by
            simp only [List.mem_append, List.mem_singleton] at hy1
            rcases hy1 with h | h
            · exact h
            · exact absurd h hyx
          rcases pos_cases (chain ts d t.fParent) (fun z => y == z) with ⟨g1, _⟩ | ⟨j, g1, g2, g3, g4⟩
          · obtain ⟨i, hi, he2⟩ := List.getElem_of_mem hy2
            have := g1 i hi
            rw [he2] at this; simp at this
          · have hps : pos (chain ts d t.fParent ++ [x]) (fun z => y == z) = (j : Int) := by
              refine pos_eq (by simp; omega) (by rw [List.getElem_append_left g1]; exact g2) (fun i hi hij => ?_)
              rw [List.getElem_append_left (by omega)]
              exact g3 i (by omega) hij
            have ih := way_cut hu d t.fParent (by omega) (by omega) y hy2
            rw [g4] at ih
            rw [hps, List.take_append_of_le_length (by omega)]
            exact ih
    · rw [chain_neg (by omega)] at hy; cases hy
def dupType (ts : List T_api_Type) (i : Nat) : Bool := at' ts (fun t => (ts.take i).any (fun g => g.fName == t.fName)) i
def rootBad (t : T_api_Type) : Bool := (t.fParent != (-1)) || (decide (t.fKey < 0) || (!t.fUnique || (match idx t.fFields t.fKey with | some f => decide (f.fBytes > 24) | none => true)))
def before (ts : List T_api_Type) : Nat → List Int
  | 0 => []
  | i + 1 => way ts i
def badType (ts : List T_api_Type) (i : Nat) : Bool := at' ts (fun t => (!typeOk t || dupType ts i) || ((bif Nat.beq i 0 then rootBad t else !(before ts i).any (fun z => t.fParent == z)) || decide (((way ts i).length : Int) > 5))) i
def typesOk (ts : List T_api_Type) : Bool := !(decide ((ts.length : Int) < 1) || decide ((ts.length : Int) > 8)) && !anyB (badType ts) ts.length
/-- As long as no type is bad, parents come first. -/
theorem up_of {ts : List T_api_Type} : ∀ (n : Nat), (∀ j, j < n → badType ts j = false) → Up ts n
  | 0, _ => fun j _ h => by omega
  | n + 1, h => by
    have ih := up_of n (fun j hj => h j (by omega))
    intro j hj hjn
    by_cases e : j < n
    · exact ih j hj e
    · have hjn' : j = n := by omega
      subst hjn'
      have hb := h j (by omega)
      rw [badType, at'_eq hj] at hb
      cases j with
      | zero =>
        simp only [Bool.or_eq_false_iff, show Nat.beq 0 0 = true from rfl, cond_true, rootBad] at hb
        have := hb.2.1.1
        simp at this
        omega
      | succ q =>
        simp only [Bool.or_eq_false_iff, show Nat.beq (q + 1) 0 = false from rfl, cond_false] at hb
        have h2 := hb.2.1
        simp only [Bool.not_eq_false', List.any_eq_true] at h2
        obtain ⟨z, hz, he⟩ := h2
        have hz' : z ∈ way ts q := hz
        have := chain_lt ih (q + 1) q (by omega) z hz'
        have he' : (ts[q + 1]).fParent = z := by simpa using he
        omega
theorem dbd_areTypes_spec {k : Nat} {ts : List T_api_Type} (hk : maxLen + 8 ≤ k) (hw : wfL wf_T_api_Type ts) : dbd_areTypes k ts = some (typesOk ts) := by
  obtain ⟨k, rfl, hq⟩ := succ_of hk
  obtain ⟨hl, hw⟩ := hw
  have e63 := maxLen_eq
  unfold dbd_areTypes typesOk
  by_cases hlen : 1 ≤ ts.length ∧ ts.length ≤ 8
  · obtain ⟨hlen1, hlen2⟩ := hlen
    simp only [show decide ((ts.length : Int) < 1) = false by simp; omega, show decide ((ts.length : Int) > 8) = false by simp; omega, cond_false, Option.bind_some, Bool.or_false, Bool.not_false, Bool.true_and]
    refine Eq.trans (loopS (L := fun m x s => dbd_areTypes_L1 k ts _ m x s) (n := ts.length) (σ := before ts) (g := badType ts) (r := fun _ => some false) (z := some true) ?_ ?_ (by omega) rfl) ?_
    rotate_left 2
    · rw [scan_const]
      cases anyB (badType ts) ts.length <;> rfl
    · intro m i hi hb
      have h1 := hw _ (List.getElem_mem hi)
      have hup := up_of i hb
      have hc : slices_ContainsFunc_Type k (ts.take i) (fun j x0 => dbd_areTypes_1 j x0 ts[i]) = some (dupType ts i) := by
        rw [dupType, at'_eq hi]
        refine containsFunc_Type (by rw [List.length_take]; omega) (by rw [List.length_take]; omega) (fun k' e x hx => ?_)
        obtain ⟨k', rfl, _⟩ := succ_of (show 0 + 1 ≤ k' by omega)
        rfl
      have hbl : (before ts i).length ≤ 8 := by
        cases i with
        | zero => exact Nat.zero_le _
        | succ q => have := chain_len (ts := ts) (q + 1) q; show (way ts q).length ≤ 8; unfold way; omega
      simp only [dbd_areTypes_L1, idx_at hi, wrap_next hi hl, Option.bind_some, show decide ((i : Int) < (ts.length : Int)) = true by simp; exact hi, cond_true, dbd_isType_spec (show maxLen + 6 ≤ k by omega) h1, cut_take (show i ≤ ts.length by omega), hc,
        index_int (show (before ts i).length + 2 ≤ k by omega) (show (before ts i).length ≤ maxLen by omega)]
      rw [badType, at'_eq hi]
      cases hto : typeOk ts[i] with
      | false => rfl
      | true =>
        cases hdt : dupType ts i with
        | true => rfl
        | false =>
          simp only [Bool.not_true, cond_false, Option.bind_some, Bool.or_false, Bool.false_or]
          cases i with
          | zero =>
            simp only [show (((0 : Nat) : Int) == 0) = true from rfl, cond_true, show Nat.beq 0 0 = true from rfl, show decide (((0 : Nat) : Int) > 0) = false from rfl, cond_false]
            have hroot : (bif ((ts[0]).fParent != (-1)) then (some (true)) else (bif (decide ((ts[0]).fKey < 0)) then (some (true)) else (bif (!(ts[0]).fUnique) then (some (true)) else ((idx (ts[0]).fFields (ts[0]).fKey).bind fun v25 => (bif (decide (v25.fBytes > 24)) then (some (true)) else some false))))) = some (rootBad ts[0]) := by
              unfold rootBad
              cases hx : idx (ts[0]).fFields (ts[0]).fKey with
              | none =>
                -- the key of a type that is right is there, or negative
                have hneg : decide ((ts[0]).fKey < 0) = true := by
                  simp only [decide_eq_true_eq]
                  by_cases h0 : (ts[0]).fKey < 0
                  · exact h0
                  · exfalso
                    have hko : keyOk ts[0] = true := by
                      unfold typeOk at hto
                      simp only [Bool.and_eq_true] at hto
                      exact hto.2
                    unfold keyOk at hko
                    have : ((ts[0]).fKey == (-1)) = false := by simp; omega
                    rw [this, cond_false] at hko
                    unfold keyFit at hko
                    rw [hx] at hko
                    simp at hko
                rw [hneg]
                cases ((ts[0]).fParent != (-1)) <;> rfl
              | some f =>
                simp only [Option.bind_some]
                cases ((ts[0]).fParent != (-1)) <;> cases decide ((ts[0]).fKey < 0) <;> cases (ts[0]).fUnique <;> cases decide (f.fBytes > 24) <;> rfl
            rw [hroot]
            cases hrb : rootBad ts[0] with
            | true => simp
            | false =>
              have hpar : (ts[0]).fParent = -1 := by
                unfold rootBad at hrb
                simp only [Bool.or_eq_false_iff] at hrb
                simpa using hrb.1
              have hway : way ts 0 = [0] := by
                unfold way
                rw [chain, if_pos (by omega), Int.toNat_natCast, List.getElem?_eq_getElem hi]
                simp [chain]
              have hpn : pos (before ts 0) (fun x => (ts[0]).fParent == x) = -1 := rfl
              rw [hpn]
              have hup0 : upTo (before ts 0) (Go.IntKind.wrap .i64 (-1 + 1)) = some 0 := rfl
              simp only [Option.bind_some, cond_false, hup0]
              rw [app_ok (by simp [before, maxList])]
              simp only [Option.bind_some, before, List.take_nil, List.nil_append, hway]
              rfl
          | succ q =>
            simp only [show ((((q + 1 : Nat)) : Int) == 0) = false by simp; omega, cond_false, show Nat.beq (q + 1) 0 = false from rfl, show decide ((((q + 1 : Nat)) : Int) > 0) = true by simp, cond_true, Option.bind_some]
            have hbe : before ts (q + 1) = chain ts (q + 1) q := rfl
            cases hany : (before ts (q + 1)).any (fun z => (ts[q + 1]).fParent == z) with
            | false =>
              rw [pos_none hany]
              rfl
            | true =>
              obtain ⟨y, hy, he⟩ := List.any_eq_true.1 hany
              have he' : (ts[q + 1]).fParent = y := by simpa using he
              have hylt := chain_lt hup (q + 1) q (by omega) y (by rw [← hbe]; exact hy)
              have hcut := way_cut hup (q + 1) q (by omega) (by omega) y (by rw [← hbe]; exact hy)
              rw [← hbe] at hcut
              rcases pos_cases (before ts (q + 1)) (fun z => (ts[q + 1]).fParent == z) with ⟨g1, _⟩ | ⟨j, g1, g2, g3, g4⟩
              · exfalso
                obtain ⟨ii, hii, hee⟩ := List.getElem_of_mem hy
                have := g1 ii hii
                rw [hee] at this
                rw [this] at he; cases he
              · have hcut' : (before ts (q + 1)).take ((pos (before ts (q + 1)) (fun z => (ts[q + 1]).fParent == z)) + 1).toNat = way ts y.toNat := by
                  rw [he']; exact hcut
                rw [g4] at hcut' ⊢
                have hdn : decide ((j : Int) < 0) = false := by simp
                have hwr : Go.IntKind.wrap .i64 ((j : Int) + 1) = ((j + 1 : Nat) : Int) := wrap_next (n := (before ts (q + 1)).length) g1 (by omega)
                have hut : upTo (before ts (q + 1)) ((j + 1 : Nat) : Int) = some (j + 1) := by
                  unfold upTo
                  rw [if_pos ⟨by omega, by omega⟩]
                  simp
                have hcut2 : (before ts (q + 1)).take (j + 1) = way ts y.toNat := by
                  rw [← hcut']; congr 1
                have hwl : (way ts y.toNat).length ≤ 8 := by
                  have := chain_len (ts := ts) (y.toNat + 1) (y.toNat : Int)
                  show (chain ts (y.toNat + 1) (y.toNat : Int)).length ≤ 8
                  omega
                have hnext : way ts (q + 1) = way ts y.toNat ++ [((q + 1 : Nat) : Int)] := by
                  have hup2 : Up ts (q + 2) := by
                    intro jj hjj hjn
                    by_cases e : jj < q + 1
                    · exact hup jj hjj e
                    · have : jj = q + 1 := by omega
                      subst this
                      omega
                  rw [way_succ hup2 (by omega) hi, he', chain_way hup2 hylt.1 (by omega) (by omega)]
                simp only [hdn, hwr, hut, cond_false, Option.bind_some, hcut2]
                rw [app_ok (by simp only [List.length_cons, List.length_nil, maxList]; omega)]
                simp only [Option.bind_some, ← hnext, Bool.not_true, Bool.false_or]
                rfl
    · intro m _
      simp only [dbd_areTypes_L1, show decide ((ts.length : Int) < (ts.length : Int)) = false by simp, cond_false]
  · by_cases h1 : ts.length < 1
    · simp only [show decide ((ts.length : Int) < 1) = true by simp; omega, cond_true, Option.bind_some, Bool.true_or, Bool.not_true, Bool.false_and]
    · have h2 : ts.length > 8 := by omega
      simp only [show decide ((ts.length : Int) < 1) = false by simp; omega, show decide ((ts.length : Int) > 8) = true by simp; omega, cond_true, cond_false, Option.bind_some, Bool.or_true, Bool.not_true, Bool.false_and]
end Go.Sh

namespace Go.Sh
open Go.AE
set_option linter.unusedVariables false
set_option linter.unusedSimpArgs false
def dupIndex (xs : List T_api_Search) (i : Nat) : Bool := at' xs (fun t => (xs.take i).any (fun g => g.fName == t.fName)) i
def fieldBad (ts : List T_api_Type) (x : T_api_Search) : Bool :=
  match idx ts x.fType with | none => true | some t => decide (x.fField < 0) || (decide (x.fField ≥ (t.fFields.length : Int)) || (match idx t.fFields x.fField with | none => true | some f => decide (f.fBytes > 20)))
def badIndex (ts : List T_api_Type) (xs : List T_api_Search) (i : Nat) : Bool :=
  at' xs (fun x => ((!nameOk x.fName) || (decide (x.fType < 0) || (decide (x.fType ≥ (ts.length : Int)) || (decide ((x.fSparse.length : Int) > 1) || dupIndex xs i)))) || fieldBad ts x) i
def indexesOk (ts : List T_api_Type) (xs : List T_api_Search) : Bool := !anyB (badIndex ts xs) xs.length && decide ((xs.length : Int) ≤ 3)
theorem dbd_areIndexes_spec {k : Nat} {ts : List T_api_Type} {xs : List T_api_Search} (hk : maxLen + 6 ≤ k) (hw : wfL wf_T_api_Search xs) : dbd_areIndexes k xs ts = some (indexesOk ts xs) := by
  obtain ⟨k, rfl, hq⟩ := succ_of hk
  obtain ⟨hl, hw⟩ := hw
  unfold dbd_areIndexes indexesOk
  refine Eq.trans (loop0 (L := fun m x => dbd_areIndexes_L1 k xs ts _ m x) (n := xs.length) (g := badIndex ts xs) (r := fun _ => some false) (z := some (decide ((xs.length : Int) ≤ 3))) ?_ ?_ (by omega)) ?_
  rotate_left 2
  · rw [scan_const]
    cases anyB (badIndex ts xs) xs.length <;> rfl
  · intro m i hi _
    have h1 := hw _ (List.getElem_mem hi)
    have hc : slices_ContainsFunc_Search k (xs.take i) (fun j x0 => dbd_areIndexes_1 j x0 xs[i]) = some (dupIndex xs i) := by
      rw [dupIndex, at'_eq hi]
      refine containsFunc_Search (by rw [List.length_take]; omega) (by rw [List.length_take]; omega) (fun k' e x hx => ?_)
      obtain ⟨k', rfl, _⟩ := succ_of (show 0 + 1 ≤ k' by omega)
      rfl
    simp only [dbd_areIndexes_L1, badIndex, at'_eq hi, idx_at hi, wrap_next hi hl, Option.bind_some, show decide ((i : Int) < (xs.length : Int)) = true by simp; exact hi, cond_true, dbd_isName (show maxLen + 2 ≤ k by omega) h1.1, cut_take (show i ≤ xs.length by omega), hc]
    unfold fieldBad
    cases hn : nameOk xs[i].fName with
    | false => rfl
    | true =>
      cases h2 : decide (xs[i].fType < 0) with
      | true => rfl
      | false =>
        cases h3 : decide (xs[i].fType ≥ (ts.length : Int)) with
        | true => rfl
        | false =>
          cases decide ((xs[i].fSparse.length : Int) > 1) with
          | true => rfl
          | false =>
            cases dupIndex xs i with
            | true => rfl
            | false =>
              simp only [decide_eq_false_iff_not] at h2 h3
              rw [idx_of (show 0 ≤ xs[i].fType by omega) (by omega)]
              simp only [Bool.not_true, cond_false, Option.bind_some, Bool.or_false, Bool.false_or]
              generalize ts[(xs[i].fType).toNat]'_ = t
              cases h4 : decide (xs[i].fField < 0) with
              | true => rfl
              | false =>
                cases h5 : decide (xs[i].fField ≥ (t.fFields.length : Int)) with
                | true => rfl
                | false =>
                  simp only [decide_eq_false_iff_not] at h4 h5
                  rw [idx_of (show 0 ≤ xs[i].fField by omega) (by omega)]
                  simp only [cond_false, Option.bind_some, Bool.false_or]
  · intro m _
    simp only [dbd_areIndexes_L1, show decide ((xs.length : Int) < (xs.length : Int)) = false by simp, cond_false]
def valid (b : T_api_Base) : Bool := nameOk b.fName && (decide (b.fKind ≥ 1) && (decide (b.fKind ≤ 4) && (typesOk b.fTypes && indexesOk b.fTypes b.fIndexes)))
theorem dbd_valid {k : Nat} {b : T_api_Base} (hk : maxLen + 9 ≤ k) (hw : wf_T_api_Base b) : dbd_Valid k b = some (valid b) := by
  obtain ⟨k, rfl, hq⟩ := succ_of hk
  obtain ⟨h1, _, h3, h4, _⟩ := hw
  simp only [dbd_Valid, dbd_isName (show maxLen + 2 ≤ k by omega) h1, dbd_areTypes_spec hq h3, dbd_areIndexes_spec (show maxLen + 6 ≤ k by omega) h4, Option.bind_some]
  unfold valid
  cases nameOk b.fName <;> cases decide (b.fKind ≥ 1) <;> cases decide (b.fKind ≤ 4) <;> cases typesOk b.fTypes <;> rfl
theorem ref11_way_L1_spec {b : T_api_Base} {n : Nat} (hu : Up b.fTypes n) (hlen : n ≤ b.fTypes.length) (hs : n ≤ 1000) : ∀ (d : Nat) (x : Int) (w : List Int) (m : Nat), x < (d : Int) → x < (n : Int) → d < m → w.length + d ≤ 1000 →
    ref11_way_L1 b (fun y11 y12 => some y12) m x w = some (chain b.fTypes d x ++ w)
  | d, x, w, 0, _, _, hm, _ => by omega
  | d, x, w, m + 1, hd, hn, hm, hwl => by
    rw [ref11_way_L1]
    by_cases h0 : 0 ≤ x
    · have hx : x.toNat < b.fTypes.length := by omega
      have hp := hu x.toNat hx (by omega)
      cases d with
      | zero => omega
      | succ d =>
        simp only [show decide (x ≥ 0) = true by simp; omega, cond_true, idx_of h0 (show x < (b.fTypes.length : Int) by omega), Option.bind_some]
        rw [app_ok (by simp only [List.length_cons, List.length_nil, maxList]; omega)]
        simp only [Option.bind_some]
        rw [ref11_way_L1_spec hu hlen hs d _ _ m (by omega) (by omega) (by omega) (by simp; omega)]
        rw [chain, if_pos h0, List.getElem?_eq_getElem hx]
        simp
    · rw [chain_neg (by omega)]
      simp only [show decide (x ≥ 0) = false by simp; omega, cond_false, List.nil_append]
theorem ref11_way_spec {k : Nat} {b : T_api_Base} {n i : Nat} (hu : Up b.fTypes n) (hlen : n ≤ b.fTypes.length) (hs : n ≤ 500) (hi : i < n) (hk : 1000 ≤ k) : ref11_way k b (i : Int) = some (way b.fTypes i) := by
  obtain ⟨k, rfl, hq⟩ := succ_of (c := 999) (by omega : 999 + 1 ≤ k)
  refine Eq.trans (show ref11_way (k + 1) b (i : Int) = ref11_way_L1 b (fun y11 y12 => some y12) k (i : Int) [] from rfl) ?_
  rw [ref11_way_L1_spec hu hlen (by omega) (i + 1) (i : Int) [] k (by omega) (by omega) (by omega) (by simp; omega)]
  rw [List.append_nil]; rfl
theorem ref11_above_L1_spec {b : T_api_Base} {n : Nat} {a : Int} (hu : Up b.fTypes n) (hlen : n ≤ b.fTypes.length) : ∀ (d : Nat) (x : Int) (m : Nat), x < (d : Int) → x < (n : Int) → d < m →
    ref11_above_L1 b a (fun y8 => some false) m x = some ((chain b.fTypes d x).any (fun z => a == z))
  | d, x, 0, _, _, hm => by omega
  | d, x, m + 1, hd, hn, hm => by
    rw [ref11_above_L1]
    by_cases h0 : 0 ≤ x
    · have hx : x.toNat < b.fTypes.length := by omega
      have hp := hu x.toNat hx (by omega)
      cases d with
      | zero => omega
      | succ d =>
        simp only [show decide (x ≥ 0) = true by simp; omega, cond_true, idx_of h0 (show x < (b.fTypes.length : Int) by omega), Option.bind_some]
        rw [chain, if_pos h0, List.getElem?_eq_getElem hx]
        simp only [List.any_append, List.any_cons, List.any_nil, Bool.or_false]
        by_cases e : x = a
        · subst e; simp
        · have e1 : (x == a) = false := by simpa using e
          have e2 : (a == x) = false := by simpa using fun h => e h.symm
          rw [e1, e2, cond_false, Bool.or_false]
          exact ref11_above_L1_spec hu hlen d _ m (by omega) (by omega) (by omega)
    · rw [chain_neg (by omega)]
      simp only [show decide (x ≥ 0) = false by simp; omega, cond_false, List.any_nil]
theorem ref11_above_spec {k : Nat} {b : T_api_Base} {n i : Nat} {a : Int} (hu : Up b.fTypes n) (hlen : n ≤ b.fTypes.length) (hs : n ≤ 500) (hi : i < n) (hk : 1000 ≤ k) : ref11_above k b a (i : Int) = some ((chain b.fTypes n ((b.fTypes[i]'(by omega)).fParent)).any (fun z => a == z)) := by
  obtain ⟨k, rfl, hq⟩ := succ_of (c := 999) (by omega : 999 + 1 ≤ k)
  have hx : i < b.fTypes.length := by omega
  have hp := hu i hx hi
  simp only [ref11_above, idx_at hx, Option.bind_some]
  exact ref11_above_L1_spec hu hlen n _ k (by omega) (by omega) (by omega)
theorem ref11_Valid_L2_spec {b : T_api_Base} {i k : Nat} {K : Option Bool} (hi : i < b.fTypes.length) (hl : b.fTypes.length ≤ maxLen) (hk : i < k) : ref11_Valid_L2 b (i : Int) b.fTypes[i] (fun _ => K) k 0 = bif dupType b.fTypes i then some false else K := by
  rw [dupType, at'_eq hi, ← anyB_take (show i ≤ b.fTypes.length by omega)]
  refine Eq.trans (loop0 (L := fun m x => ref11_Valid_L2 b (i : Int) b.fTypes[i] _ m x) (n := i) (g := at' b.fTypes (fun g => g.fName == b.fTypes[i].fName)) (r := fun _ => some false) (z := K) ?_ ?_ hk) (scan_const i)
  · intro m j hj _
    have hj' : j < b.fTypes.length := by omega
    simp only [ref11_Valid_L2, at'_eq hj', idx_at hj', wrap_next hj' hl, Option.bind_some, show decide ((j : Int) < (i : Int)) = true by simp; exact hj, cond_true]
  · intro m _
    simp only [ref11_Valid_L2, show decide ((i : Int) < (i : Int)) = false by simp, cond_false]
theorem ref11_Valid_L4_spec {b : T_api_Base} {i k : Nat} {K : Option Bool} (hi : i < b.fIndexes.length) (hl : b.fIndexes.length ≤ maxLen) (hk : i < k) : ref11_Valid_L4 b (i : Int) b.fIndexes[i] (fun _ => K) k 0 = bif dupIndex b.fIndexes i then some false else K := by
  rw [dupIndex, at'_eq hi, ← anyB_take (show i ≤ b.fIndexes.length by omega)]
  refine Eq.trans (loop0 (L := fun m x => ref11_Valid_L4 b (i : Int) b.fIndexes[i] _ m x) (n := i) (g := at' b.fIndexes (fun g => g.fName == b.fIndexes[i].fName)) (r := fun _ => some false) (z := K) ?_ ?_ hk) (scan_const i)
  · intro m j hj _
    have hj' : j < b.fIndexes.length := by omega
    simp only [ref11_Valid_L4, at'_eq hj', idx_at hj', wrap_next hj' hl, Option.bind_some, show decide ((j : Int) < (i : Int)) = true by simp; exact hj, cond_true]
  · intro m _
    simp only [ref11_Valid_L4, show decide ((i : Int) < (i : Int)) = false by simp, cond_false]
theorem ref11_Valid_L3_spec {b : T_api_Base} {k : Nat} (hk : maxLen + 6 ≤ k) (hw : wfL wf_T_api_Search b.fIndexes) : ref11_Valid_L3 k b (fun _ => some true) k 0 = some (!anyB (badIndex b.fTypes b.fIndexes) b.fIndexes.length) := by
  obtain ⟨hl, hw⟩ := hw
  refine Eq.trans (loop0 (L := fun m x => ref11_Valid_L3 k b _ m x) (n := b.fIndexes.length) (g := badIndex b.fTypes b.fIndexes) (r := fun _ => some false) (z := some true) ?_ ?_ (by omega)) ?_
  rotate_left 2
  · rw [scan_const]
    cases anyB (badIndex b.fTypes b.fIndexes) b.fIndexes.length <;> rfl
  · intro m i hi _
    have h1 := hw _ (List.getElem_mem hi)
    simp only [ref11_Valid_L3, badIndex, at'_eq hi, idx_at hi, wrap_next hi hl, Option.bind_some, show decide ((i : Int) < (b.fIndexes.length : Int)) = true by simp; exact hi, cond_true, ref11_isName (show maxLen + 2 ≤ k by omega) h1.1, ref11_Valid_L4_spec hi hl (show i < k by omega)]
    unfold fieldBad
    cases hn : nameOk b.fIndexes[i].fName with
    | false => rfl
    | true =>
      cases h2 : decide (b.fIndexes[i].fType < 0) with
      | true => rfl
      | false =>
        cases h3 : decide (b.fIndexes[i].fType ≥ (b.fTypes.length : Int)) with
        | true => rfl
        | false =>
          simp only [decide_eq_false_iff_not] at h2 h3
          rw [idx_of (show 0 ≤ b.fIndexes[i].fType by omega) (by omega)]
          simp only [Bool.not_true, cond_false, Option.bind_some, Bool.or_false, Bool.false_or]
          generalize b.fTypes[(b.fIndexes[i].fType).toNat]'_ = t
          cases h4 : decide (b.fIndexes[i].fField < 0) with
          | true => cases decide ((b.fIndexes[i].fSparse.length : Int) > 1) <;> cases dupIndex b.fIndexes i <;> rfl
          | false =>
            cases h5 : decide (b.fIndexes[i].fField ≥ (t.fFields.length : Int)) with
            | true => cases decide ((b.fIndexes[i].fSparse.length : Int) > 1) <;> cases dupIndex b.fIndexes i <;> rfl
            | false =>
              simp only [decide_eq_false_iff_not] at h4 h5
              rw [idx_of (show 0 ≤ b.fIndexes[i].fField by omega) (by omega)]
              simp only [cond_false, Option.bind_some, Bool.false_or]
              generalize t.fFields[(b.fIndexes[i].fField).toNat]'_ = f
              cases decide (f.fBytes > 20) <;> cases decide ((b.fIndexes[i].fSparse.length : Int) > 1) <;> cases dupIndex b.fIndexes i <;> rfl
  · intro m _
    simp only [ref11_Valid_L3, show decide ((b.fIndexes.length : Int) < (b.fIndexes.length : Int)) = false by simp, cond_false]
theorem typeOk_eq (t : T_api_Type) : typeOk t = !((!nameOk t.fName) || (decide (t.fMin < 1) || (decide (t.fMin > t.fSize) || (decide (t.fSize > 40) || !fieldsR t)))) := by
  rw [fieldsR_eq]
  unfold typeOk
  cases nameOk t.fName <;> cases decide (t.fMin < 1) <;> cases decide (t.fMin > t.fSize) <;> cases decide (t.fSize > 40) <;> cases fieldsOk t <;> cases keyOk t <;> rfl
theorem ref11_Valid_L1_spec {b : T_api_Base} {k : Nat} {K : Option Bool} (hk : maxLen + 8 ≤ k) (hw : wfL wf_T_api_Type b.fTypes) (h8 : b.fTypes.length ≤ 8) : ref11_Valid_L1 k b (fun _ => K) k 0 = bif anyB (badType b.fTypes) b.fTypes.length then some false else K := by
  obtain ⟨hl, hw⟩ := hw
  have e63 := maxLen_eq
  refine Eq.trans (loop0 (L := fun m x => ref11_Valid_L1 k b _ m x) (n := b.fTypes.length) (g := badType b.fTypes) (r := fun _ => some false) (z := K) ?_ ?_ (by omega)) (scan_const _)
  · intro m i hi hb
    have h1 := hw _ (List.getElem_mem hi)
    have hup := up_of i hb
    simp only [ref11_Valid_L1, idx_at hi, wrap_next hi hl, Option.bind_some, show decide ((i : Int) < (b.fTypes.length : Int)) = true by simp; exact hi, cond_true, ref11_isName (show maxLen + 2 ≤ k by omega) h1.1, ref11_fields_spec (show maxLen + 5 ≤ k by omega) h1, ref11_Valid_L2_spec hi hl (show i < k by omega)]
    rw [badType, at'_eq hi]
    have hshape : (bif (!nameOk (b.fTypes[i]).fName) then (some (true)) else (bif (decide ((b.fTypes[i]).fMin < 1)) then (some (true)) else (bif (decide ((b.fTypes[i]).fMin > (b.fTypes[i]).fSize)) then (some (true)) else (bif (decide ((b.fTypes[i]).fSize > 40)) then (some (true)) else (some ((!fieldsR b.fTypes[i]))))))) = some (!typeOk b.fTypes[i]) := by
      rw [typeOk_eq]
      cases nameOk (b.fTypes[i]).fName <;> cases decide ((b.fTypes[i]).fMin < 1) <;> cases decide ((b.fTypes[i]).fMin > (b.fTypes[i]).fSize) <;> cases decide ((b.fTypes[i]).fSize > 40) <;> cases fieldsR b.fTypes[i] <;> rfl
    rw [hshape]
    cases hto : typeOk b.fTypes[i] with
    | false => rfl
    | true =>
      cases hdt : dupType b.fTypes i with
      | true => rfl
      | false =>
        simp only [Bool.not_true, cond_false, Option.bind_some, Bool.or_false, Bool.false_or]
        cases i with
        | zero =>
          simp only [show (((0 : Nat) : Int) == 0) = true from rfl, cond_true, show Nat.beq 0 0 = true from rfl]
          have hway : (rootBad b.fTypes[0] = false) → decide (((way b.fTypes 0).length : Int) > 5) = false := by
            intro hrb
            have hpar : (b.fTypes[0]).fParent = -1 := by
              unfold rootBad at hrb
              simp only [Bool.or_eq_false_iff] at hrb
              simpa using hrb.1
            have : way b.fTypes 0 = [0] := by
              unfold way
              rw [chain, if_pos (by omega), Int.toNat_natCast, List.getElem?_eq_getElem hi]
              simp [chain]
            rw [this]; rfl
          have hroot : (bif ((b.fTypes[0]).fParent != (-1)) then (some (true)) else (bif (decide ((b.fTypes[0]).fKey < 0)) then (some (true)) else (bif (!(b.fTypes[0]).fUnique) then (some (true)) else ((idx (b.fTypes[0]).fFields (b.fTypes[0]).fKey).bind fun v32 => (some ((decide (v32.fBytes > 24)))))))) = some (rootBad b.fTypes[0]) := by
            unfold rootBad
            cases hx : idx (b.fTypes[0]).fFields (b.fTypes[0]).fKey with
            | none =>
              have hneg : decide ((b.fTypes[0]).fKey < 0) = true := by
                simp only [decide_eq_true_eq]
                by_cases h0 : (b.fTypes[0]).fKey < 0
                · exact h0
                · exfalso
                  have hko : keyOk b.fTypes[0] = true := by
                    unfold typeOk at hto
                    simp only [Bool.and_eq_true] at hto
                    exact hto.2
                  unfold keyOk at hko
                  have : ((b.fTypes[0]).fKey == (-1)) = false := by simp; omega
                  rw [this, cond_false] at hko
                  unfold keyFit at hko
                  rw [hx] at hko
                  simp at hko
              rw [hneg]
              cases ((b.fTypes[0]).fParent != (-1)) <;> rfl
            | some f =>
              simp only [Option.bind_some]
              cases ((b.fTypes[0]).fParent != (-1)) <;> cases decide ((b.fTypes[0]).fKey < 0) <;> cases (b.fTypes[0]).fUnique <;> cases decide (f.fBytes > 24) <;> rfl
          rw [hroot]
          cases hrb : rootBad b.fTypes[0] with
          | true => rfl
          | false => rw [hway hrb]; rfl
        | succ q =>
          have hq1 : q < b.fTypes.length := by omega
          have hpq := hup q hq1 (by omega)
          have hbe : before b.fTypes (q + 1) = chain b.fTypes (q + 1) q := rfl
          have hbw : before b.fTypes (q + 1) = chain b.fTypes (q + 1) (b.fTypes[q]).fParent ++ [(q : Int)] := way_succ hup (by omega) hq1
          have hab := ref11_above_spec (k := k) (a := (b.fTypes[q + 1]).fParent) hup (by omega) (by omega) (show q < q + 1 by omega) (by omega)
          have hwr : Go.IntKind.wrap .i64 (((q + 1 : Nat) : Int) - 1) = (q : Int) := by
            rw [wrap_in (by omega) (by omega)]; omega
          simp only [show ((((q + 1 : Nat)) : Int) == 0) = false by simp; omega, cond_false, show Nat.beq (q + 1) 0 = false from rfl, hwr, hab, Option.bind_some]
          have hmem : (before b.fTypes (q + 1)).any (fun z => (b.fTypes[q + 1]).fParent == z) = ((chain b.fTypes (q + 1) (b.fTypes[q]).fParent).any (fun z => (b.fTypes[q + 1]).fParent == z) || ((b.fTypes[q + 1]).fParent == (q : Int))) := by
            rw [hbw]; simp only [List.any_append, List.any_cons, List.any_nil, Bool.or_false]
          have hin : ((chain b.fTypes (q + 1) (b.fTypes[q]).fParent).any (fun z => (b.fTypes[q + 1]).fParent == z) || ((b.fTypes[q + 1]).fParent == (q : Int))) = true → ¬ (b.fTypes[q + 1]).fParent < 0 ∧ ¬ (b.fTypes[q + 1]).fParent ≥ ((q + 1 : Nat) : Int) := by
            intro h
            rw [← hmem] at h
            obtain ⟨y, hy, he⟩ := List.any_eq_true.1 h
            have he' : (b.fTypes[q + 1]).fParent = y := by simpa using he
            have := chain_lt hup (q + 1) q (by omega) y (by rw [← hbe]; exact hy)
            omega
          rw [hmem]
          cases hany : ((chain b.fTypes (q + 1) (b.fTypes[q]).fParent).any (fun z => (b.fTypes[q + 1]).fParent == z) || ((b.fTypes[q + 1]).fParent == (q : Int))) with
          | false =>
            rw [Bool.or_eq_false_iff] at hany
            obtain ⟨g1, g2⟩ := hany
            rw [g1]
            have g3 : ((b.fTypes[q + 1]).fParent != (q : Int)) = true := by rw [bne, g2]; rfl
            rw [g3]
            cases decide ((b.fTypes[q + 1]).fParent < 0) <;> cases decide ((b.fTypes[q + 1]).fParent ≥ ((q + 1 : Nat) : Int)) <;> rfl
          | true =>
            obtain ⟨g1, g2⟩ := hin hany
            have hup2 : Up b.fTypes (q + 2) := by
              intro jj hjj hjn
              by_cases e : jj < q + 1
              · exact hup jj hjj e
              · have : jj = q + 1 := by omega
                subst this
                omega
            have hwy := ref11_way_spec (k := k) hup2 (by omega) (by omega) (show q + 1 < q + 2 by omega) (by omega)
            rw [hwy]
            simp only [show decide ((b.fTypes[q + 1]).fParent < 0) = false by simp; omega, show decide ((b.fTypes[q + 1]).fParent ≥ ((q + 1 : Nat) : Int)) = false by simp; omega, cond_false, Option.bind_some]
            rw [Bool.or_eq_true] at hany
            rcases hany with g3 | g3
            · rw [g3]
              cases ((b.fTypes[q + 1]).fParent != (q : Int)) <;> cases decide (((way b.fTypes (q + 1)).length : Int) > 5) <;> rfl
            · have g4 : ((b.fTypes[q + 1]).fParent != (q : Int)) = false := by rw [bne, g3]; rfl
              rw [g4]
              cases decide (((way b.fTypes (q + 1)).length : Int) > 5) <;> rfl
  · intro m _
    simp only [ref11_Valid_L1, show decide ((b.fTypes.length : Int) < (b.fTypes.length : Int)) = false by simp, cond_false]
theorem ref11_valid {k : Nat} {b : T_api_Base} (hk : maxLen + 9 ≤ k) (hw : wf_T_api_Base b) : ref11_Valid k b = some (valid b) := by
  obtain ⟨k, rfl, hq⟩ := succ_of hk
  obtain ⟨h1, _, h3, h4, _⟩ := hw
  simp only [ref11_Valid, ref11_isName (show maxLen + 2 ≤ k by omega) h1, Option.bind_some]
  unfold valid typesOk indexesOk
  have e1 : decide (b.fKind < 1) = !decide (b.fKind ≥ 1) := by rw [← decide_not]; apply decide_eq_decide.2; omega
  have e2 : decide (b.fKind > 4) = !decide (b.fKind ≤ 4) := by rw [← decide_not]; apply decide_eq_decide.2; omega
  have e3 : decide ((b.fIndexes.length : Int) > 3) = !decide ((b.fIndexes.length : Int) ≤ 3) := by rw [← decide_not]; apply decide_eq_decide.2; omega
  rw [e1, e2, e3]
  by_cases h8 : b.fTypes.length ≤ 8
  · rw [ref11_Valid_L1_spec hq h3 h8, ref11_Valid_L3_spec (show maxLen + 6 ≤ k by omega) h4]
    cases nameOk b.fName <;> cases decide (b.fKind ≥ 1) <;> cases decide (b.fKind ≤ 4) <;> cases decide ((b.fTypes.length : Int) < 1) <;> cases decide ((b.fTypes.length : Int) > 8) <;> cases decide ((b.fIndexes.length : Int) ≤ 3) <;> cases anyB (badType b.fTypes) b.fTypes.length <;> cases anyB (badIndex b.fTypes b.fIndexes) b.fIndexes.length <;> rfl
  · have e4 : decide ((b.fTypes.length : Int) > 8) = true := by simp; omega
    rw [e4]
    cases nameOk b.fName <;> cases decide (b.fKind ≥ 1) <;> cases decide (b.fKind ≤ 4) <;> cases decide ((b.fTypes.length : Int) < 1) <;> rfl
end Go.Sh

namespace Go.Sh
open Go.AE
set_option linter.unusedVariables false
set_option linter.unusedSimpArgs false
def outside (b : T_api_Base) (x : Int) : Bool := decide (x < 0) || decide (x ≥ (b.fTypes.length : Int))
def asked (b : T_api_Base) (l : List Int) : Int := bif !valid b then 100 else bif l.any (outside b) then 2 else 0
theorem dbd_asked_spec {k : Nat} {b : T_api_Base} {l : List Int} (hk : maxLen + 10 ≤ k) (hw : wf_T_api_Base b) (hl : l.length ≤ 1000) : dbd_asked k b l = some (asked b l) := by
  have e63 := maxLen_eq
  obtain ⟨k, rfl, hq⟩ := succ_of hk
  have hc : slices_ContainsFunc_int k l (fun j x0 => dbd_asked_1 j x0 b) = some (l.any (outside b)) := by
    refine containsFunc_int (by omega) (by omega) (fun k' e x hx => ?_)
    obtain ⟨k', rfl, _⟩ := succ_of (show 0 + 1 ≤ k' by omega)
    simp only [dbd_asked_1, outside]
    cases decide (x < 0) <;> cases decide (x ≥ (b.fTypes.length : Int)) <;> rfl
  simp only [dbd_asked, dbd_valid (show maxLen + 9 ≤ k by omega) hw, hc, Option.bind_some]
  unfold asked
  cases valid b <;> cases l.any (outside b) <;> rfl
/-- What is known of a base that may be asked. -/
theorem asked_zero {b : T_api_Base} {l : List Int} (h : asked b l = 0) : valid b = true ∧ ∀ x ∈ l, 0 ≤ x ∧ x < (b.fTypes.length : Int) := by
  unfold asked at h
  cases hv : valid b with
  | false => rw [hv] at h; simp at h
  | true =>
    rw [hv] at h
    cases ha : l.any (outside b) with
    | true => rw [ha] at h; simp at h
    | false =>
      refine ⟨rfl, fun x hx => ?_⟩
      rw [List.any_eq_false] at ha
      have := ha x hx
      unfold outside at this
      simp at this
      omega
theorem valid_up {b : T_api_Base} (h : valid b = true) : Up b.fTypes b.fTypes.length ∧ 1 ≤ b.fTypes.length ∧ b.fTypes.length ≤ 8 := by
  unfold valid typesOk at h
  simp only [Bool.and_eq_true, Bool.not_eq_true', Bool.or_eq_false_iff, decide_eq_false_iff_not] at h
  obtain ⟨_, _, _, ⟨⟨h1, h2⟩, h3⟩, _⟩ := h
  exact ⟨up_of _ (anyB_false.1 h3), by omega, by omega⟩
theorem dbd_way_L1_spec {b : T_api_Base} {n : Nat} {K : Int → List Int → Option (List Int)} (hu : Up b.fTypes n) (hlen : n ≤ b.fTypes.length) (hs : n ≤ 1000) : ∀ (d : Nat) (x : Int) (w : List Int) (m : Nat), x < (d : Int) → x < (n : Int) → d < m → w.length + d ≤ 1000 →
    ∃ y, dbd_way_L1 b K m x w = K y (w ++ (chain b.fTypes d x).reverse)
  | d, x, w, 0, _, _, hm, _ => by omega
  | d, x, w, m + 1, hd, hn, hm, hwl => by
    rw [dbd_way_L1]
    by_cases h0 : 0 ≤ x
    · have hx : x.toNat < b.fTypes.length := by omega
      have hp := hu x.toNat hx (by omega)
      cases d with
      | zero => omega
      | succ d =>
        simp only [show decide (x ≥ 0) = true by simp; omega, cond_true, idx_of h0 (show x < (b.fTypes.length : Int) by omega), Option.bind_some]
        rw [app_ok (by simp only [List.length_cons, List.length_nil, maxList]; omega)]
        simp only [Option.bind_some]
        obtain ⟨y, hy⟩ := dbd_way_L1_spec (K := K) hu hlen hs d (b.fTypes[x.toNat]).fParent (w ++ [x]) m (by omega) (by omega) (by omega) (by simp; omega)
        refine ⟨y, hy.trans ?_⟩
        rw [chain, if_pos h0, List.getElem?_eq_getElem hx]
        simp
    · rw [chain_neg (by omega)]
      refine ⟨x, ?_⟩
      simp only [show decide (x ≥ 0) = false by simp; omega, cond_false, List.reverse_nil, List.append_nil]
theorem dbd_way_spec {k : Nat} {b : T_api_Base} {n i : Nat} (hu : Up b.fTypes n) (hlen : n ≤ b.fTypes.length) (hs : n ≤ 500) (hi : i < n) (hk : 1000 ≤ k) : dbd_way k b (i : Int) = some (way b.fTypes i) := by
  obtain ⟨k, rfl, hq⟩ := succ_of (c := 999) (by omega : 999 + 1 ≤ k)
  obtain ⟨y, hy⟩ := dbd_way_L1_spec (K := fun y11 y12 => (((slices_Reverse_int k y12).bind (sameLen y12)).bind fun o14 => (some o14))) hu hlen (by omega) (i + 1) (i : Int) [] k (by omega) (by omega) (by omega) (by simp; omega)
  refine Eq.trans (show dbd_way (k + 1) b (i : Int) = dbd_way_L1 b (fun y11 y12 => (((slices_Reverse_int k y12).bind (sameLen y12)).bind fun o14 => (some o14))) k (i : Int) [] from rfl) (hy.trans ?_)
  rw [List.nil_append]
  obtain ⟨k, rfl, _⟩ := succ_of (show 0 + 1 ≤ k by omega)
  have hl := chain_len (ts := b.fTypes) (i + 1) (i : Int)
  have hble : Nat.ble (chain b.fTypes (i + 1) (i : Int)).length 9223372036854775807 = true := Nat.ble_eq_true_of_le (by omega)
  simp only [slices_Reverse_int, revInt, List.length_reverse, hble, cond_true, List.reverse_reverse, Option.bind_some, sameLen, if_pos]
  rfl
def wayOf (b : T_api_Base) (t : Int) : List Int × Int := bif asked b [t] != 0 then ([], asked b [t]) else (way b.fTypes t.toNat, 0)
theorem dbd_Way_spec {k : Nat} {b : T_api_Base} {t : Int} (hk : maxLen + 11 ≤ k) (hw : wf_T_api_Base b) : dbd_Way k b t = some (wayOf b t) := by
  have e63 := maxLen_eq
  obtain ⟨k, rfl, hq⟩ := succ_of hk
  simp only [dbd_Way, dbd_asked_spec hq hw (show [t].length ≤ 1000 by simp), Option.bind_some]
  unfold wayOf
  by_cases h : asked b [t] = 0
  · obtain ⟨hv, hx⟩ := asked_zero h
    have ht := hx t (by simp)
    obtain ⟨hup, h1, h8⟩ := valid_up hv
    have := dbd_way_spec (k := k) hup (Nat.le_refl _) (by omega) (show t.toNat < b.fTypes.length by omega) (by omega)
    rw [show ((t.toNat : Nat) : Int) = t by omega] at this
    simp only [this, h, Option.bind_some]
    rfl
  · have : (asked b [t] != 0) = true := by simpa using h
    simp only [this, cond_true]
end Go.Sh

namespace Go.Sh
open Go.AE
set_option linter.unusedVariables false
set_option linter.unusedSimpArgs false
theorem ref11_asked_spec {k : Nat} {b : T_api_Base} {l : List Int} (hk : maxLen + 10 ≤ k) (hw : wf_T_api_Base b) (hl : l.length ≤ 10) : ref11_asked k b l = some (asked b l) := by
  have e63 := maxLen_eq
  obtain ⟨k, rfl, hq⟩ := succ_of hk
  simp only [ref11_asked, ref11_valid (show maxLen + 9 ≤ k by omega) hw, Option.bind_some]
  unfold asked
  cases valid b with
  | false => rfl
  | true =>
    simp only [Bool.not_true, cond_false]
    rw [← anyB_any]
    refine Eq.trans (loop0 (L := fun m x => ref11_asked_L1 k b l _ m x) (n := l.length) (g := at' l (outside b)) (r := fun _ => some 2) (z := some 0) ?_ ?_ (by omega)) ?_
    rotate_left 2
    · rw [scan_const]
      cases anyB (at' l (outside b)) l.length <;> rfl
    · intro m i hi _
      obtain ⟨k, rfl, _⟩ := succ_of (show 0 + 1 ≤ k by omega)
      simp only [ref11_asked_L1, ref11_isType, at'_eq hi, idx_at hi, wrap_next hi (show l.length ≤ maxLen by omega), Option.bind_some, show decide ((i : Int) < (l.length : Int)) = true by simp; exact hi, cond_true, outside]
      have e1 : decide (l[i] ≥ 0) = !decide (l[i] < 0) := by rw [← decide_not]; apply decide_eq_decide.2; omega
      have e2 : decide (l[i] < (b.fTypes.length : Int)) = !decide (l[i] ≥ (b.fTypes.length : Int)) := by rw [← decide_not]; apply decide_eq_decide.2; omega
      rw [e1, e2]
      cases decide (l[i] < 0) <;> cases decide (l[i] ≥ (b.fTypes.length : Int)) <;> rfl
    · intro m _
      simp only [ref11_asked_L1, show decide ((l.length : Int) < (l.length : Int)) = false by simp, cond_false]
theorem dbd_Depth_spec {k : Nat} {b : T_api_Base} {t : Int} (hk : maxLen + 12 ≤ k) (hw : wf_T_api_Base b) : dbd_Depth k b t = some (((wayOf b t).1.length : Int), (wayOf b t).2) := by
  obtain ⟨k, rfl, hq⟩ := succ_of hk
  simp only [dbd_Depth, dbd_Way_spec hq hw, Option.bind_some]
def found (x : Int) : Int × Int := bif decide (x < 0) then (0, 5) else (x, 0)
theorem found_pos {α : Type} (l : List α) (p : α → Bool) : found (pos l p) = scan (at' l p) (fun i => ((i : Int), (0 : Int))) (0, 5) l.length 0 := by
  unfold pos
  rw [scan_map found]
  refine scan_congr _ _ (fun j _ _ _ => ⟨rfl, fun _ => ?_⟩) (fun _ => rfl)
  unfold found
  rw [show decide ((j : Int) < 0) = false by simp]
  rfl
def fieldOf (b : T_api_Base) (t : Int) (s : Str) : Int × Int := bif asked b [t] != 0 then (0, asked b [t]) else match idx b.fTypes t with | some x => found (pos x.fFields (fun f => f.fName == s)) | none => (0, 0)
theorem ref11_Field_spec {k : Nat} {b : T_api_Base} {t : Int} {s : Str} (hk : maxLen + 11 ≤ k) (hw : wf_T_api_Base b) : ref11_Field k b t s = some (fieldOf b t s) := by
  obtain ⟨k, rfl, hq⟩ := succ_of hk
  simp only [ref11_Field, ref11_asked_spec hq hw (show [t].length ≤ 10 by simp), Option.bind_some]
  unfold fieldOf
  by_cases h : asked b [t] = 0
  · obtain ⟨hv, hx⟩ := asked_zero h
    have ht := hx t (by simp)
    have htl : t.toNat < b.fTypes.length := by omega
    have hl := (hw.2.2.1.2 _ (List.getElem_mem htl)).2.2.2.2.1.1
    have hix := idx_of (l := b.fTypes) ht.1 ht.2
    rw [hix]
    simp only [h, bne_self_eq_false, cond_false]
    rw [found_pos, scan_map some]
    refine loop0 (L := fun m x => ref11_Field_L1 b t s _ m x) (n := (b.fTypes[t.toNat]).fFields.length) (g := at' (b.fTypes[t.toNat]).fFields (fun f => f.fName == s)) (r := fun i => some ((i : Int), (0 : Int))) (z := some (0, 5)) ?_ ?_ (by omega)
    · intro m i hi _
      simp only [ref11_Field_L1, hix, at'_eq hi, idx_at hi, wrap_next hi hl, Option.bind_some, show decide ((i : Int) < ((b.fTypes[t.toNat]).fFields.length : Int)) = true by simp; exact hi, cond_true]
    · intro m _
      simp only [ref11_Field_L1, hix, Option.bind_some, show decide (((b.fTypes[t.toNat]).fFields.length : Int) < ((b.fTypes[t.toNat]).fFields.length : Int)) = false by simp, cond_false]
  · have : (asked b [t] != 0) = true := by simpa using h
    simp only [this, cond_true]
end Go.Sh

namespace Go.Sh
open Go.AE
set_option linter.unusedVariables false
set_option linter.unusedSimpArgs false
theorem type_ok {b : T_api_Base} (hv : valid b = true) {i : Nat} (hi : i < b.fTypes.length) : typeOk b.fTypes[i] = true := by
  unfold valid typesOk at hv
  simp only [Bool.and_eq_true, Bool.not_eq_true'] at hv
  obtain ⟨_, _, _, ⟨_, h3⟩, _⟩ := hv
  have := anyB_false.1 h3 i hi
  rw [badType, at'_eq hi] at this
  simp only [Bool.or_eq_false_iff] at this
  simpa using this.1.1
theorem field_ok {t : T_api_Type} (ht : typeOk t = true) {j : Nat} (hj : j < t.fFields.length) : 0 ≤ (t.fFields[j]).fAt ∧ 1 ≤ (t.fFields[j]).fBytes ∧ (t.fFields[j]).fAt + (t.fFields[j]).fBytes ≤ 40 := by
  unfold typeOk fieldsOk at ht
  simp only [Bool.and_eq_true, Bool.not_eq_true', Bool.or_eq_false_iff, Bool.not_eq_false', decide_eq_false_iff_not] at ht
  obtain ⟨⟨_, h1, h2, h3, h4, _⟩, _⟩ := ht
  have := anyB_false.1 h4 j hj
  rw [badField, at'_eq hj] at this
  simp only [Bool.or_eq_false_iff, decide_eq_false_iff_not] at this
  obtain ⟨⟨_, g1, g2, g3, g4⟩, _⟩ := this
  rw [wrap_in (by omega) (by omega)] at g4
  omega
end Go.Sh

namespace Go.Sh
open Go.AE
set_option linter.unusedVariables false
set_option linter.unusedSimpArgs false
abbrev Cond := List (List T_api_Term)
theorem indexFunc_Term {k : Nat} {l : List T_api_Term} {p : T_api_Term → Bool} {f : Nat → T_api_Term → Option Bool} (hk : l.length + 2 ≤ k) (hn : l.length ≤ maxLen) (hp : ∀ k', k' + 1 = k → ∀ x ∈ l, f k' x = some (p x)) : slices_IndexFunc_Term k l f = some (pos l p) := by
  obtain ⟨k, rfl, hq⟩ := succ_of hk
  exact indexFunc_gen (hp k rfl) (L := fun m x => slices_IndexFunc_Term_L1 k l f _ m x) (fun m x => rfl) rfl hn (by omega)
theorem containsFunc_Term {k : Nat} {l : List T_api_Term} {p : T_api_Term → Bool} {f : Nat → T_api_Term → Option Bool} (hk : l.length + 3 ≤ k) (hn : l.length ≤ maxLen) (hp : ∀ k', k' + 2 = k → ∀ x ∈ l, f k' x = some (p x)) : slices_ContainsFunc_Term k l f = some (l.any p) := by
  obtain ⟨k, rfl, hq⟩ := succ_of hk
  simp only [slices_ContainsFunc_Term, indexFunc_Term hq hn (fun k' e => hp k' (by omega)), Option.bind_some, pos_any]
theorem indexFunc_TermL {k : Nat} {l : List (List T_api_Term)} {p : List T_api_Term → Bool} {f : Nat → List T_api_Term → Option Bool} (hk : l.length + 2 ≤ k) (hn : l.length ≤ maxLen) (hp : ∀ k', k' + 1 = k → ∀ x ∈ l, f k' x = some (p x)) : slices_IndexFunc_TermL k l f = some (pos l p) := by
  obtain ⟨k, rfl, hq⟩ := succ_of hk
  exact indexFunc_gen (hp k rfl) (L := fun m x => slices_IndexFunc_TermL_L1 k l f _ m x) (fun m x => rfl) rfl hn (by omega)
theorem containsFunc_TermL {k : Nat} {l : List (List T_api_Term)} {p : List T_api_Term → Bool} {f : Nat → List T_api_Term → Option Bool} (hk : l.length + 3 ≤ k) (hn : l.length ≤ maxLen) (hp : ∀ k', k' + 2 = k → ∀ x ∈ l, f k' x = some (p x)) : slices_ContainsFunc_TermL k l f = some (l.any p) := by
  obtain ⟨k, rfl, hq⟩ := succ_of hk
  simp only [slices_ContainsFunc_TermL, indexFunc_TermL hq hn (fun k' e => hp k' (by omega)), Option.bind_some, pos_any]
theorem indexFunc_TermLL {k : Nat} {l : List (List (List T_api_Term))} {p : List (List T_api_Term) → Bool} {f : Nat → List (List T_api_Term) → Option Bool} (hk : l.length + 2 ≤ k) (hn : l.length ≤ maxLen) (hp : ∀ k', k' + 1 = k → ∀ x ∈ l, f k' x = some (p x)) : slices_IndexFunc_TermLL k l f = some (pos l p) := by
  obtain ⟨k, rfl, hq⟩ := succ_of hk
  exact indexFunc_gen (hp k rfl) (L := fun m x => slices_IndexFunc_TermLL_L1 k l f _ m x) (fun m x => rfl) rfl hn (by omega)
theorem containsFunc_TermLL {k : Nat} {l : List (List (List T_api_Term))} {p : List (List T_api_Term) → Bool} {f : Nat → List (List T_api_Term) → Option Bool} (hk : l.length + 3 ≤ k) (hn : l.length ≤ maxLen) (hp : ∀ k', k' + 2 = k → ∀ x ∈ l, f k' x = some (p x)) : slices_ContainsFunc_TermLL k l f = some (l.any p) := by
  obtain ⟨k, rfl, hq⟩ := succ_of hk
  simp only [slices_ContainsFunc_TermLL, indexFunc_TermLL hq hn (fun k' e => hp k' (by omega)), Option.bind_some, pos_any]
def fieldAt (x : T_api_Type) (s : Str) : Int := pos x.fFields (fun f => f.fName == s)
def termOk (x : T_api_Type) (t : T_api_Term) : Bool := decide (fieldAt x t.fField ≥ 0) && (decide (t.fOp ≥ 1) && (decide (t.fOp ≤ 6) && (match idx x.fFields (fieldAt x t.fField) with | some f => ((t.fValue.length : Int) == f.fBytes) | none => false)))
def groupBad (x : T_api_Type) (g : List T_api_Term) : Bool := decide ((g.length : Int) < 1) || (decide ((g.length : Int) > 4) || g.any (fun t => !termOk x t))
def condOk (x : T_api_Type) (c : Cond) : Bool := decide ((c.length : Int) ≤ 4) && !c.any (groupBad x)
theorem fieldAt_lt (x : T_api_Type) (s : Str) : fieldAt x s < (x.fFields.length : Int) := by
  unfold fieldAt
  rcases pos_cases x.fFields (fun f => f.fName == s) with ⟨_, h⟩ | ⟨j, h1, _, _, h⟩ <;> rw [h] <;> omega
theorem match_asked_ok {k : Nat} {b : T_api_Base} {t : Int} (hk : maxLen + 13 ≤ k) (hw : wf_T_api_Base b) : match_asked k b t = some (asked b [t]) := by
  obtain ⟨k, rfl, hq⟩ := succ_of hk
  simp only [match_asked, dbd_Depth_spec hq hw, Option.bind_some, wayOf]
  by_cases h : asked b [t] = 0
  · rw [h]; rfl
  · have : (asked b [t] != 0) = true := by simpa using h
    simp only [this, cond_true]
theorem ref12_isType_ok {k : Nat} {b : T_api_Base} {t : Int} (hk : maxLen + 10 ≤ k) (hw : wf_T_api_Base b) : ref12_isType k b t = some (asked b [t]) := by
  obtain ⟨k, rfl, hq⟩ := succ_of hk
  simp only [ref12_isType, ref11_valid hq hw, Option.bind_some, asked, List.any_cons, List.any_nil, Bool.or_false, outside]
  cases valid b <;> cases decide (t < 0) <;> cases decide (t ≥ (b.fTypes.length : Int)) <;> rfl
theorem match_field_ok {k : Nat} {x : T_api_Type} {s : Str} (hk : maxLen + 4 ≤ k) (hx : x.fFields.length ≤ maxLen) : match_field k x s = some (fieldAt x s, decide (fieldAt x s ≥ 0)) := by
  obtain ⟨k, rfl, hq⟩ := succ_of hk
  have : slices_IndexFunc_Field k x.fFields (fun j x0 => match_field_1 j x0 s) = some (fieldAt x s) := by
    refine indexFunc_Field (by omega) hx (fun k' e f hf => ?_)
    obtain ⟨k', rfl, _⟩ := succ_of (show 0 + 1 ≤ k' by omega)
    rfl
  simp only [match_field, this, Option.bind_some]
theorem match_isTerm_ok {k : Nat} {x : T_api_Type} {t : T_api_Term} (hk : maxLen + 5 ≤ k) (hx : x.fFields.length ≤ maxLen) : match_isTerm k x t = some (termOk x t) := by
  obtain ⟨k, rfl, hq⟩ := succ_of hk
  simp only [match_isTerm, match_field_ok hq hx, Option.bind_some, termOk]
  by_cases h : fieldAt x t.fField ≥ 0
  · rw [decide_eq_true h, idx_of h (fieldAt_lt x _)]
    cases decide (t.fOp ≥ 1) <;> cases decide (t.fOp ≤ 6) <;> rfl
  · rw [decide_eq_false h]
    rfl
theorem match_valid_1_ok {k : Nat} {x : T_api_Type} {g : List T_api_Term} (hk : maxLen + 9 ≤ k) (hx : x.fFields.length ≤ maxLen) (hg : g.length ≤ maxLen) : match_valid_1 k g x = some (groupBad x g) := by
  obtain ⟨k, rfl, hq⟩ := succ_of hk
  have : slices_ContainsFunc_Term k g (fun j x0 => match_valid_1_1 j x0 x) = some (g.any (fun t => !termOk x t)) := by
    refine containsFunc_Term (by omega) hg (fun k' e t _ => ?_)
    obtain ⟨k', rfl, hq'⟩ := succ_of (show maxLen + 5 + 1 ≤ k' by omega)
    simp only [match_valid_1_1, match_isTerm_ok hq' hx, Option.bind_some]
  simp only [match_valid_1, this, groupBad]
  cases decide ((g.length : Int) < 1) <;> cases decide ((g.length : Int) > 4) <;> rfl
theorem match_valid_ok {k : Nat} {x : T_api_Type} {c : Cond} (hk : maxLen + 13 ≤ k) (hx : x.fFields.length ≤ maxLen) (hc : wfL (wfL wf_T_api_Term) c) : match_valid k x c = some (condOk x c) := by
  obtain ⟨k, rfl, hq⟩ := succ_of hk
  have : slices_ContainsFunc_TermL k c (fun j x0 => match_valid_1 j x0 x) = some (c.any (groupBad x)) :=
    containsFunc_TermL (by have := hc.1; omega) hc.1 (fun k' e g hg => match_valid_1_ok (by omega) hx (hc.2 g hg).1)
  simp only [match_valid, this, condOk]
  cases decide ((c.length : Int) ≤ 4) <;> rfl
def zeroT : T_api_Type := { fName := [], fParent := 0, fMin := 0, fSize := 0, fFields := [], fKey := 0, fUnique := false, fLast := false }
def condsOf (b : T_api_Base) (t : Int) (cs : List Cond) : T_api_Type × Int := bif asked b [t] != 0 then (zeroT, asked b [t]) else match idx b.fTypes t with
  | some x => bif cs.any (fun c => !condOk x c) then (zeroT, 110) else (x, 0)
  | none => (zeroT, 0)
/-- What is known of a type that may be asked. -/
theorem asked_type {b : T_api_Base} {t : Int} (hw : wf_T_api_Base b) (h : asked b [t] = 0) : ∃ x, idx b.fTypes t = some x ∧ wf_T_api_Type x ∧ typeOk x = true ∧ 0 ≤ t ∧ t < (b.fTypes.length : Int) ∧ x ∈ b.fTypes := by
  obtain ⟨hv, hx⟩ := asked_zero h
  have ht := hx t (by simp)
  have htl : t.toNat < b.fTypes.length := by omega
  exact ⟨_, idx_of ht.1 ht.2, hw.2.2.1.2 _ (List.getElem_mem htl), type_ok hv htl, ht.1, ht.2, List.getElem_mem htl⟩
theorem match_conditions_ok {k : Nat} {b : T_api_Base} {t : Int} {cs : List Cond} (hk : maxLen + 18 ≤ k) (hw : wf_T_api_Base b) (hl : cs.length ≤ 10) (hc : ∀ c ∈ cs, wfL (wfL wf_T_api_Term) c) : match_conditions k b t cs = some (condsOf b t cs) := by
  have e63 := maxLen_eq
  obtain ⟨k, rfl, hq⟩ := succ_of hk
  simp only [match_conditions, match_asked_ok (show maxLen + 13 ≤ k by omega) hw, Option.bind_some, condsOf]
  by_cases h : asked b [t] = 0
  · obtain ⟨x, hx, hwx, hok, _, _, _⟩ := asked_type hw h
    have : slices_ContainsFunc_TermLL k cs (fun j x0 => match_conditions_1 j x0 x) = some (cs.any (fun c => !condOk x c)) := by
      refine containsFunc_TermLL (by omega) (by omega) (fun k' e c hcc => ?_)
      obtain ⟨k', rfl, hq'⟩ := succ_of (show maxLen + 13 + 1 ≤ k' by omega)
      simp only [match_conditions_1, match_valid_ok hq' hwx.2.2.2.2.1.1 (hc c hcc), Option.bind_some]
    simp only [h, bne_self_eq_false, cond_false, hx, Option.bind_some, this]
    cases cs.any (fun c => !condOk x c) <;> rfl
  · have : (asked b [t] != 0) = true := by simpa using h
    simp only [this, cond_true]
    rfl
theorem ref12_isTerm_ok {k : Nat} {b : T_api_Base} {t : Int} {x : T_api_Type} {g : T_api_Term} (hk : maxLen + 12 ≤ k) (hw : wf_T_api_Base b) (h : asked b [t] = 0) (hx : idx b.fTypes t = some x) : ref12_isTerm k b t g = some (termOk x g) := by
  obtain ⟨k, rfl, hq⟩ := succ_of hk
  simp only [ref12_isTerm, ref11_Field_spec hq hw, Option.bind_some, fieldOf, h, bne_self_eq_false, cond_false, hx, termOk]
  show _ = some (decide (fieldAt x g.fField ≥ 0) && _)
  change ((bif ((found (fieldAt x g.fField)).2 == 0) then _ else _ : Option Bool).bind _) = _
  change ((bif ((found (fieldAt x g.fField)).2 == 0) then (bif decide (g.fOp ≥ 1) then (bif decide (g.fOp ≤ 6) then ((idx x.fFields (found (fieldAt x g.fField)).1).bind fun v4 => some ((g.fValue.length : Int) == v4.fBytes)) else some false) else some false) else some false : Option Bool).bind _) = _
  unfold found
  by_cases hp : fieldAt x g.fField ≥ 0
  · rw [decide_eq_true hp, decide_eq_false (show ¬ fieldAt x g.fField < 0 by omega), idx_of hp (fieldAt_lt x _)]
    simp only [cond_false, beq_self_eq_true, cond_true, idx_of hp (fieldAt_lt x _), Option.bind_some]
    cases decide (g.fOp ≥ 1) <;> cases decide (g.fOp ≤ 6) <;> rfl
  · rw [decide_eq_false hp, decide_eq_true (show fieldAt x g.fField < 0 by omega)]
    rfl
theorem isCondition_L2 {k : Nat} {b : T_api_Base} {t : Int} {x : T_api_Type} {c : Cond} {i m : Nat} {K : Option Bool} (hk : maxLen + 12 ≤ k) (hw : wf_T_api_Base b) (h : asked b [t] = 0) (hx : idx b.fTypes t = some x) (hi : i < c.length) (hl : (c[i]).length ≤ maxLen) (hm : maxLen < m) :
    ref12_isCondition_L2 k b t c (i : Int) (fun _ => K) m 0 = bif (c[i]).any (fun g => !termOk x g) then some false else K := by
  refine Eq.trans (loop0 (L := fun m x => ref12_isCondition_L2 k b t c (i : Int) (fun _ => K) m x) (n := (c[i]).length) (g := at' c[i] (fun g => !termOk x g)) (r := fun _ => some false) (z := K) ?_ ?_ (by omega)) ?_
  rotate_left 2
  · rw [scan_const, anyB_any]
  · intro m j hj _
    simp only [ref12_isCondition_L2, idx_at hi, idx_at hj, at'_eq hj, Option.bind_some, wrap_next hj hl, show decide ((j : Int) < ((c[i]).length : Int)) = true by simp; exact hj, cond_true, ref12_isTerm_ok hk hw h hx]
  · intro m _
    simp only [ref12_isCondition_L2, idx_at hi, Option.bind_some, show decide (((c[i]).length : Int) < ((c[i]).length : Int)) = false by simp, cond_false]
theorem ref12_isCondition_ok {k : Nat} {b : T_api_Base} {t : Int} {x : T_api_Type} {c : Cond} (hk : maxLen + 13 ≤ k) (hw : wf_T_api_Base b) (hc : wfL (wfL wf_T_api_Term) c) (h : asked b [t] = 0) (hx : idx b.fTypes t = some x) : ref12_isCondition k b t c = some (condOk x c) := by
  obtain ⟨k, rfl, hq⟩ := succ_of hk
  simp only [ref12_isCondition]
  refine Eq.trans (loop0 (L := fun m x => ref12_isCondition_L1 k b t c _ m x) (n := c.length) (g := at' c (groupBad x)) (r := fun _ => some false) (z := some (decide ((c.length : Int) ≤ 4))) ?_ ?_ (by have := hc.1; omega)) ?_
  rotate_left 2
  · rw [scan_const, anyB_any, condOk]
    cases c.any (groupBad x) <;> cases decide ((c.length : Int) ≤ 4) <;> rfl
  · intro m i hi _
    simp only [ref12_isCondition_L1, idx_at hi, at'_eq hi, Option.bind_some, wrap_next hi hc.1, show decide ((i : Int) < (c.length : Int)) = true by simp; exact hi, cond_true, isCondition_L2 (m := k) hq hw h hx hi (hc.2 _ (List.getElem_mem hi)).1 (by omega), groupBad]
    cases decide (((c[i]).length : Int) < 1) <;> cases decide (((c[i]).length : Int) > 4) <;> rfl
  · intro m _
    simp only [ref12_isCondition_L1, show decide ((c.length : Int) < (c.length : Int)) = false by simp, cond_false]
theorem ref12_asked_ok {k : Nat} {b : T_api_Base} {t : Int} {c d : Cond} (hk : maxLen + 14 ≤ k) (hw : wf_T_api_Base b) (hc : wfL (wfL wf_T_api_Term) c) (hd : wfL (wfL wf_T_api_Term) d) : ref12_asked k b t c d = some (condsOf b t [c, d]).2 := by
  obtain ⟨k, rfl, hq⟩ := succ_of hk
  simp only [ref12_asked, ref12_isType_ok (show maxLen + 10 ≤ k by omega) hw, Option.bind_some, condsOf]
  by_cases h : asked b [t] = 0
  · obtain ⟨x, hx, _⟩ := asked_type hw h
    simp only [h, hx, bne_self_eq_false, beq_self_eq_true, cond_true, cond_false, ref12_isCondition_ok hq hw hc h hx, ref12_isCondition_ok hq hw hd h hx, Option.bind_some, List.any_cons, List.any_nil, Bool.or_false]
    cases condOk x c <;> cases condOk x d <;> rfl
  · have h1 : (asked b [t] != 0) = true := by simpa using h
    have h2 : (asked b [t] == 0) = false := by simpa using h
    simp only [h1, h2, cond_true, cond_false, Option.bind_some]
end Go.Sh

namespace Go.Sh
open Go.AE
set_option linter.unusedVariables false
set_option linter.unusedSimpArgs false
/-- A loop that goes through the places of a list and may stop comes to something. -/
theorem total_loop {S β : Type} {n : Nat} {L : Nat → Int → S → Option β}
    (hs : ∀ m i s, i < n → (∃ r, L (m + 1) (i : Int) s = some r) ∨ ∃ s', L (m + 1) (i : Int) s = L m ((i + 1 : Nat) : Int) s')
    (he : ∀ m s, ∃ r, L (m + 1) (n : Int) s = some r) : ∀ d i m, i + d = n → d < m → ∀ s, ∃ r, L m (i : Int) s = some r
  | 0, i, m, hd, hm, s => by
    obtain ⟨m, rfl⟩ : ∃ q, m = q + 1 := ⟨m - 1, by omega⟩
    obtain rfl : i = n := by omega
    exact he m s
  | d + 1, i, m, hd, hm, s => by
    obtain ⟨m, rfl⟩ : ∃ q, m = q + 1 := ⟨m - 1, by omega⟩
    rcases hs m i s (by omega) with h | ⟨s', h⟩
    · exact h
    · rw [h]
      exact total_loop hs he d (i + 1) m (by omega) (by omega) s'
theorem bif3 {b1 b2 b3 : Bool} {β : Type} {f : Bool → Option β} : ((bif b1 then some true else (bif b2 then some true else some b3)).bind f) = f (b1 || (b2 || b3)) := by
  cases b1 <;> cases b2 <;> rfl
theorem loopT {β : Type} {n : Nat} {L : Nat → Int → Option β} (hs : ∀ m i, i < n → (∃ r, L (m + 1) (i : Int) = some r) ∨ L (m + 1) (i : Int) = L m ((i + 1 : Nat) : Int)) (he : ∀ m, ∃ r, L (m + 1) (n : Int) = some r) {m : Nat} (hm : n < m) : ∃ r, L m 0 = some r :=
  total_loop (S := Unit) (L := fun m x _ => L m x) (fun m i _ hi => (hs m i hi).imp id (fun h => ⟨(), h⟩)) (fun m _ => he m) n 0 m (by omega) hm ()
/-- A loop inside, of which it is known that it stops or goes on. -/
theorem loopI {β : Type} {n : Nat} {L : Nat → Int → Option β} {K : Option β} (hs : ∀ m i, i < n → (∃ r, L (m + 1) (i : Int) = some r) ∨ L (m + 1) (i : Int) = L m ((i + 1 : Nat) : Int)) (he : ∀ m, (∃ r, L (m + 1) (n : Int) = some r) ∨ L (m + 1) (n : Int) = K) {m : Nat} (hm : n < m) : (∃ r, L m 0 = some r) ∨ L m 0 = K := by
  have : ∀ d i m, i + d = n → d < m → (∃ r, L m (i : Int) = some r) ∨ L m (i : Int) = K := by
    intro d
    induction d with
    | zero =>
      intro i m hd hm
      obtain ⟨m, rfl⟩ : ∃ q, m = q + 1 := ⟨m - 1, by omega⟩
      obtain rfl : i = n := by omega
      exact he m
    | succ d ih =>
      intro i m hd hm
      obtain ⟨m, rfl⟩ : ∃ q, m = q + 1 := ⟨m - 1, by omega⟩
      rcases hs m i (by omega) with h | h
      · exact .inl h
      · rw [h]; exact ih (i + 1) m (by omega) (by omega)
  exact this n 0 m (by omega) hm
theorem bif2 {b1 b2 : Bool} {β : Type} {f : Bool → Option β} : ((bif b1 then some true else some b2).bind f) = f (b1 || b2) := by
  cases b1 <;> rfl
theorem stop_or {β : Type} {b : Bool} {r : β} {x : Option β} : (∃ q, (bif b then some r else x) = some q) ∨ (bif b then some r else x) = x := by
  cases b
  · exact .inr rfl
  · exact .inl ⟨_, rfl⟩
theorem large_total {k : Nat} {b : T_api_Base} (hk : maxLen + 2 ≤ k) (hw : wf_T_api_Base b) : ∃ r, law12_Large k b = some r := by
  obtain ⟨k, rfl, hq⟩ := succ_of (c := maxLen + 1) hk
  have hl := hw.2.2.1.1
  have hl3 := hw.2.2.2.1.1
  simp only [law12_Large, bif3]
  cases decide ((b.fTypes.length : Int) > 20) || (decide ((b.fIndexes.length : Int) > 20) || decide ((b.fName.length : Int) > 40)) with
  | true => exact ⟨_, rfl⟩
  | false =>
    simp only [cond_false]
    refine loopT (L := fun m x => law12_Large_L1 k b _ m x) (n := b.fTypes.length) ?_ ?_ (by omega)
    · intro m i hi
      simp only [law12_Large_L1, idx_at hi, Option.bind_some, wrap_next hi hl, show decide ((i : Int) < (b.fTypes.length : Int)) = true by simp; exact hi, cond_true, bif2]
      cases decide (((b.fTypes[i]).fFields.length : Int) > 20) || decide (((b.fTypes[i]).fName.length : Int) > 40) with
      | true => exact .inl ⟨_, rfl⟩
      | false =>
        simp only [cond_false]
        have hlf := (hw.2.2.1.2 _ (List.getElem_mem hi)).2.2.2.2.1.1
        refine loopI (L := fun m x => law12_Large_L2 b (i : Int) _ m x) (n := (b.fTypes[i]).fFields.length) ?_ ?_ (by omega)
        · intro m j hj
          simp only [law12_Large_L2, idx_at hi, idx_at hj, Option.bind_some, wrap_next hj hlf, show decide ((j : Int) < ((b.fTypes[i]).fFields.length : Int)) = true by simp; exact hj, cond_true]
          exact stop_or
        · intro m
          simp only [law12_Large_L2, idx_at hi, Option.bind_some, show decide (((b.fTypes[i]).fFields.length : Int) < ((b.fTypes[i]).fFields.length : Int)) = false by simp, cond_false]
          exact .inr trivial
    · intro m
      simp only [law12_Large_L1, show decide ((b.fTypes.length : Int) < (b.fTypes.length : Int)) = false by simp, cond_false]
      refine loopT (L := fun m x => law12_Large_L3 b _ m x) (n := b.fIndexes.length) ?_ ?_ (by omega)
      · intro m i hi
        simp only [law12_Large_L3, idx_at hi, Option.bind_some, wrap_next hi hl3, show decide ((i : Int) < (b.fIndexes.length : Int)) = true by simp; exact hi, cond_true, bif2]
        exact stop_or
      · intro m
        simp only [law12_Large_L3, show decide ((b.fIndexes.length : Int) < (b.fIndexes.length : Int)) = false by simp, cond_false]
        exact ⟨_, rfl⟩
theorem long_total {k : Nat} {c : Cond} (hk : maxLen + 2 ≤ k) (hc : wfL (wfL wf_T_api_Term) c) : ∃ r, law12_Long k c = some r := by
  obtain ⟨k, rfl, hq⟩ := succ_of (c := maxLen + 1) hk
  simp only [law12_Long]
  refine loopT (L := fun m x => law12_Long_L1 k c _ m x) (n := c.length) ?_ ?_ (by have := hc.1; omega)
  · intro m i hi
    simp only [law12_Long_L1, idx_at hi, Option.bind_some, wrap_next hi hc.1, show decide ((i : Int) < (c.length : Int)) = true by simp; exact hi, cond_true]
    cases decide (((c[i]).length : Int) > 20) with
    | true => exact .inl ⟨_, rfl⟩
    | false =>
      simp only [cond_false]
      have hlf := (hc.2 _ (List.getElem_mem hi)).1
      refine loopI (L := fun m x => law12_Long_L2 c (i : Int) _ m x) (n := (c[i]).length) ?_ ?_ (by omega)
      · intro m j hj
        simp only [law12_Long_L2, idx_at hi, idx_at hj, Option.bind_some, wrap_next hj hlf, show decide ((j : Int) < ((c[i]).length : Int)) = true by simp; exact hj, cond_true, bif2]
        exact stop_or
      · intro m
        simp only [law12_Long_L2, idx_at hi, Option.bind_some, show decide (((c[i]).length : Int) < ((c[i]).length : Int)) = false by simp, cond_false]
        exact .inr trivial
  · intro m
    simp only [law12_Long_L1, show decide ((c.length : Int) < (c.length : Int)) = false by simp, cond_false]
    exact ⟨_, rfl⟩
def shop12 : T_api_Base := { fName := [83, 72, 79, 80], fKind := 4, fTypes := [{ fName := [67, 85, 83, 84], fParent := (-1), fMin := 4, fSize := 10, fFields := [{ fName := [67, 85, 83, 84, 78, 79], fAt := 0, fBytes := 4 }], fKey := 0, fUnique := true, fLast := false }], fIndexes := [] }
def term6 : T_api_Term := { fField := [67, 85, 83, 84, 78, 79], fOp := 6, fValue := [48, 49, 48, 48] }
def term4 : T_api_Term := { fField := [67, 85, 83, 84, 78, 79], fOp := 4, fValue := [48, 49, 57, 57] }
theorem wfS_short {l : Str} (h : l.length ≤ 1000) : wfS l := by
  have e63 := maxLen_eq
  show l.length ≤ maxLen
  omega
theorem wfI_small {n : Int} (h : -1000 ≤ n) (h' : n ≤ 1000) : wfI .i64 n := by
  unfold wfI Lit.wf
  have e1 : IntKind.i64.min = -9223372036854775808 := by decide
  have e2 : IntKind.i64.max = 9223372036854775807 := by decide
  simp only [e1, e2, Bool.and_eq_true, decide_eq_true_eq]
  omega
theorem shop12_wf : wf_T_api_Base shop12 := by
  have e63 := maxLen_eq
  refine ⟨wfS_short (by decide), wfI_small (by decide) (by decide), ⟨by simp [shop12]; omega, fun t ht => ?_⟩, ⟨by simp [shop12], fun x hx => by cases hx⟩, trivial⟩
  have ht' : t = { fName := [67, 85, 83, 84], fParent := (-1), fMin := 4, fSize := 10, fFields := [{ fName := [67, 85, 83, 84, 78, 79], fAt := 0, fBytes := 4 }], fKey := 0, fUnique := true, fLast := false } := by simpa [shop12] using ht
  subst ht'
  refine ⟨wfS_short (by decide), wfI_small (by decide) (by decide), wfI_small (by decide) (by decide), wfI_small (by decide) (by decide), ⟨by simp; omega, fun f hf => ?_⟩, wfI_small (by decide) (by decide), trivial, trivial, trivial⟩
  have hf' : f = { fName := [67, 85, 83, 84, 78, 79], fAt := 0, fBytes := 4 } := by simpa using hf
  subst hf'
  exact ⟨wfS_short (by decide), wfI_small (by decide) (by decide), wfI_small (by decide) (by decide), trivial⟩
theorem cond12_wf : wfL (wfL wf_T_api_Term) [[term6, term4]] := by
  have e63 := maxLen_eq
  refine ⟨by simp; omega, fun g hg => ?_⟩
  obtain rfl : g = [term6, term4] := by simpa using hg
  refine ⟨by simp; omega, fun t ht => ?_⟩
  rcases (by simpa using ht : t = term6 ∨ t = term4) with rfl | rfl
  · exact ⟨wfS_short (by decide), wfI_small (by decide) (by decide), wfS_short (by decide), trivial⟩
  · exact ⟨wfS_short (by decide), wfI_small (by decide) (by decide), wfS_short (by decide), trivial⟩
theorem conds12 : condsOf shop12 0 [[[term6, term4]]] = ((shop12.fTypes[0]'(by decide)), 0) := by
  have : (condsOf shop12 0 [[[term6, term4]]] == ((shop12.fTypes[0]'(by decide)), (0 : Int))) = true := by decide +kernel
  exact eq_of_beq this
theorem awake12 {k : Nat} (hk : maxLen + 21 ≤ k) : law12_Awake k = some true := by
  have e63 := maxLen_eq
  obtain ⟨k, rfl, hq⟩ := succ_of (c := maxLen + 20) hk
  obtain ⟨k, rfl, hq2⟩ := succ_of (c := maxLen + 19) hq
  have hs : law12_shop (k + 1) = some shop12 := rfl
  have hc : match_conditions k shop12 0 [[[term6, term4]]] = some (shop12.fTypes[0]'(by decide), 0) := by
    have e1 : ∀ c ∈ [[[term6, term4]]], wfL (wfL wf_T_api_Term) c := by
      intro c hc
      have e : c = [[term6, term4]] := by simpa using hc
      rw [e]; exact cond12_wf
    rw [match_conditions_ok (by omega) shop12_wf (by simp) e1, conds12]
  obtain ⟨k, rfl⟩ : ∃ q, k = q + 8 := ⟨k - 8, by omega⟩
  have hf : match_Format (k + 8 + 1) shop12 0 [[term6, term4]] = some ([67, 85, 83, 84, 78, 79, 32, 32, 62, 61, 48, 49, 48, 48, 38, 67, 85, 83, 84, 78, 79, 32, 32, 60, 61, 48, 49, 57, 57], 0) := by
    simp only [match_Format, hc, Option.bind_some]
    rfl
  have hr : match_Range (k + 8 + 1) shop12 0 [[term6, term4]] = some ([48, 49, 48, 48], [48, 49, 57, 57], 0) := by
    simp only [match_Range, hc, Option.bind_some]
    rfl
  unfold term6 term4 at hf hr
  simp only [law12_Awake, hs, hf, hr, Option.bind_some]
  rfl
end Go.Sh

namespace Go.Sh
open Go.AE
set_option linter.unusedVariables false
set_option linter.unusedSimpArgs false
theorem condOk_terms {x : T_api_Type} {c : Cond} (h : condOk x c = true) : ∀ g ∈ c, ∀ t ∈ g, termOk x t = true := by
  intro g hg t ht
  unfold condOk at h
  simp only [Bool.and_eq_true, Bool.not_eq_true'] at h
  have h2 := h.2
  rw [List.any_eq_false] at h2
  have h3 := h2 g hg
  unfold groupBad at h3
  simp only [Bool.or_eq_true, not_or, Bool.not_eq_true] at h3
  have h4 := h3.2.2
  rw [List.any_eq_false] at h4
  have := h4 t ht
  simpa using this
end Go.Sh

namespace Go.Sh
open Go.AE
set_option linter.unusedVariables false
set_option linter.unusedSimpArgs false
def tEq (t u : T_api_Term) : Bool := (t.fField == u.fField && (t.fOp == u.fOp && (t.fValue == u.fValue && true)))
def gNe (g h : List T_api_Term) (j : Nat) : Bool := match g[j]?, h[j]? with | some a, some b => !tEq a b | _, _ => true
def gEq (g h : List T_api_Term) : Bool := bif ((g.length : Int) != (h.length : Int)) then false else !anyB (gNe g h) g.length
def cNe (c d : Cond) (j : Nat) : Bool := match c[j]?, d[j]? with | some a, some b => !gEq a b | _, _ => true
def cEq (c d : Cond) : Bool := bif ((c.length : Int) != (d.length : Int)) then false else !anyB (cNe c d) c.length
theorem gNe_at {g h : List T_api_Term} {j : Nat} (h1 : j < g.length) (h2 : j < h.length) : gNe g h j = !tEq g[j] h[j] := by
  unfold gNe; rw [List.getElem?_eq_getElem h1, List.getElem?_eq_getElem h2]
theorem cNe_at {c d : Cond} {j : Nat} (h1 : j < c.length) (h2 : j < d.length) : cNe c d j = !gEq c[j] d[j] := by
  unfold cNe; rw [List.getElem?_eq_getElem h1, List.getElem?_eq_getElem h2]
theorem len_eq {m n : Nat} (h : ((m : Int) != (n : Int)) = false) : m = n := Int.ofNat.inj (by simpa using h)
theorem gEq_refl (g : List T_api_Term) : gEq g g = true := by
  unfold gEq
  rw [bne_self_eq_false, cond_false]
  have : anyB (gNe g g) g.length = false := anyB_false.2 (fun i hi => by rw [gNe_at hi hi]; simp [tEq])
  rw [this]; rfl
theorem cEq_refl (c : Cond) : cEq c c = true := by
  unfold cEq
  rw [bne_self_eq_false, cond_false]
  have : anyB (cNe c c) c.length = false := anyB_false.2 (fun i hi => by rw [cNe_at hi hi, gEq_refl]; rfl)
  rw [this]; rfl
theorem slices_Equal_Term_ok {k : Nat} {g h : List T_api_Term} (hk : maxLen + 2 ≤ k) (hg : g.length ≤ maxLen) : slices_Equal_Term k g h = some (gEq g h) := by
  obtain ⟨k, rfl, hq⟩ := succ_of (c := maxLen + 1) hk
  simp only [slices_Equal_Term, gEq]
  cases hne : ((g.length : Int) != (h.length : Int)) with
  | true => rfl
  | false =>
    have hl := len_eq hne
    simp only [cond_false]
    refine Eq.trans (loop0 (L := fun m x => slices_Equal_Term_L1 g h _ m x) (n := g.length) (g := gNe g h) (r := fun _ => some false) (z := some true) ?_ ?_ (by omega)) ?_
    rotate_left 2
    · rw [scan_const]; cases anyB (gNe g h) g.length <;> rfl
    · intro m i hi _
      simp only [slices_Equal_Term_L1, idx_at hi, idx_at (show i < h.length by omega), gNe_at hi (show i < h.length by omega), Option.bind_some, wrap_next hi hg, show decide ((i : Int) < (g.length : Int)) = true by simp; exact hi, cond_true, tEq]
    · intro m _
      simp only [slices_Equal_Term_L1, show decide ((g.length : Int) < (g.length : Int)) = false by simp, cond_false]
theorem match_Same_ok {k : Nat} {c d : Cond} (hk : maxLen + 6 ≤ k) (hc : wfL (wfL wf_T_api_Term) c) : match_Same k c d = some (cEq c d) := by
  obtain ⟨k, rfl, hq⟩ := succ_of (c := maxLen + 5) hk
  obtain ⟨k, rfl, hq2⟩ := succ_of (c := maxLen + 4) hq
  simp only [match_Same, slices_EqualFunc_TermL_v20, cEq]
  cases hne : ((c.length : Int) != (d.length : Int)) with
  | true => rfl
  | false =>
    have hl := len_eq hne
    simp only [cond_false]
    have : slices_EqualFunc_TermL_v20_L1 k c d (fun j x0 x1 => slices_Equal_Term j x0 x1) (fun y14 => some true) k 0 = some (!anyB (cNe c d) c.length) := by
      refine Eq.trans (loop0 (L := fun m x => slices_EqualFunc_TermL_v20_L1 k c d _ _ m x) (n := c.length) (g := cNe c d) (r := fun _ => some false) (z := some true) ?_ ?_ (by have := hc.1; omega)) ?_
      rotate_left 2
      · rw [scan_const]; cases anyB (cNe c d) c.length <;> rfl
      · intro m i hi _
        simp only [slices_EqualFunc_TermL_v20_L1, idx_at hi, idx_at (show i < d.length by omega), cNe_at hi (show i < d.length by omega), Option.bind_some, wrap_next hi hc.1, show decide ((i : Int) < (c.length : Int)) = true by simp; exact hi, cond_true, slices_Equal_Term_ok (show maxLen + 2 ≤ k by omega) (hc.2 _ (List.getElem_mem hi)).1]
      · intro m _
        simp only [slices_EqualFunc_TermL_v20_L1, show decide ((c.length : Int) < (c.length : Int)) = false by simp, cond_false]
    rw [this]
    rfl
theorem same_L2 {c d : Cond} {i m : Nat} {K : Option Bool} (h1 : i < c.length) (h2 : i < d.length) (hg : (c[i]).length ≤ maxLen) (he : (c[i]).length = (d[i]).length) (hm : maxLen < m) : ref12_Same_L2 c d (i : Int) (fun _ => K) m 0 = bif anyB (gNe c[i] d[i]) (c[i]).length then some false else K := by
  refine Eq.trans (loop0 (L := fun m x => ref12_Same_L2 c d (i : Int) (fun _ => K) m x) (n := (c[i]).length) (g := gNe c[i] d[i]) (r := fun _ => some false) (z := K) ?_ ?_ (by omega)) ?_
  rotate_left 2
  · rw [scan_const]
  · intro m j hj _
    simp only [ref12_Same_L2, idx_at h1, idx_at h2, idx_at hj, idx_at (show j < (d[i]).length by omega), gNe_at hj (show j < (d[i]).length by omega), Option.bind_some, wrap_next hj hg, show decide ((j : Int) < ((c[i]).length : Int)) = true by simp; exact hj, cond_true, tEq]
  · intro m _
    simp only [ref12_Same_L2, idx_at h1, Option.bind_some, show decide (((c[i]).length : Int) < ((c[i]).length : Int)) = false by simp, cond_false]
theorem ref12_Same_ok {k : Nat} {c d : Cond} (hk : maxLen + 3 ≤ k) (hc : wfL (wfL wf_T_api_Term) c) : ref12_Same k c d = some (cEq c d) := by
  obtain ⟨k, rfl, hq⟩ := succ_of (c := maxLen + 2) hk
  simp only [ref12_Same, cEq]
  cases hne : ((c.length : Int) != (d.length : Int)) with
  | true => rfl
  | false =>
    have hl := len_eq hne
    simp only [cond_false]
    refine Eq.trans (loop0 (L := fun m x => ref12_Same_L1 k c d _ m x) (n := c.length) (g := cNe c d) (r := fun _ => some false) (z := some true) ?_ ?_ (by have := hc.1; omega)) ?_
    rotate_left 2
    · rw [scan_const]; cases anyB (cNe c d) c.length <;> rfl
    · intro m i hi _
      have hd : i < d.length := by omega
      simp only [ref12_Same_L1, idx_at hi, idx_at hd, cNe_at hi hd, Option.bind_some, wrap_next hi hc.1, show decide ((i : Int) < (c.length : Int)) = true by simp; exact hi, cond_true, gEq]
      cases hne2 : (((c[i]).length : Int) != ((d[i]).length : Int)) with
      | true => rfl
      | false =>
        simp only [cond_false, Bool.not_not]
        exact same_L2 hi hd (hc.2 _ (List.getElem_mem hi)).1 (len_eq hne2) (by omega)
    · intro m _
      simp only [ref12_Same_L1, show decide ((c.length : Int) < (c.length : Int)) = false by simp, cond_false]
theorem condOk_len' {x : T_api_Type} {c : Cond} (h : condOk x c = true) : c.length ≤ 4 ∧ ∀ g ∈ c, g.length ≤ 4 := by
  unfold condOk at h
  simp only [Bool.and_eq_true, Bool.not_eq_true', decide_eq_true_eq] at h
  refine ⟨by omega, fun g hg => ?_⟩
  have h2 := h.2
  rw [List.any_eq_false] at h2
  have h3 := h2 g hg
  unfold groupBad at h3
  simp only [Bool.or_eq_true, not_or, Bool.not_eq_true, decide_eq_false_iff_not] at h3
  omega
end Go.Sh

namespace Go.Sh
open Go.AE
set_option linter.unusedVariables false
set_option linter.unusedSimpArgs false
def padS (s : Str) : Str := s ++ List.replicate (8 - s.length) 32
def signS (op : Int) : Str := bif op == 1 then [61, 32] else bif op == 2 then [60, 62] else bif op == 3 then [60, 32] else bif op == 4 then [60, 61] else bif op == 5 then [62, 32] else [62, 61]
def termS (t : T_api_Term) : Str := padS t.fField ++ (signS t.fOp ++ t.fValue)
def tailS : List T_api_Term → Str
  | [] => []
  | t :: r => 38 :: (termS t ++ tailS r)
def groupS : List T_api_Term → Str
  | [] => []
  | t :: r => termS t ++ tailS r
def restS : Cond → Str
  | [] => []
  | g :: r => 124 :: (groupS g ++ restS r)
def condS : Cond → Str
  | [] => []
  | g :: r => groupS g ++ restS r
theorem cat_okE {a b : Str} (h : a.length + b.length ≤ maxList) : cat a b = some (a ++ b) := by
  unfold cat; rw [if_pos h]
theorem signS_len (op : Int) : (signS op).length = 2 := by
  unfold signS
  cases op == 1 <;> cases op == 2 <;> cases op == 3 <;> cases op == 4 <;> cases op == 5 <;> rfl
theorem padS_len {s : Str} (h : s.length ≤ 8) : (padS s).length = 8 := by
  unfold padS
  rw [List.length_append, List.length_replicate]
  omega
theorem match_sign_ok {k : Nat} {op : Int} (hk : 1 ≤ k) (h1 : 1 ≤ op) (h6 : op ≤ 6) : match_sign k op = some (signS op) := by
  obtain ⟨k, rfl, _⟩ := succ_of (show 0 + 1 ≤ k by omega)
  rcases (show op = 1 ∨ op = 2 ∨ op = 3 ∨ op = 4 ∨ op = 5 ∨ op = 6 by omega) with rfl | rfl | rfl | rfl | rfl | rfl
  all_goals rfl
theorem ref12_sign_ok {k : Nat} {op : Int} (hk : 1 ≤ k) : ref12_sign k op = some (signS op) := by
  obtain ⟨k, rfl, _⟩ := succ_of (show 0 + 1 ≤ k by omega)
  simp only [ref12_sign, signS]
  cases op == 1 <;> cases op == 2 <;> cases op == 3 <;> cases op == 4 <;> cases op == 5 <;> rfl
theorem padS_step {s : Str} (h : s.length < 8) : padS (s ++ [32]) = padS s := by
  unfold padS
  rw [List.length_append, List.length_singleton, List.append_assoc, show 8 - s.length = (8 - (s.length + 1)) + 1 by omega, List.replicate_succ]
  rfl
theorem padded_L1 {K : Str → Option Str} : ∀ (d : Nat) (s : Str) (m : Nat), 8 - s.length = d → d < m → s.length ≤ 1000000 → ref12_Padded_L1 K m s = K (padS s)
  | 0, s, m, hd, hm, hs => by
    obtain ⟨m, rfl⟩ : ∃ q, m = q + 1 := ⟨m - 1, by omega⟩
    have h0 : decide ((s.length : Int) < 8) = false := by simp; omega
    simp only [ref12_Padded_L1, h0, cond_false]
    unfold padS
    rw [hd, List.replicate_zero, List.append_nil]
  | d + 1, s, m, hd, hm, hs => by
    obtain ⟨m, rfl⟩ : ∃ q, m = q + 1 := ⟨m - 1, by omega⟩
    have h0 : decide ((s.length : Int) < 8) = true := by simp; omega
    simp only [ref12_Padded_L1, h0, cond_true]
    rw [cat_okE (by simp only [List.length_singleton, maxList]; omega), Option.bind_some, padded_L1 d (s ++ [32]) m (by simp; omega) (by omega) (by simp; omega), padS_step (by omega)]
theorem ref12_Padded_ok {k : Nat} {s : Str} (hk : 10 ≤ k) (hs : s.length ≤ 1000000) : ref12_Padded k s = some (padS s) := by
  obtain ⟨k, rfl, hq⟩ := succ_of (show 9 + 1 ≤ k by omega)
  unfold ref12_Padded
  exact padded_L1 (8 - s.length) s k rfl (by omega) hs
theorem interc (c : UInt8) : ∀ (l : List Str) (a : Str), List.intercalate [c] (a :: l) = a ++ (l.map (c :: ·)).flatten
  | [], a => by simp [List.intercalate]
  | b :: l, a => by
    have ih := interc c l b
    simp only [List.intercalate, List.intersperse] at ih ⊢
    simp only [List.flatten_cons, List.map_cons, ih]
    simp
theorem tail_flat : ∀ l : List T_api_Term, ((l.map termS).map (38 :: ·)).flatten = tailS l
  | [] => rfl
  | t :: l => by
    simp only [List.map_cons, List.flatten_cons, tail_flat l, tailS, List.cons_append]
theorem rest_flat : ∀ c : Cond, ((c.map groupS).map (124 :: ·)).flatten = restS c
  | [] => rfl
  | g :: c => by
    simp only [List.map_cons, List.flatten_cons, rest_flat c, restS, List.cons_append]
theorem joinS_group {l : List T_api_Term} (hl : l.length ≤ 1000000) (h : (groupS l).length ≤ 140737488355328) : joinS (l.map termS) [38] = some (groupS l) := by
  have e : List.intercalate [38] (l.map termS) = groupS l := by
    cases l with
    | nil => rfl
    | cons t l => rw [List.map_cons, interc, tail_flat]; rfl
  unfold joinS
  rw [e, if_pos ⟨by simpa using hl, h⟩]
theorem joinS_cond {c : Cond} (hl : c.length ≤ 1000000) (h : (condS c).length ≤ 140737488355328) : joinS (c.map groupS) [124] = some (condS c) := by
  have e : List.intercalate [124] (c.map groupS) = condS c := by
    cases c with
    | nil => rfl
    | cons g c => rw [List.map_cons, interc, rest_flat]; rfl
  unfold joinS
  rw [e, if_pos ⟨by simpa using hl, h⟩]
def shortT (t : T_api_Term) : Prop := t.fField.length ≤ 8 ∧ t.fValue.length ≤ 40 ∧ 1 ≤ t.fOp ∧ t.fOp ≤ 6
theorem termS_len {t : T_api_Term} (h : shortT t) : (termS t).length = 10 + t.fValue.length := by
  unfold termS
  rw [List.length_append, List.length_append, padS_len h.1, signS_len]
  omega
theorem tailS_len : ∀ (l : List T_api_Term), (∀ t ∈ l, shortT t) → (tailS l).length ≤ 51 * l.length
  | [], _ => Nat.le_refl _
  | t :: l, h => by
    have h1 := tailS_len l (fun u hu => h u (List.mem_cons_of_mem _ hu))
    have h2 := termS_len (h t (by simp))
    have h3 := (h t (by simp)).2.1
    simp only [tailS, List.length_cons, List.length_append]
    omega
theorem groupS_len (l : List T_api_Term) (h : ∀ t ∈ l, shortT t) : (groupS l).length ≤ 51 * l.length := by
  cases l with
  | nil => exact Nat.le_refl _
  | cons t l =>
    have h1 := tailS_len l (fun u hu => h u (List.mem_cons_of_mem _ hu))
    have h2 := termS_len (h t (by simp))
    have h3 := (h t (by simp)).2.1
    simp only [groupS, List.length_cons, List.length_append]
    omega
def shortC (c : Cond) : Prop := c.length ≤ 4 ∧ ∀ g ∈ c, g.length ≤ 4 ∧ ∀ t ∈ g, shortT t
theorem restS_len : ∀ (c : Cond), (∀ g ∈ c, g.length ≤ 4 ∧ ∀ t ∈ g, shortT t) → (restS c).length ≤ 205 * c.length
  | [], _ => Nat.le_refl _
  | g :: c, h => by
    have h1 := restS_len c (fun u hu => h u (List.mem_cons_of_mem _ hu))
    have h2 := groupS_len g (h g (by simp)).2
    have h3 := (h g (by simp)).1
    simp only [restS, List.length_cons, List.length_append]
    omega
theorem condS_len {c : Cond} (h : shortC c) : (condS c).length ≤ 1024 := by
  obtain ⟨h0, h⟩ := h
  cases c with
  | nil => exact Nat.zero_le _
  | cons g c =>
    have h1 := restS_len c (fun u hu => h u (List.mem_cons_of_mem _ hu))
    have h2 := groupS_len g (h g (by simp)).2
    have h3 := (h g (by simp)).1
    simp only [condS, List.length_cons, List.length_append] at h0 ⊢
    omega
theorem repS_pad {n : Nat} (h : n ≤ 8) : repS [32] (Go.IntKind.wrap .i64 (8 - (n : Int))) = some (List.replicate (8 - n) 32) := by
  rw [wrap_in (by omega) (by omega)]
  unfold repS
  rw [if_pos ⟨by omega, by omega, by simp⟩, show (8 - (n : Int)).toNat = 8 - n by omega]
  congr 1
  generalize 8 - n = m
  induction m with
  | zero => rfl
  | succ m ih => rw [List.replicate_succ, List.replicate_succ, List.flatten_cons, ih]; rfl
theorem fmt_L2 {k : Nat} {g : List T_api_Term} {K : Int → List Str → Option (Str × Int)} {K' : List Str → Option (Str × Int)} (hK : ∀ z y, K z y = K' y) (hk : 2 ≤ k) (hg : g.length ≤ 1000) (hs : ∀ t ∈ g, shortT t) : ∀ (d i m : Nat), i + d = g.length → d < m → match_Format_L2 k g K m (i : Int) ((g.take i).map termS) = K' (g.map termS)
  | 0, i, m, hd, hm => by
    obtain ⟨m, rfl⟩ : ∃ q, m = q + 1 := ⟨m - 1, by omega⟩
    obtain rfl : i = g.length := by omega
    simp only [match_Format_L2, show decide ((g.length : Int) < (g.length : Int)) = false by simp, cond_false, List.take_length, hK]
  | d + 1, i, m, hd, hm => by
    have e63 := maxLen_eq
    obtain ⟨m, rfl⟩ : ∃ q, m = q + 1 := ⟨m - 1, by omega⟩
    have hi : i < g.length := by omega
    have h := hs _ (List.getElem_mem hi)
    have hrep : strings_Repeat k [32] (Go.IntKind.wrap .i64 (8 - ((g[i]).fField.length : Int))) = some (List.replicate (8 - (g[i]).fField.length) 32) := by
      obtain ⟨k, rfl, _⟩ := succ_of (show 1 + 1 ≤ k by omega)
      exact repS_pad h.1
    have hp : (g[i]).fField ++ List.replicate (8 - (g[i]).fField.length) 32 = padS (g[i]).fField := rfl
    have hpl := padS_len h.1
    have hsl := signS_len (g[i]).fOp
    simp only [match_Format_L2, show decide ((i : Int) < (g.length : Int)) = true by simp; omega, cond_true, idx_at hi, Option.bind_some, hrep, match_sign_ok (show 1 ≤ k by omega) h.2.2.1 h.2.2.2]
    rw [cat_okE (by simp only [List.length_replicate, maxList]; have := h.1; omega), Option.bind_some, hp, cat_okE (by simp only [hpl, hsl, maxList]; omega), Option.bind_some, cat_okE (by rw [List.length_append, hpl, hsl]; simp only [maxList]; have := h.2.1; omega), Option.bind_some, app_ok (by simp only [List.length_map, List.length_take, List.length_singleton, maxList]; omega), Option.bind_some, wrap_next hi (by omega)]
    have e : (g.take i).map termS ++ [padS (g[i]).fField ++ signS (g[i]).fOp ++ (g[i]).fValue] = (g.take (i + 1)).map termS := by
      rw [List.take_succ_eq_append_getElem hi, List.map_append]
      simp only [List.map_cons, List.map_nil, termS, List.append_assoc]
    rw [e]
    exact fmt_L2 hK hk hg hs d (i + 1) m (by omega) (by omega)
theorem fmt_L1 {k : Nat} {c : Cond} {K : List Str → Int → Option (Str × Int)} {K' : List Str → Option (Str × Int)} (hK : ∀ y z, K y z = K' y) (hk : 1000 ≤ k) (hc : shortC c) : ∀ (d i m : Nat), i + d = c.length → d < m → match_Format_L1 k c K m ((c.take i).map groupS) (i : Int) = K' (c.map groupS)
  | 0, i, m, hd, hm => by
    obtain ⟨m, rfl⟩ : ∃ q, m = q + 1 := ⟨m - 1, by omega⟩
    obtain rfl : i = c.length := by omega
    simp only [match_Format_L1, show decide ((c.length : Int) < (c.length : Int)) = false by simp, cond_false, List.take_length, hK]
  | d + 1, i, m, hd, hm => by
    have e63 := maxLen_eq
    obtain ⟨m, rfl⟩ : ∃ q, m = q + 1 := ⟨m - 1, by omega⟩
    have hi : i < c.length := by omega
    obtain ⟨hgl, hgt⟩ := hc.2 _ (List.getElem_mem hi)
    have hc1 := hc.1
    simp only [match_Format_L1, show decide ((i : Int) < (c.length : Int)) = true by simp; omega, cond_true, idx_at hi, Option.bind_some]
    have hjoin : strings_Join k ((c[i]).map termS) [38] = some (groupS c[i]) := by
      obtain ⟨k, rfl, _⟩ := succ_of (show 0 + 1 ≤ k by omega)
      exact joinS_group (by omega) (by have := groupS_len _ hgt; omega)
    refine (fmt_L2 (g := c[i]) (K' := fun y => ((strings_Join k y [38]).bind fun v56 => (app ((c.take i).map groupS) [v56])).bind fun o58 => match_Format_L1 k c K m o58 (Go.IntKind.wrap .i64 ((i : Int) + 1))) (fun z y => rfl) (by omega) (by omega) hgt (c[i]).length 0 k (by omega) (by omega)).trans ?_
    simp only [hjoin, Option.bind_some]
    rw [app_ok (by simp only [List.length_map, List.length_take, List.length_singleton, maxList]; omega), Option.bind_some, wrap_next hi (by omega)]
    have e : (c.take i).map groupS ++ [groupS c[i]] = (c.take (i + 1)).map groupS := by
      rw [List.take_succ_eq_append_getElem hi, List.map_append]
      simp only [List.map_cons, List.map_nil]
    rw [e]
    exact fmt_L1 hK hk hc d (i + 1) m (by omega) (by omega)
theorem fmt_L3_eq (k : Nat) (c : Cond) (p : Int) (K : Str → Int → Option Str) : ∀ m s i, ref12_format_L3 k c p K m s i = ref12_format_L2 k c p K m s i
  | 0, _, _ => rfl
  | m + 1, s, i => by simp only [ref12_format_L3, ref12_format_L2, fmt_L3_eq k c p K m]
theorem ref_fmt_L2 {k : Nat} {c : Cond} {p : Nat} {K : Str → Int → Option Str} {K' : Str → Option Str} (hK : ∀ y z, K y z = K' y) (hk : 10 ≤ k) (hp : p < c.length) (hg : (c[p]).length ≤ 1000) (hs : ∀ t ∈ c[p], shortT t) : ∀ (d i m : Nat) (s : Str), 1 ≤ i → i + d = (c[p]).length → d < m → s.length + (tailS ((c[p]).drop i)).length ≤ 1000000 → ref12_format_L2 k c (p : Int) K m s (i : Int) = K' (s ++ tailS ((c[p]).drop i))
  | 0, i, m, s, h1, hd, hm, hb => by
    obtain ⟨m, rfl⟩ : ∃ q, m = q + 1 := ⟨m - 1, by omega⟩
    have hi : i = (c[p]).length := by omega
    subst hi
    simp only [ref12_format_L2, idx_at hp, Option.bind_some, show decide (((c[p]).length : Int) < ((c[p]).length : Int)) = false by simp, cond_false, hK, List.drop_length, tailS, List.append_nil]
  | d + 1, i, m, s, h1, hd, hm, hb => by
    have e63 := maxLen_eq
    obtain ⟨m, rfl⟩ : ∃ q, m = q + 1 := ⟨m - 1, by omega⟩
    have hi : i < (c[p]).length := by omega
    have h := hs _ (List.getElem_mem hi)
    have hpl := padS_len h.1
    have hsl := signS_len ((c[p])[i]).fOp
    have hv := h.2.1
    have hdr : (c[p]).drop i = (c[p])[i] :: (c[p]).drop (i + 1) := List.drop_eq_getElem_cons hi
    rw [hdr] at hb ⊢
    have htl := termS_len h
    simp only [tailS, List.length_cons, List.length_append] at hb
    simp only [ref12_format_L2, idx_at hp, idx_at hi, Option.bind_some, show decide ((i : Int) < ((c[p]).length : Int)) = true by simp; omega, show decide ((i : Int) > 0) = true by simp; omega, cond_true, ref12_Padded_ok hk (show ((c[p])[i]).fField.length ≤ 1000000 by have := h.1; omega), ref12_sign_ok (show 1 ≤ k by omega)]
    rw [cat_okE (by simp only [List.length_singleton, maxList]; omega), Option.bind_some, cat_okE (by rw [hpl, hsl]; simp only [maxList]; omega), Option.bind_some, cat_okE (by rw [List.length_append, hpl, hsl]; simp only [maxList]; omega), Option.bind_some, cat_okE (by simp only [List.length_append, hpl, hsl, List.length_singleton, maxList]; omega), Option.bind_some, wrap_next hi (by omega)]
    have e : s ++ [38] ++ (padS ((c[p])[i]).fField ++ signS ((c[p])[i]).fOp ++ ((c[p])[i]).fValue) = s ++ 38 :: termS ((c[p])[i]) := by
      simp only [termS, List.append_assoc, List.singleton_append]
    rw [e, ref_fmt_L2 hK hk hp hg hs d (i + 1) m _ (by omega) (by omega) (by omega) (by simp only [List.length_append, List.length_cons]; omega)]
    congr 1
    simp only [tailS, List.append_assoc, List.cons_append]
theorem ref_fmt_L2_0 {k : Nat} {c : Cond} {p : Nat} {K : Str → Int → Option Str} {K' : Str → Option Str} (hK : ∀ y z, K y z = K' y) (hk : 10 ≤ k) (hp : p < c.length) (hg : (c[p]).length ≤ 1000) (hs : ∀ t ∈ c[p], shortT t) (m : Nat) (s : Str) (hm : (c[p]).length < m) (hb : s.length + (groupS c[p]).length ≤ 1000000) : ref12_format_L2 k c (p : Int) K m s 0 = K' (s ++ groupS c[p]) := by
  have e63 := maxLen_eq
  obtain ⟨m, rfl⟩ : ∃ q, m = q + 1 := ⟨m - 1, by omega⟩
  have hi0 : idx (c[p]) (0 : Int) = (c[p])[0]? := rfl
  cases hcp : c[p] with
  | nil =>
    simp only [ref12_format_L2, idx_at hp, Option.bind_some, hcp, List.length_nil, show decide ((0 : Int) < ((0 : Nat) : Int)) = false by rfl, cond_false, hK, groupS, List.append_nil]
  | cons t r =>
    have h := hs t (by rw [hcp]; simp)
    have hpl := padS_len h.1
    have hsl := signS_len t.fOp
    have hv := h.2.1
    have htl := termS_len h
    have hx : idx (c[p]) (0 : Int) = some t := by rw [hi0, hcp]; rfl
    rw [hcp] at hb
    simp only [groupS, List.length_append] at hb
    have hlen : (c[p]).length = r.length + 1 := by rw [hcp]; rfl
    simp only [ref12_format_L2, idx_at hp, hx, Option.bind_some, show decide ((0 : Int) < ((c[p]).length : Int)) = true by rw [hlen, decide_eq_true_eq]; omega, show decide ((0 : Int) > 0) = false by rfl, cond_true, cond_false, ref12_Padded_ok hk (show t.fField.length ≤ 1000000 by have := h.1; omega), ref12_sign_ok (show 1 ≤ k by omega)]
    rw [cat_okE (by rw [hpl, hsl]; simp only [maxList]; omega), Option.bind_some, cat_okE (by rw [List.length_append, hpl, hsl]; simp only [maxList]; omega), Option.bind_some, cat_okE (by simp only [List.length_append, hpl, hsl, maxList]; omega), Option.bind_some]
    have e : s ++ (padS t.fField ++ signS t.fOp ++ t.fValue) = s ++ termS t := by
      simp only [termS, List.append_assoc]
    have hdr : (c[p]).drop 1 = r := by rw [hcp]; rfl
    rw [e, show Go.IntKind.wrap .i64 ((0 : Int) + 1) = ((1 : Nat) : Int) by rfl, ref_fmt_L2 hK hk hp hg hs r.length 1 m _ (by omega) (by omega) (by omega) (by rw [hdr, List.length_append]; omega), hdr]
    congr 1
    simp only [groupS, List.append_assoc]
theorem ref_fmt_L1 {k : Nat} {c : Cond} {K : Str → Int → Option Str} {K' : Str → Option Str} (hK : ∀ y z, K y z = K' y) (hk : 1000 ≤ k) (hc : shortC c) : ∀ (d i m : Nat) (s : Str), 1 ≤ i → i + d = c.length → d < m → s.length + (restS (c.drop i)).length ≤ 1000000 → ref12_format_L1 k c K m s (i : Int) = K' (s ++ restS (c.drop i))
  | 0, i, m, s, h1, hd, hm, hb => by
    obtain ⟨m, rfl⟩ : ∃ q, m = q + 1 := ⟨m - 1, by omega⟩
    have hi : i = c.length := by omega
    subst hi
    simp only [ref12_format_L1, show decide ((c.length : Int) < (c.length : Int)) = false by simp, cond_false, hK, List.drop_length, restS, List.append_nil]
  | d + 1, i, m, s, h1, hd, hm, hb => by
    have e63 := maxLen_eq
    obtain ⟨m, rfl⟩ : ∃ q, m = q + 1 := ⟨m - 1, by omega⟩
    have hi : i < c.length := by omega
    obtain ⟨hgl, hgt⟩ := hc.2 _ (List.getElem_mem hi)
    have hc1 := hc.1
    rw [List.drop_eq_getElem_cons hi] at hb ⊢
    simp only [restS, List.length_cons, List.length_append] at hb
    simp only [ref12_format_L1, show decide ((i : Int) < (c.length : Int)) = true by simp; omega, show decide ((i : Int) > 0) = true by simp; omega, cond_true]
    rw [cat_okE (by simp only [List.length_singleton, maxList]; omega), Option.bind_some]
    refine (ref_fmt_L2_0 (K' := fun y => ref12_format_L1 k c K m y (Go.IntKind.wrap .i64 ((i : Int) + 1))) (fun y z => rfl) (by omega) hi (by omega) hgt k _ (by omega) (by simp only [List.length_append, List.length_singleton]; omega)).trans ?_
    rw [wrap_next hi (by omega), ref_fmt_L1 hK hk hc d (i + 1) m _ (by omega) (by omega) (by omega) (by simp only [List.length_append, List.length_singleton]; omega)]
    congr 1
    simp only [restS, List.append_assoc, List.singleton_append, List.cons_append, List.nil_append]
theorem ref12_format_ok {k : Nat} {c : Cond} (hk : 1001 ≤ k) (hc : shortC c) : ref12_format k c = some (condS c) := by
  have e63 := maxLen_eq
  obtain ⟨k, rfl, hq⟩ := succ_of (show 1000 + 1 ≤ k by omega)
  have hcl := condS_len hc
  unfold ref12_format
  cases hcc : c with
  | nil =>
    obtain ⟨k, rfl, _⟩ := succ_of (show 999 + 1 ≤ k by omega)
    rfl
  | cons g r =>
    have h0 : 0 < c.length := by rw [hcc]; simp
    obtain ⟨hgl, hgt⟩ := hc.2 _ (List.getElem_mem h0)
    have hc1 := hc.1
    have e0 : c[0] = g := by simp only [hcc, List.getElem_cons_zero]
    have er : c.drop 1 = r := by rw [hcc]; rfl
    rw [hcc] at hcl
    simp only [condS, List.length_append] at hcl
    rw [← hcc]
    obtain ⟨k, rfl, hq2⟩ := succ_of (show 999 + 1 ≤ k by omega)
    simp only [ref12_format_L1, show decide ((0 : Int) < (c.length : Int)) = true by simp; omega, show decide ((0 : Int) > 0) = false by rfl, cond_true, cond_false, fmt_L3_eq]
    refine (ref_fmt_L2_0 (p := 0) (K' := fun y => ref12_format_L1 (k + 1) c (fun y247 y248 => some y247) k y (Go.IntKind.wrap .i64 ((0 : Int) + 1))) (fun y z => rfl) (by omega) h0 (by omega) hgt (k + 1) _ (by omega) (by rw [e0]; simp; omega)).trans ?_
    rw [show Go.IntKind.wrap .i64 ((0 : Int) + 1) = ((1 : Nat) : Int) by rfl, ref_fmt_L1 (K' := fun y => some y) (fun y z => rfl) (by omega) hc (c.length - 1) 1 k _ (by omega) (by omega) (by omega) (by rw [er, e0]; simp; omega), er, e0, hcc]
    rfl
theorem fld_len {x : T_api_Type} (hok : typeOk x = true) {j : Nat} (hj : j < x.fFields.length) : (x.fFields[j]).fName.length ≤ 8 ∧ nameOk (x.fFields[j]).fName = true ∧ (x.fFields.take j).any (fun g => g.fName == (x.fFields[j]).fName) = false := by
  unfold typeOk fieldsOk at hok
  simp only [Bool.and_eq_true, Bool.not_eq_true', Bool.or_eq_false_iff, Bool.not_eq_false', decide_eq_false_iff_not] at hok
  obtain ⟨⟨_, h1, h2, h3, h4, _⟩, _⟩ := hok
  have := anyB_false.1 h4 j hj
  rw [badField, at'_eq hj] at this
  simp only [Bool.or_eq_false_iff, Bool.not_eq_false', decide_eq_false_iff_not] at this
  obtain ⟨⟨g0, _⟩, g5⟩ := this
  refine ⟨?_, g0, g5⟩
  unfold nameOk at g0
  simp only [Bool.and_eq_true, decide_eq_true_eq] at g0
  omega
theorem termOk_field {x : T_api_Type} {t : T_api_Term} (h : termOk x t = true) : ∃ j, ∃ hj : j < x.fFields.length, fieldAt x t.fField = (j : Int) ∧ (x.fFields[j]).fName = t.fField ∧ (t.fValue.length : Int) = (x.fFields[j]).fBytes ∧ 1 ≤ t.fOp ∧ t.fOp ≤ 6 := by
  unfold termOk at h
  simp only [Bool.and_eq_true, decide_eq_true_eq] at h
  obtain ⟨h1, h2, h3, h4⟩ := h
  rcases pos_cases x.fFields (fun f => f.fName == t.fField) with ⟨_, e⟩ | ⟨j, hj, hp, _, e⟩
  · unfold fieldAt at h1; rw [e] at h1; omega
  · have e' : fieldAt x t.fField = (j : Int) := e
    rw [e', idx_at hj] at h4
    exact ⟨j, hj, e', eq_of_beq hp, by simpa using h4, h2, h3⟩
theorem termOk_short {x : T_api_Type} (hok : typeOk x = true) {t : T_api_Term} (h : termOk x t = true) : shortT t := by
  obtain ⟨j, hj, _, h1, h2, h3, h4⟩ := termOk_field h
  have h5 := (fld_len hok hj).1
  have h6 := field_ok hok hj
  rw [h1] at h5
  exact ⟨h5, by omega, h3, h4⟩
theorem condOk_short {x : T_api_Type} (hok : typeOk x = true) {c : Cond} (h : condOk x c = true) : shortC c := by
  obtain ⟨h1, h2⟩ := condOk_len' h
  exact ⟨h1, fun g hg => ⟨h2 g hg, fun t ht => termOk_short hok (condOk_terms h g hg t ht)⟩⟩
def formatOf (b : T_api_Base) (t : Int) (c : Cond) : Str × Int := bif (condsOf b t [c]).2 != 0 then ([], (condsOf b t [c]).2) else (condS c, 0)
theorem conds_one {b : T_api_Base} {t : Int} {c : Cond} (hw : wf_T_api_Base b) : (∃ e, condsOf b t [c] = (zeroT, e) ∧ (condsOf b t [c, []]).2 = e ∧ (e != 0) = true) ∨ ∃ x, condsOf b t [c] = (x, 0) ∧ (condsOf b t [c, []]).2 = 0 ∧ idx b.fTypes t = some x ∧ asked b [t] = 0 ∧ wf_T_api_Type x ∧ typeOk x = true ∧ condOk x c = true := by
  unfold condsOf
  by_cases h : asked b [t] = 0
  · obtain ⟨x, hx, hwx, hok, _⟩ := asked_type hw h
    have hn : condOk x [] = true := rfl
    simp only [h, hx, bne_self_eq_false, cond_false, List.any_cons, List.any_nil, Bool.or_false, hn, Bool.not_true]
    cases h1 : condOk x c with
    | false => exact .inl ⟨110, rfl, rfl, rfl⟩
    | true => refine .inr ⟨x, ?_, ?_, ?_, ?_, hwx, hok, ?_⟩ <;> first | rfl | trivial | assumption
  · have : (asked b [t] != 0) = true := by simpa using h
    simp only [this, cond_true]
    exact .inl ⟨_, rfl, rfl, this⟩
theorem match_Format_spec {k : Nat} {b : T_api_Base} {t : Int} {c : Cond} (hk : maxLen + 20 ≤ k) (hw : wf_T_api_Base b) (hc : wfL (wfL wf_T_api_Term) c) : match_Format k b t c = some (formatOf b t c) := by
  have e63 := maxLen_eq
  obtain ⟨k, rfl, hq⟩ := succ_of (c := maxLen + 19) hk
  simp only [match_Format, match_conditions_ok (cs := [c]) (show maxLen + 18 ≤ k by omega) hw (by simp) (fun d hd => by simp at hd; subst hd; exact hc), Option.bind_some, formatOf]
  rcases conds_one (t := t) (c := c) hw with ⟨e, h1, _, h3⟩ | ⟨x, h1, _, hx, ha, hwx, hok, hco⟩
  · rw [h1]
    simp only [h3, cond_true]
  · rw [h1]
    have hs := condOk_short hok hco
    have hs1 := hs.1
    have hl := condS_len hs
    simp only [bne_self_eq_false, cond_false]
    refine (fmt_L1 (c := c) (K' := fun y => ((strings_Join k y [124]).bind fun v61 => some (v61, 0)).bind fun o62 => some (o62.1, o62.2)) (fun y z => rfl) (by omega) hs c.length 0 k (by omega) (by omega)).trans ?_
    obtain ⟨k, rfl, _⟩ := succ_of (show 0 + 1 ≤ k by omega)
    show (((joinS (c.map groupS) [124]).bind fun v61 => some (v61, 0)).bind fun o62 => some (o62.1, o62.2)) = _
    rw [joinS_cond (by omega) (by omega)]
    rfl
theorem ref12_Format_spec {k : Nat} {b : T_api_Base} {t : Int} {c : Cond} (hk : maxLen + 20 ≤ k) (hw : wf_T_api_Base b) (hc : wfL (wfL wf_T_api_Term) c) : ref12_Format k b t c = some (formatOf b t c) := by
  have e63 := maxLen_eq
  obtain ⟨k, rfl, hq⟩ := succ_of (c := maxLen + 19) hk
  have hn : wfL (wfL wf_T_api_Term) ([] : Cond) := ⟨by simp, fun g hg => by cases hg⟩
  simp only [ref12_Format, ref12_asked_ok (show maxLen + 14 ≤ k by omega) hw hc hn, Option.bind_some, formatOf]
  rcases conds_one (t := t) (c := c) hw with ⟨e, h1, h2, h3⟩ | ⟨x, h1, h2, hx, ha, hwx, hok, hco⟩
  · rw [h1, h2]
    simp only [h3, cond_true]
  · rw [h1, h2]
    simp only [bne_self_eq_false, cond_false, ref12_format_ok (show 1001 ≤ k by omega) (condOk_short hok hco), Option.bind_some]
end Go.Sh

namespace Go.Sh
open Go.AE
open Go.Lib (trimRightB)
set_option linter.unusedVariables false
set_option linter.unusedSimpArgs false
def opN (q : Str) : Int := bif signS 1 == q then 1 else bif signS 2 == q then 2 else bif signS 3 == q then 3 else bif signS 4 == q then 4 else bif signS 5 == q then 5 else bif signS 6 == q then 6 else 7
def sgn (s : Str) : Str := (s.take 10).drop 8
def zeroTm : T_api_Term := { fField := [], fOp := 0, fValue := [] }
def frontOf (x : T_api_Type) (s : Str) : Option (T_api_Term × Str) :=
  bif decide ((s.length : Int) < 10) then none else match idx x.fFields (fieldAt x (trimRightB (s.take 8) 32)) with
  | none => none
  | some f => bif decide (opN (sgn s) > 6) then none else bif decide ((s.length : Int) < 10 + f.fBytes) then none else
    some ({ fField := trimRightB (s.take 8) 32, fOp := opN (sgn s), fValue := (s.drop 10).take f.fBytes.toNat }, s.drop (10 + f.fBytes.toNat))
def takeR : Option (T_api_Term × Str) → T_api_Term × Str × Bool
  | none => (zeroTm, [], false)
  | some r => (r.1, r.2, true)
theorem opN_cases (q : Str) : (opN q = 7 ∧ ∀ op : Int, 1 ≤ op → op ≤ 6 → signS op ≠ q) ∨ (1 ≤ opN q ∧ opN q ≤ 6 ∧ signS (opN q) = q) := by
  unfold opN
  cases h1 : signS 1 == q with
  | true => exact .inr ⟨show (1 : Int) ≤ 1 by decide, show (1 : Int) ≤ 6 by decide, eq_of_beq h1⟩
  | false =>
    cases h2 : signS 2 == q with
    | true => exact .inr ⟨show (1 : Int) ≤ 2 by decide, show (2 : Int) ≤ 6 by decide, eq_of_beq h2⟩
    | false =>
      cases h3 : signS 3 == q with
      | true => exact .inr ⟨show (1 : Int) ≤ 3 by decide, show (3 : Int) ≤ 6 by decide, eq_of_beq h3⟩
      | false =>
        cases h4 : signS 4 == q with
        | true => exact .inr ⟨show (1 : Int) ≤ 4 by decide, show (4 : Int) ≤ 6 by decide, eq_of_beq h4⟩
        | false =>
          cases h5 : signS 5 == q with
          | true => exact .inr ⟨show (1 : Int) ≤ 5 by decide, show (5 : Int) ≤ 6 by decide, eq_of_beq h5⟩
          | false =>
            cases h6 : signS 6 == q with
            | true => exact .inr ⟨show (1 : Int) ≤ 6 by decide, show (6 : Int) ≤ 6 by decide, eq_of_beq h6⟩
            | false =>
              refine .inl ⟨rfl, fun op g1 g6 e => ?_⟩
              rcases (show op = 1 ∨ op = 2 ∨ op = 3 ∨ op = 4 ∨ op = 5 ∨ op = 6 by omega) with rfl | rfl | rfl | rfl | rfl | rfl <;> simp_all
theorem opN_sign {op : Int} (h1 : 1 ≤ op) (h6 : op ≤ 6) : opN (signS op) = op := by
  rcases (show op = 1 ∨ op = 2 ∨ op = 3 ∨ op = 4 ∨ op = 5 ∨ op = 6 by omega) with rfl | rfl | rfl | rfl | rfl | rfl <;> decide
theorem trimB_lastE (l : Str) (c b : UInt8) : trimRightB (l ++ [b]) c = if b = c then trimRightB l c else l ++ [b] := by
  unfold trimRightB
  rw [List.reverse_append, List.reverse_singleton, List.singleton_append, List.dropWhile_cons]
  by_cases h : b = c
  · rw [if_pos h, if_pos (by simp [h])]
  · rw [if_neg h, if_neg (by simp [h]), List.reverse_cons, List.reverse_reverse]
theorem trimB_repE (l : Str) (c : UInt8) : ∀ n : Nat, trimRightB (l ++ List.replicate n c) c = trimRightB l c
  | 0 => by rw [List.replicate_zero, List.append_nil]
  | n + 1 => by rw [List.replicate_succ', ← List.append_assoc, trimB_lastE, if_pos rfl, trimB_repE l c n]
/-- A text is its trimmed beginning, and spaces. -/
theorem trim_back (c : UInt8) : ∀ (n : Nat) (l : Str), l.length = n → ∃ m, l = trimRightB l c ++ List.replicate m c
  | 0, l, h => by
    obtain rfl := List.eq_nil_of_length_eq_zero h
    exact ⟨0, rfl⟩
  | n + 1, l, h => by
    obtain ⟨i, b, rfl⟩ : ∃ i b, l = i ++ [b] := by
      rcases List.eq_nil_or_concat l with e | ⟨i, b, e⟩
      · subst e; simp at h
      · exact ⟨i, b, by simpa using e⟩
    rw [trimB_lastE]
    split
    · rename_i e
      subst e
      obtain ⟨m, hm⟩ := trim_back b n i (by simpa using h)
      refine ⟨m + 1, ?_⟩
      rw [List.replicate_succ', ← List.append_assoc, ← hm]
    · exact ⟨0, by simp⟩
theorem name_trim {n : Str} (h : nameOk n = true) (m : Nat) : trimRightB (n ++ List.replicate m 32) 32 = n := by
  rw [trimB_repE]
  obtain ⟨i, b, rfl⟩ : ∃ i b, n = i ++ [b] := by
    rcases List.eq_nil_or_concat n with e | ⟨i, b, e⟩
    · subst e
      unfold nameOk at h
      simp at h
    · exact ⟨i, b, by simpa using e⟩
  rw [trimB_lastE, if_neg]
  rintro rfl
  unfold nameOk at h
  simp only [Bool.and_eq_true, Bool.not_eq_true'] at h
  have := anyB_false.1 h.1 i.length (by simp)
  rw [badL, at'_eq (by simp)] at this
  simp at this
theorem pad_trim {n p : Str} (h : nameOk n = true) (h8 : n.length ≤ 8) (hp : p.length = 8) : (p == padS n) = (n == trimRightB p 32) := by
  rw [Bool.eq_iff_iff]
  constructor
  · intro e
    have := eq_of_beq e
    subst this
    unfold padS
    rw [name_trim h, beq_self_eq_true]
  · intro e
    have e := eq_of_beq e
    obtain ⟨m, hm⟩ := trim_back 32 _ p rfl
    rw [← e] at hm
    have hl : p.length = n.length + m := by rw [hm]; simp
    have : padS n = p := by
      unfold padS
      rw [hm, show 8 - n.length = m by omega]
    rw [this, beq_self_eq_true]
theorem pad_of_trim {p : Str} (hp : p.length = 8) : padS (trimRightB p 32) = p := by
  obtain ⟨m, hm⟩ := trim_back 32 _ p rfl
  have hl : p.length = (trimRightB p 32).length + m := by rw [← List.length_replicate (n := m) (a := (32 : UInt8)), ← List.length_append, ← hm]
  unfold padS
  rw [show 8 - (trimRightB p 32).length = m by omega, ← hm]
theorem cut_nat {α : Type} {l : List α} {i j : Nat} (h1 : i ≤ j) (h2 : j ≤ l.length) : cut l (i : Int) (j : Int) = some ((l.take j).drop i) := by
  unfold cut
  rw [if_pos ⟨by omega, by omega, by omega⟩, Int.toNat_natCast, Int.toNat_natCast]
theorem cut_from {α : Type} {l : List α} {i : Nat} (h : i ≤ l.length) : cut l (i : Int) (l.length : Int) = some (l.drop i) := by
  rw [cut_nat h (Nat.le_refl _), List.take_length]
theorem take_step {k : Nat} {s : Str} {K : Int → Option (T_api_Term × Str × Bool)} {m : Nat} {op : Int} (hk : 1 ≤ k) (hs : 10 ≤ s.length) (h1 : 1 ≤ op) (h6 : op ≤ 6) : match_take_L1 k s K (m + 1) op = bif signS op == sgn s then K op else match_take_L1 k s K m (op + 1) := by
  have hc : cut s 8 10 = some (sgn s) := cut_nat (i := 8) (j := 10) (by omega) hs
  simp only [match_take_L1, show decide (op ≤ 6) = true by simpa using h6, cond_true, match_sign_ok hk h1 h6, hc, Option.bind_some, wrap_in (show -9223372036854775808 ≤ op + 1 by omega) (show op + 1 ≤ 9223372036854775807 by omega)]
  cases signS op == sgn s <;> rfl
theorem take_L1 {k : Nat} {s : Str} {K : Int → Option (T_api_Term × Str × Bool)} {m : Nat} (hk : 1 ≤ k) (hs : 10 ≤ s.length) (hm : 8 ≤ m) : match_take_L1 k s K m 1 = K (opN (sgn s)) := by
  obtain ⟨m, rfl⟩ : ∃ q, m = q + 1 + 1 + 1 + 1 + 1 + 1 + 1 := ⟨m - 7, by omega⟩
  rw [take_step hk hs (by decide) (by decide), show (1 : Int) + 1 = 2 by rfl, take_step hk hs (by decide) (by decide), show (2 : Int) + 1 = 3 by rfl, take_step hk hs (by decide) (by decide), show (3 : Int) + 1 = 4 by rfl, take_step hk hs (by decide) (by decide), show (4 : Int) + 1 = 5 by rfl, take_step hk hs (by decide) (by decide), show (5 : Int) + 1 = 6 by rfl, take_step hk hs (by decide) (by decide), show (6 : Int) + 1 = 7 by rfl]
  have h7 : match_take_L1 k s K (m + 1) 7 = K 7 := rfl
  rw [h7]
  unfold opN
  cases signS 1 == sgn s <;> cases signS 2 == sgn s <;> cases signS 3 == sgn s <;> cases signS 4 == sgn s <;> cases signS 5 == sgn s <;> cases signS 6 == sgn s <;> rfl
theorem match_take_ok {k : Nat} {x : T_api_Type} {s : Str} (hk : maxLen + 6 ≤ k) (hok : typeOk x = true) (hx : x.fFields.length ≤ maxLen) : match_take k x s = some (takeR (frontOf x s)) := by
  have e63 := maxLen_eq
  obtain ⟨k, rfl, hq⟩ := succ_of (c := maxLen + 5) hk
  unfold match_take frontOf
  by_cases h10 : s.length < 10
  · have : decide ((s.length : Int) < 10) = true := by simp; omega
    simp only [this, cond_true]
    rfl
  have hd : decide ((s.length : Int) < 10) = false := by simp; omega
  have hcut : cut s 0 8 = some (s.take 8) := by
    have := cut_nat (l := s) (i := 0) (j := 8) (by omega) (by omega)
    simpa using this
  have htrim : strings_TrimRight k (s.take 8) [32] = some (trimRightB (s.take 8) 32) := by
    obtain ⟨k, rfl, _⟩ := succ_of (show 0 + 1 ≤ k by omega)
    simp only [strings_TrimRight, trimR]
    rw [if_pos ⟨by decide, by rw [List.length_take]; omega⟩]
  simp only [hd, cond_false, hcut, Option.bind_some, htrim]
  rw [take_L1 (show 1 ≤ k by omega) (by omega) (by omega), match_field_ok (show maxLen + 4 ≤ k by omega) hx]
  generalize hn : trimRightB (s.take 8) 32 = name
  rcases pos_cases x.fFields (fun f => f.fName == name) with ⟨_, e⟩ | ⟨j, hj, hp, _, e⟩
  · have e' : fieldAt x name = -1 := e
    rw [e']
    rfl
  have e' : fieldAt x name = (j : Int) := e
  rw [e']
  have hge : decide ((j : Int) ≥ 0) = true := by simp
  simp only [Option.bind_some, hge, Bool.not_true, cond_false, idx_at hj]
  rcases opN_cases (sgn s) with ⟨e7, _⟩ | ⟨_, h6, _⟩
  · rw [e7]
    rfl
  have h6' : decide (opN (sgn s) > 6) = false := by simpa using h6
  have hf := field_ok hok hj
  obtain ⟨n, hn2⟩ : ∃ n : Nat, (x.fFields[j]).fBytes = (n : Int) := ⟨(x.fFields[j]).fBytes.toNat, (Int.toNat_of_nonneg (by omega)).symm⟩
  have hc10 : cut s 10 (s.length : Int) = some (s.drop 10) := cut_from (i := 10) (by omega)
  have hdl : (s.drop 10).length = s.length - 10 := List.length_drop
  simp only [h6', cond_false, hc10, Option.bind_some, hn2, Int.toNat_natCast]
  by_cases hlen : s.length < 10 + n
  · have h1 : decide (((s.drop 10).length : Int) < (n : Int)) = true := by simp; omega
    have h2 : decide ((s.length : Int) < 10 + (n : Int)) = true := by simp; omega
    simp only [h1, h2, cond_true]
    rfl
  · have h1 : decide (((s.drop 10).length : Int) < (n : Int)) = false := by simp; omega
    have h2 : decide ((s.length : Int) < 10 + (n : Int)) = false := by simp; omega
    simp only [h1, h2, cond_false, cut_take (show n ≤ (s.drop 10).length by omega), cut_from (show n ≤ (s.drop 10).length by omega), Option.bind_some, List.drop_drop]
    rfl
def hitF (s : Str) (f : T_api_Field) : Bool := decide (10 + f.fBytes ≤ (s.length : Int)) && (s.take 8 == padS f.fName)
theorem take10 {s p z : Str} (hs : 10 ≤ s.length) (hp : p.length = 8) : (s.take 10 == p ++ z) = (s.take 8 == p && z == sgn s) := by
  have e : s.take 10 = s.take 8 ++ sgn s := by
    have := (List.take_append_drop 8 (s.take 10)).symm
    rw [List.take_take] at this
    exact this
  rw [Bool.eq_iff_iff]
  constructor
  · intro h
    have h := eq_of_beq h
    rw [e] at h
    obtain ⟨h1, h2⟩ := List.append_inj h (by rw [hp, List.length_take]; omega)
    rw [h1, h2]
    simp
  · intro h
    rw [Bool.and_eq_true] at h
    rw [e, eq_of_beq h.1, eq_of_beq h.2, beq_self_eq_true]
def frontF (s : Str) (f : T_api_Field) (op : Int) : T_api_Term × Str × Bool := ({ fField := f.fName, fOp := op, fValue := (s.drop 10).take f.fBytes.toNat }, s.drop (10 + f.fBytes.toNat), true)
theorem front_step {k : Nat} {s : Str} {f : T_api_Field} {K : Int → Option (T_api_Term × Str × Bool)} {m : Nat} {op : Int} (hk : 10 ≤ k) (hl : s.length ≤ maxLen) (h8 : f.fName.length ≤ 8) (hb : 1 ≤ f.fBytes) (hb2 : f.fBytes ≤ 40) (h1 : 1 ≤ op) (h6 : op ≤ 6) :
    ref12_Front_L2 k s f K (m + 1) op = bif hitF s f && (signS op == sgn s) then some (frontF s f op) else ref12_Front_L2 k s f K m (op + 1) := by
  have e63 := maxLen_eq
  have hpl := padS_len h8
  have hsl := signS_len op
  have hol : (padS f.fName ++ signS op).length = 10 := by rw [List.length_append, hpl, hsl]
  obtain ⟨n, hn⟩ : ∃ n : Nat, f.fBytes = (n : Int) := ⟨f.fBytes.toNat, (Int.toNat_of_nonneg (by omega)).symm⟩
  simp only [ref12_Front_L2, show decide (op ≤ 6) = true by simpa using h6, cond_true, ref12_Padded_ok hk (show f.fName.length ≤ 1000000 by omega), ref12_sign_ok (show 1 ≤ k by omega), Option.bind_some]
  rw [cat_okE (by rw [hpl, hsl]; simp only [maxList]; omega)]
  simp only [Option.bind_some, hol, hitF, hn, wrap_in (show -9223372036854775808 ≤ ((10 : Nat) : Int) + (n : Int) by omega) (show ((10 : Nat) : Int) + (n : Int) ≤ 9223372036854775807 by omega), wrap_in (show -9223372036854775808 ≤ op + 1 by omega) (show op + 1 ≤ 9223372036854775807 by omega), frontF, Int.toNat_natCast]
  by_cases hlen : 10 + n ≤ s.length
  · have d1 : decide ((s.length : Int) ≥ ((10 : Nat) : Int) + (n : Int)) = true := by simp; omega
    have d2 : decide (10 + (n : Int) ≤ (s.length : Int)) = true := by simp; omega
    have hcut : cut s 0 ((10 : Nat) : Int) = some (s.take 10) := cut_take (by omega)
    have hc2 : cut s ((10 : Nat) : Int) (((10 : Nat) : Int) + (n : Int)) = some ((s.drop 10).take n) := by
      have := cut_nat (l := s) (i := 10) (j := 10 + n) (by omega) hlen
      rw [Int.natCast_add] at this
      rw [this, List.drop_take, show 10 + n - 10 = n by omega]
    have hc3 : cut s (((10 : Nat) : Int) + (n : Int)) (s.length : Int) = some (s.drop (10 + n)) := by
      have := cut_from (l := s) (i := 10 + n) hlen
      rw [Int.natCast_add] at this
      exact this
    simp only [d1, d2, cond_true, hcut, Option.bind_some, take10 (show 10 ≤ s.length by omega) hpl, hc2, hc3, Bool.true_and]
  · have d1 : decide ((s.length : Int) ≥ ((10 : Nat) : Int) + (n : Int)) = false := by simp; omega
    have d2 : decide (10 + (n : Int) ≤ (s.length : Int)) = false := by simp; omega
    simp only [d1, d2, cond_false, Option.bind_some, Bool.false_and]
theorem front_L2 {k : Nat} {s : Str} {f : T_api_Field} {K : Int → Option (T_api_Term × Str × Bool)} {m : Nat} (hk : 10 ≤ k) (hl : s.length ≤ maxLen) (h8 : f.fName.length ≤ 8) (hb : 1 ≤ f.fBytes) (hb2 : f.fBytes ≤ 40) (hm : 8 ≤ m) :
    ref12_Front_L2 k s f K m 1 = bif hitF s f && decide (opN (sgn s) ≤ 6) then some (frontF s f (opN (sgn s))) else K 7 := by
  obtain ⟨m, rfl⟩ : ∃ q, m = q + 1 + 1 + 1 + 1 + 1 + 1 + 1 := ⟨m - 7, by omega⟩
  rw [front_step hk hl h8 hb hb2 (by decide) (by decide), show (1 : Int) + 1 = 2 by rfl, front_step hk hl h8 hb hb2 (by decide) (by decide), show (2 : Int) + 1 = 3 by rfl, front_step hk hl h8 hb hb2 (by decide) (by decide), show (3 : Int) + 1 = 4 by rfl, front_step hk hl h8 hb hb2 (by decide) (by decide), show (4 : Int) + 1 = 5 by rfl, front_step hk hl h8 hb hb2 (by decide) (by decide), show (5 : Int) + 1 = 6 by rfl, front_step hk hl h8 hb hb2 (by decide) (by decide), show (6 : Int) + 1 = 7 by rfl]
  have h7 : ref12_Front_L2 k s f K (m + 1) 7 = K 7 := rfl
  rw [h7]
  unfold opN
  cases hitF s f <;> cases signS 1 == sgn s <;> cases signS 2 == sgn s <;> cases signS 3 == sgn s <;> cases signS 4 == sgn s <;> cases signS 5 == sgn s <;> cases signS 6 == sgn s <;> rfl
theorem ref12_Front_ok {k : Nat} {b : T_api_Base} {t : Int} {x : T_api_Type} {s : Str} (hk : maxLen + 6 ≤ k) (hi : idx b.fTypes t = some x) (hok : typeOk x = true) (hx : x.fFields.length ≤ maxLen) (hl : s.length ≤ maxLen) : ref12_Front k b t s = some (takeR (frontOf x s)) := by
  have e63 := maxLen_eq
  obtain ⟨k, rfl, hq⟩ := succ_of (c := maxLen + 5) hk
  unfold ref12_Front
  refine Eq.trans (loop0 (L := fun m i => ref12_Front_L1 k b t s (fun y52 => some (({ fField := [], fOp := 0, fValue := [] } : T_api_Term), ([] : Str), false)) m i) (n := x.fFields.length) (g := at' x.fFields fun f => hitF s f && decide (opN (sgn s) ≤ 6)) (r := fun i => match x.fFields[i]? with | some f => some (frontF s f (opN (sgn s))) | none => none) (z := some (takeR none)) ?_ ?_ (by omega)) ?_
  · intro m i hlt _
    obtain ⟨h8, _, _⟩ := fld_len hok hlt
    have hf := field_ok hok hlt
    simp only [ref12_Front_L1, hi, Option.bind_some, idx_at hlt, show decide ((i : Int) < (x.fFields.length : Int)) = true by simp; omega, cond_true, front_L2 (show 10 ≤ k by omega) hl h8 hf.2.1 (show (x.fFields[i]).fBytes ≤ 40 by omega) (show 8 ≤ k by omega), at'_eq hlt, wrap_next hlt hx, List.getElem?_eq_getElem hlt]
  · intro m _
    simp only [ref12_Front_L1, hi, Option.bind_some, show decide ((x.fFields.length : Int) < (x.fFields.length : Int)) = false by simp, cond_false]
    rfl
  -- the same place
  unfold frontOf
  by_cases h10 : s.length < 10
  · have : decide ((s.length : Int) < 10) = true := by simp; omega
    rw [this, cond_true]
    refine scan_false _ _ (fun j _ hj => ?_)
    have hjl : j < x.fFields.length := by omega
    have hf := field_ok hok hjl
    rw [at'_eq hjl]
    have : decide (10 + (x.fFields[j]).fBytes ≤ (s.length : Int)) = false := by simp; omega
    rw [hitF, this]
    rfl
  have hd : decide ((s.length : Int) < 10) = false := by simp; omega
  rw [hd, cond_false]
  have hit : ∀ j (hj : j < x.fFields.length), hitF s x.fFields[j] = (decide (10 + (x.fFields[j]).fBytes ≤ (s.length : Int)) && ((x.fFields[j]).fName == trimRightB (s.take 8) 32)) := by
    intro j hj
    obtain ⟨h8, hno, _⟩ := fld_len hok hj
    rw [hitF, pad_trim hno h8 (by rw [List.length_take]; omega)]
  generalize hn : trimRightB (s.take 8) 32 = name at hit
  rcases pos_cases x.fFields (fun f => f.fName == name) with ⟨hall, e⟩ | ⟨j, hj, hp, hbef, e⟩
  · have e' : fieldAt x name = -1 := e
    rw [e']
    refine scan_false _ _ (fun j _ hj => ?_)
    have hjl : j < x.fFields.length := by omega
    rw [at'_eq hjl, hit j hjl, hall j hjl]
    simp
  have e' : fieldAt x name = (j : Int) := e
  rw [e', idx_at hj]
  have hother : ∀ i (hi : i < x.fFields.length), i ≠ j → ((x.fFields[i]).fName == name) = false := by
    intro i hi hne
    rcases Nat.lt_or_ge i j with h | h
    · exact hbef i hi h
    · obtain ⟨_, _, hany⟩ := fld_len hok hi
      rw [List.any_eq_false] at hany
      have := hany x.fFields[j] (by rw [List.mem_take_iff_getElem]; exact ⟨j, by omega, rfl⟩)
      have hpj := eq_of_beq hp
      refine beq_eq_false_iff_ne.2 fun e2 => this ?_
      rw [hpj, e2, beq_self_eq_true]
  have hf := field_ok hok hj
  rcases opN_cases (sgn s) with ⟨e7, _⟩ | ⟨_, h6, _⟩
  · rw [e7]
    refine scan_false _ _ (fun i _ hi => ?_)
    have hil : i < x.fFields.length := by omega
    rw [at'_eq hil]
    simp
  have h6' : decide (opN (sgn s) > 6) = false := by simpa using h6
  have h6'' : decide (opN (sgn s) ≤ 6) = true := by simpa using h6
  simp only [h6', cond_false]
  by_cases hlen : (s.length : Int) < 10 + (x.fFields[j]).fBytes
  · have d1 : decide ((s.length : Int) < 10 + (x.fFields[j]).fBytes) = true := by simpa using hlen
    rw [d1, cond_true]
    refine scan_false _ _ (fun i _ hi => ?_)
    have hil : i < x.fFields.length := by omega
    rw [at'_eq hil, hit i hil]
    by_cases e2 : i = j
    · subst e2
      have : decide (10 + (x.fFields[i]).fBytes ≤ (s.length : Int)) = false := by simp; omega
      rw [this]
      rfl
    · rw [hother i hil e2]
      simp
  · have d1 : decide ((s.length : Int) < 10 + (x.fFields[j]).fBytes) = false := by simpa using hlen
    rw [d1, cond_false]
    have hgj : at' x.fFields (fun f => hitF s f && decide (opN (sgn s) ≤ 6)) j = true := by
      rw [at'_eq hj, hit j hj, h6'', hp]
      have : decide (10 + (x.fFields[j]).fBytes ≤ (s.length : Int)) = true := by simp; omega
      rw [this]
      rfl
    rcases scan_cases (at' x.fFields fun f => hitF s f && decide (opN (sgn s) ≤ 6)) (fun i => match x.fFields[i]? with | some f => some (frontF s f (opN (sgn s))) | none => none) (some (takeR none)) x.fFields.length 0 with ⟨g1, _⟩ | ⟨i, _, g2, g3, _, g4⟩
    · rw [g1 j (by omega) (by omega)] at hgj; cases hgj
    · have hil : i < x.fFields.length := by omega
      have hij : i = j := by
        by_cases e2 : i = j
        · exact e2
        · rw [at'_eq hil, hit i hil, hother i hil e2] at g3
          simp at g3
      subst hij
      rw [g4, List.getElem?_eq_getElem hil]
      simp only [frontF, takeR, eq_of_beq hp]
end Go.Sh

namespace Go.Sh
open Go.AE
open Go.Lib (trimRightB)
set_option linter.unusedVariables false
set_option linter.unusedSimpArgs false
def parseGo (x : T_api_Type) : Nat → Str → List T_api_Term → Cond → Option Cond
  | 0, _, _, _ => none
  | n + 1, s, g, out => match frontOf x s with
    | none => none
    | some (t, r) => match r with
      | [] => some (out ++ [g ++ [t]])
      | c :: r => bif c == 38 then parseGo x n r (g ++ [t]) out else bif c == 124 then parseGo x n r [] (out ++ [g ++ [t]]) else none
def parsed (x : T_api_Type) : Option Cond → Cond × Int
  | none => ([], 3)
  | some c => bif condOk x c then (c, 0) else ([], 3)
def parseOf (b : T_api_Base) (t : Int) (s : Str) : Cond × Int := bif asked b [t] != 0 then ([], asked b [t]) else match idx b.fTypes t with
  | none => ([], 0)
  | some x => bif s == [] then ([], 0) else parsed x (parseGo x (s.length + 1) s [] [])
theorem take10e {s : Str} : s.take 10 = s.take 8 ++ sgn s := by
  have := (List.take_append_drop 8 (s.take 10)).symm
  rw [List.take_take] at this
  exact this
theorem front_some {x : T_api_Type} {s r : Str} {t : T_api_Term} (hok : typeOk x = true) (h : frontOf x s = some (t, r)) : s = termS t ++ r ∧ termOk x t = true ∧ r.length + 11 ≤ s.length := by
  unfold frontOf at h
  by_cases h10 : s.length < 10
  · have : decide ((s.length : Int) < 10) = true := by simp; omega
    rw [this] at h
    cases h
  have hd : decide ((s.length : Int) < 10) = false := by simp; omega
  rw [hd, cond_false] at h
  have h8 : (s.take 8).length = 8 := by rw [List.length_take]; omega
  have hpad := pad_of_trim h8
  generalize trimRightB (s.take 8) 32 = name at h hpad
  rcases pos_cases x.fFields (fun f => f.fName == name) with ⟨_, e⟩ | ⟨j, hj, hp, _, e⟩
  · have e' : fieldAt x name = -1 := e
    rw [e'] at h
    cases h
  have e' : fieldAt x name = (j : Int) := e
  rw [e', idx_at hj] at h
  simp only at h
  rcases opN_cases (sgn s) with ⟨e7, _⟩ | ⟨h1, h6, hs⟩
  · rw [e7] at h
    cases h
  have h6' : decide (opN (sgn s) > 6) = false := by simpa using h6
  rw [h6', cond_false] at h
  have hf := field_ok hok hj
  obtain ⟨n, hn⟩ : ∃ n : Nat, (x.fFields[j]).fBytes = (n : Int) := ⟨(x.fFields[j]).fBytes.toNat, (Int.toNat_of_nonneg (by omega)).symm⟩
  rw [hn] at h
  by_cases hlen : s.length < 10 + n
  · have : decide ((s.length : Int) < 10 + (n : Int)) = true := by simp; omega
    rw [this] at h
    cases h
  have hl : decide ((s.length : Int) < 10 + (n : Int)) = false := by simp; omega
  rw [hl, cond_false, Int.toNat_natCast] at h
  obtain ⟨rfl, rfl⟩ := Prod.mk.inj (Option.some.inj h)
  refine ⟨?_, ?_, ?_⟩
  · simp only [termS, hpad, hs]
    rw [← List.append_assoc (s.take 8), ← take10e, List.append_assoc, ← List.drop_drop, List.take_append_drop, List.take_append_drop]
  · unfold termOk
    simp only [e', idx_at hj, hn, List.length_take, List.length_drop, Bool.and_eq_true, decide_eq_true_eq]
    refine ⟨by omega, h1, h6, ?_⟩
    rw [Nat.min_eq_left (by omega), beq_self_eq_true]
  · rw [List.length_drop]
    omega
theorem front_term {x : T_api_Type} {t : T_api_Term} (r : Str) (hok : typeOk x = true) (h : termOk x t = true) : frontOf x (termS t ++ r) = some (t, r) := by
  obtain ⟨j, hj, e, h1, h2, h3, h4⟩ := termOk_field h
  obtain ⟨h8, hno, _⟩ := fld_len hok hj
  rw [h1] at h8 hno
  have hpl := padS_len h8
  have hsl := signS_len t.fOp
  have hlen : (termS t ++ r).length = 10 + t.fValue.length + r.length := by
    unfold termS
    simp only [List.length_append, hpl, hsl]
    omega
  have ha : termS t ++ r = padS t.fField ++ (signS t.fOp ++ (t.fValue ++ r)) := by simp only [termS, List.append_assoc]
  have hb : termS t ++ r = (padS t.fField ++ signS t.fOp) ++ (t.fValue ++ r) := by simp only [termS, List.append_assoc]
  have hc : termS t ++ r = ((padS t.fField ++ signS t.fOp) ++ t.fValue) ++ r := by simp only [termS, List.append_assoc]
  have t8 : (termS t ++ r).take 8 = padS t.fField := by rw [ha]; exact List.take_left' hpl
  have hpsl : (padS t.fField ++ signS t.fOp).length = 10 := by rw [List.length_append, hpl, hsl]
  have t10 : (termS t ++ r).take 10 = padS t.fField ++ signS t.fOp := by rw [hb]; exact List.take_left' hpsl
  have hsg : sgn (termS t ++ r) = signS t.fOp := by unfold sgn; rw [t10]; exact List.drop_left' hpl
  have d10 : (termS t ++ r).drop 10 = t.fValue ++ r := by rw [hb]; exact List.drop_left' hpsl
  have hname : trimRightB (padS t.fField) 32 = t.fField := name_trim hno _
  unfold frontOf
  have hd : decide (((termS t ++ r).length : Int) < 10) = false := by rw [hlen]; simp; omega
  rw [hd, cond_false, t8, hname, e, idx_at hj, hsg, opN_sign h3 h4]
  have hd2 : decide (((termS t ++ r).length : Int) < 10 + (t.fValue.length : Int)) = false := by rw [hlen]; simp; omega
  have hd3 : decide (t.fOp > 6) = false := by simpa using h4
  simp only [hd2, hd3, cond_false, ← h2, Int.toNat_natCast, d10, List.take_left]
  rw [← List.drop_drop, d10, List.drop_left]
def goodC (c : Cond) : Prop := ∀ h ∈ c, h.length ≤ 1000000 ∧ ∀ u ∈ h, shortT u
theorem good_add {out : Cond} {g : List T_api_Term} (h : goodC out) (hg : g.length ≤ 1000000) (hs : ∀ u ∈ g, shortT u) : goodC (out ++ [g]) := by
  intro q hq
  rcases List.mem_append.1 hq with hq | hq
  · exact h q hq
  · rw [List.mem_singleton] at hq
    subst hq
    exact ⟨hg, hs⟩
theorem short_add {g : List T_api_Term} {t : T_api_Term} (hs : ∀ u ∈ g, shortT u) (ht : shortT t) : ∀ u ∈ g ++ [t], shortT u := by
  intro u hu
  rcases List.mem_append.1 hu with hu | hu
  · exact hs u hu
  · rw [List.mem_singleton] at hu
    subst hu
    exact ht
theorem parse_good {x : T_api_Type} (hok : typeOk x = true) : ∀ (n : Nat) (s : Str) (g : List T_api_Term) (out c : Cond), parseGo x n s g out = some c → s.length + g.length + out.length ≤ 1000000 → goodC out → (∀ u ∈ g, shortT u) → goodC c ∧ c.length ≤ 1000000
  | 0, s, g, out, c, h, _, _, _ => by cases h
  | n + 1, s, g, out, c, h, hb, ho, hg => by
    unfold parseGo at h
    cases hf : frontOf x s with
    | none => rw [hf] at h; cases h
    | some q =>
      obtain ⟨t, r⟩ := q
      obtain ⟨_, h2, h3⟩ := front_some hok hf
      have ht := termOk_short hok h2
      have hg' := short_add hg ht
      rw [hf] at h
      simp only at h
      cases r with
      | nil =>
        obtain rfl := Option.some.inj h
        exact ⟨good_add ho (by simp; omega) hg', by simp; omega⟩
      | cons a r =>
        simp only [List.length_cons] at h3
        simp only at h
        cases h38 : a == 38 with
        | true =>
          rw [h38, cond_true] at h
          exact parse_good hok n r _ out c h (by simp; omega) ho hg'
        | false =>
          rw [h38, cond_false] at h
          cases h124 : a == 124 with
          | true =>
            rw [h124, cond_true] at h
            exact parse_good hok n r [] _ c h (by simp; omega) (good_add ho (by simp; omega) hg') (by simp)
          | false => rw [h124] at h; cases h
theorem wf_short {t : T_api_Term} (h : shortT t) : wf_T_api_Term t := ⟨wfS_short (by have := h.1; omega), wfI_small (by have := h.2.2.1; omega) (by have := h.2.2.2; omega), wfS_short (by have := h.2.1; omega), trivial⟩
theorem good_wf {c : Cond} (h : goodC c) (hl : c.length ≤ 1000000) : wfL (wfL wf_T_api_Term) c := by
  have e63 := maxLen_eq
  exact ⟨by omega, fun g hg => ⟨by have := (h g hg).1; omega, fun u hu => wf_short ((h g hg).2 u hu)⟩⟩
theorem byteE (c n : UInt8) : (((c.toNat : Int)) == (n.toNat : Int)) = (c == n) := by
  by_cases h : c = n
  · subst h; simp
  · rw [beq_eq_false_iff_ne.2 h]
    refine beq_eq_false_iff_ne.2 fun hq => h ?_
    apply UInt8.toNat_inj.1
    omega
theorem byte38 (c : UInt8) : ((c.toNat : Int) == 38) = (c == 38) := byteE c 38
theorem byte124 (c : UInt8) : ((c.toNat : Int) == 124) = (c == 124) := byteE c 124
theorem idxS_cons (c : UInt8) (r : Str) : idxS (c :: r) 0 = some (c.toNat : Int) := rfl
theorem cut_cons (c : UInt8) (r : Str) : cut (c :: r) 1 ((c :: r).length : Int) = some r := cut_from (l := c :: r) (i := 1) (by simp)
theorem parse_L1 {k : Nat} {b : T_api_Base} {t : Int} {x : T_api_Type} {K : Str → Cond → Option (Cond × Int)} (hk : maxLen + 6 ≤ k) (hi : idx b.fTypes t = some x) (hok : typeOk x = true) (hx : x.fFields.length ≤ maxLen) :
    ∀ (n m : Nat) (s : Str) (g : List T_api_Term) (out : Cond), s.length < n → n ≤ m → s.length + g.length + out.length ≤ 1000000 → match_Parse_L1 k b t K m s (out ++ [g]) = match parseGo x n s g out with | none => some ([], 3) | some c => K [] c
  | 0, m, s, g, out, h, _, _ => by omega
  | n + 1, m, s, g, out, h, hm, hb => by
    obtain ⟨m, rfl⟩ : ∃ q, m = q + 1 := ⟨m - 1, by omega⟩
    have e63 := maxLen_eq
    simp only [match_Parse_L1, hi, Option.bind_some, match_take_ok hk hok hx]
    unfold parseGo
    cases hf : frontOf x s with
    | none => rfl
    | some q =>
      obtain ⟨u, r⟩ := q
      obtain ⟨_, _, h3⟩ := front_some hok hf
      have hw : Go.IntKind.wrap .i64 (((out ++ [g]).length : Int) - 1) = (out.length : Int) := by
        rw [List.length_append, List.length_singleton, wrap_in (by omega) (by omega)]
        omega
      have h1 : inB (out ++ [g]).length (out.length : Int) = some () := by
        unfold inB
        rw [if_pos ⟨by omega, by rw [List.length_append, List.length_singleton]; omega⟩]
      have h2 : (out ++ [g])[0 + (out.length : Int).toNat]? = some g := by
        rw [Int.toNat_natCast, Nat.zero_add, List.getElem?_append_right (Nat.le_refl _), Nat.sub_self]
        rfl
      have h4 : (out ++ [g]).set (0 + (out.length : Int).toNat) (g ++ [u]) = out ++ [g ++ [u]] := by
        rw [Int.toNat_natCast, Nat.zero_add, List.set_append_right _ _ (Nat.le_refl _), Nat.sub_self]
        rfl
      simp only [takeR, Bool.not_true, cond_false, hw, h1, h2, Option.bind_some]
      rw [app_ok (by simp only [List.length_singleton, maxList]; omega)]
      simp only [Option.bind_some, h4]
      cases r with
      | nil => rfl
      | cons a r =>
        simp only [List.length_cons] at h3
        simp only [show ((a :: r : Str) == ([] : Str)) = false by rfl, cond_false, idxS_cons, Option.bind_some, byte38, byte124, cut_cons]
        cases h38 : a == 38 with
        | true =>
          simp only [cond_true]
          exact parse_L1 hk hi hok hx n m r (g ++ [u]) out (by omega) (by omega) (by rw [List.length_append, List.length_singleton]; omega)
        | false =>
          simp only [cond_false]
          cases h124 : a == 124 with
          | true =>
            simp only [cond_true]
            rw [app_ok (by simp only [List.length_append, List.length_singleton, maxList]; omega), Option.bind_some]
            exact parse_L1 hk hi hok hx n m r [] (out ++ [g ++ [u]]) (by omega) (by omega) (by simp only [List.length_append, List.length_singleton, List.length_nil]; omega)
          | false => rfl
theorem match_Parse_spec {k : Nat} {b : T_api_Base} {t : Int} {s : Str} (hk : maxLen + 20 ≤ k) (hw : wf_T_api_Base b) (hs : s.length ≤ 100000) : match_Parse k b t s = some (parseOf b t s) := by
  have e63 := maxLen_eq
  obtain ⟨k, rfl, hq⟩ := succ_of (c := maxLen + 19) hk
  simp only [match_Parse, match_asked_ok (show maxLen + 13 ≤ k by omega) hw, Option.bind_some, parseOf]
  by_cases h : asked b [t] = 0
  · obtain ⟨x, hx, hwx, hok, _⟩ := asked_type hw h
    have hfl : x.fFields.length ≤ maxLen := hwx.2.2.2.2.1.1
    simp only [h, hx, bne_self_eq_false, cond_false]
    cases hse : s == ([] : Str) with
    | true => rfl
    | false =>
      simp only [cond_false]
      have e := parse_L1 (K := fun y39 y40 => (((idx b.fTypes t).bind fun v41 => ((match_valid k v41 y40).bind fun v42 => (some ((!v42))))).bind fun o43 => (bif o43 then (some (([] : Cond), 3)) else (some (y40, 0))))) (show maxLen + 6 ≤ k by omega) hx hok hfl (s.length + 1) k s [] [] (by omega) (by omega) (by simp; omega)
      simp only [hx, Option.bind_some] at e ⊢
      refine e.trans ?_
      cases hp : parseGo x (s.length + 1) s [] [] with
      | none => rfl
      | some c =>
        obtain ⟨hg, hl⟩ := parse_good hok _ _ _ _ _ hp (by simp; omega) (by intro q hq; cases hq) (by intro q hq; cases hq)
        simp only [match_valid_ok (show maxLen + 13 ≤ k by omega) hfl (good_wf hg hl), Option.bind_some, parsed]
        cases condOk x c <;> rfl
  · have : (asked b [t] != 0) = true := by simpa using h
    simp only [this, cond_true]
def endR (r : Cond × Str × Bool) : Cond × Int := bif (!r.2.2) || !(r.2.1 == ([] : Str)) then ([], 3) else (r.1, 0)
theorem begin_L1 {k : Nat} {b : T_api_Base} {t : Int} {x : T_api_Type} (hk : maxLen + 13 ≤ k) (hw : wf_T_api_Base b) (ha : asked b [t] = 0) (hi : idx b.fTypes t = some x) (hok : typeOk x = true) (hx : x.fFields.length ≤ maxLen) :
    ∀ (n m : Nat) (s : Str) (g : List T_api_Term) (out : Cond), s.length < n → n ≤ m → s.length + g.length + out.length ≤ 1000000 → goodC out → (∀ u ∈ g, shortT u) → ∃ r, ref12_Begin_L1 k b t m s g out = some r ∧ endR r = parsed x (parseGo x n s g out)
  | 0, m, s, g, out, h, _, _, _, _ => by omega
  | n + 1, m, s, g, out, h, hm, hb, ho, hg => by
    obtain ⟨m, rfl⟩ : ∃ q, m = q + 1 := ⟨m - 1, by omega⟩
    have e63 := maxLen_eq
    simp only [ref12_Begin_L1, ref12_Front_ok (show maxLen + 6 ≤ k by omega) hi hok hx (show s.length ≤ maxLen by omega), Option.bind_some]
    unfold parseGo
    cases hf : frontOf x s with
    | none => exact ⟨_, rfl, rfl⟩
    | some q =>
      obtain ⟨u, r⟩ := q
      obtain ⟨_, h2, h3⟩ := front_some hok hf
      have hg' := short_add hg (termOk_short hok h2)
      have hgl : (g ++ [u]).length ≤ 1000000 := by rw [List.length_append, List.length_singleton]; omega
      have ho' := good_add ho hgl hg'
      have hcond : ref12_isCondition k b t (out ++ [g ++ [u]]) = some (condOk x (out ++ [g ++ [u]])) := ref12_isCondition_ok hk hw (good_wf ho' (by rw [List.length_append, List.length_singleton]; omega)) ha hi
      simp only [takeR, Bool.not_true, cond_false]
      rw [app_ok (by simp only [List.length_singleton, maxList]; omega)]
      simp only [Option.bind_some]
      cases r with
      | nil =>
        simp only [show (([] : Str) == ([] : Str)) = true by rfl, Bool.not_true, cond_false, cond_true, Option.bind_some]
        rw [app_ok (by simp only [List.length_singleton, maxList]; omega)]
        simp only [Option.bind_some, hcond]
        refine ⟨_, rfl, ?_⟩
        simp only [endR, parsed]
        cases condOk x (out ++ [g ++ [u]]) <;> rfl
      | cons a r =>
        simp only [List.length_cons] at h3
        simp only [show ((a :: r : Str) == ([] : Str)) = false by rfl, Bool.not_false, cond_false, cond_true, idxS_cons, Option.bind_some, byte38, cut_cons]
        cases h38 : a == 38 with
        | true =>
          simp only [cond_true]
          exact begin_L1 hk hw ha hi hok hx n m r (g ++ [u]) out (by omega) (by omega) (by rw [List.length_append, List.length_singleton]; omega) ho hg'
        | false =>
          simp only [cond_false]
          rw [app_ok (by simp only [List.length_singleton, maxList]; omega)]
          simp only [Option.bind_some]
          have hne : ((a.toNat : Int) != 124) = !(a == 124) := by rw [← byte124]; rfl
          rw [hne]
          cases h124 : a == 124 with
          | true =>
            simp only [Bool.not_true, cond_false, cond_true]
            exact begin_L1 hk hw ha hi hok hx n m r [] (out ++ [g ++ [u]]) (by omega) (by omega) (by simp only [List.length_append, List.length_singleton, List.length_nil]; omega) ho' (by intro q hq; cases hq)
          | false =>
            simp only [Bool.not_false, cond_true, hcond, Option.bind_some, cond_false]
            refine ⟨_, rfl, ?_⟩
            simp only [endR, parsed]
            cases condOk x (out ++ [g ++ [u]]) <;> rfl
theorem ref12_Parse_spec {k : Nat} {b : T_api_Base} {t : Int} {s : Str} (hk : maxLen + 20 ≤ k) (hw : wf_T_api_Base b) (hs : s.length ≤ 100000) : ref12_Parse k b t s = some (parseOf b t s) := by
  have e63 := maxLen_eq
  obtain ⟨k, rfl, hq⟩ := succ_of (c := maxLen + 19) hk
  simp only [ref12_Parse, ref12_isType_ok (show maxLen + 10 ≤ k by omega) hw, Option.bind_some, parseOf]
  by_cases h : asked b [t] = 0
  · obtain ⟨x, hx, hwx, hok, _⟩ := asked_type hw h
    have hfl : x.fFields.length ≤ maxLen := hwx.2.2.2.2.1.1
    simp only [h, hx, bne_self_eq_false, cond_false, Option.bind_some]
    cases hse : s == ([] : Str) with
    | true => rfl
    | false =>
      obtain ⟨k, rfl, hq2⟩ := succ_of (c := maxLen + 18) hq
      obtain ⟨r, h1, h2⟩ := begin_L1 (show maxLen + 13 ≤ k by omega) hw h hx hok hfl (s.length + 1) k s [] [] (by omega) (by omega) (by simp; omega) (by intro q hq; cases hq) (by intro q hq; cases hq)
      simp only [cond_false, ref12_Begin, h1, Option.bind_some, ← h2, endR]
      obtain ⟨c, rest, ok⟩ := r
      simp only
      cases ok with
      | false => rfl
      | true => cases rest == ([] : Str) <;> rfl
  · have : (asked b [t] != 0) = true := by simpa using h
    simp only [this, cond_true, Option.bind_some]
theorem parse_groups {x : T_api_Type} (hok : typeOk x = true) : ∀ (cs : Cond), (∀ h ∈ cs, h ≠ [] ∧ ∀ u ∈ h, termOk x u = true) → ∀ (ts : List T_api_Term) (t : T_api_Term) (n : Nat) (g : List T_api_Term) (out : Cond), (∀ u ∈ t :: ts, termOk x u = true) → (termS t ++ (tailS ts ++ restS cs)).length < n →
    parseGo x n (termS t ++ (tailS ts ++ restS cs)) g out = some (out ++ [g ++ t :: ts] ++ cs) := by
  intro cs
  induction cs with
  | nil =>
    intro _ ts
    induction ts with
    | nil =>
      intro t n g out ht hn
      obtain ⟨n, rfl⟩ : ∃ q, n = q + 1 := ⟨n - 1, by omega⟩
      unfold parseGo
      rw [front_term _ hok (ht t (by simp))]
      simp only [tailS, restS, List.append_nil]
    | cons u us ih =>
      intro t n g out ht hn
      obtain ⟨n, rfl⟩ : ∃ q, n = q + 1 := ⟨n - 1, by omega⟩
      unfold parseGo
      rw [front_term _ hok (ht t (by simp))]
      simp only [tailS, List.cons_append, List.length_append, List.length_cons, show ((38 : UInt8) == 38) = true by rfl, cond_true] at hn ⊢
      rw [List.append_assoc, ih u n (g ++ [t]) out (fun v hv => ht v (List.mem_cons_of_mem _ hv)) (by simp only [List.length_append]; omega)]
      simp only [List.append_assoc, List.cons_append, List.nil_append]
  | cons h cs ihc =>
    intro hcs ts
    have hh := hcs h (by simp)
    have ihc := ihc (fun q hq => hcs q (by simp [hq]))
    induction ts with
    | nil =>
      intro t n g out ht hn
      obtain ⟨n, rfl⟩ : ∃ q, n = q + 1 := ⟨n - 1, by omega⟩
      unfold parseGo
      rw [front_term _ hok (ht t (by simp))]
      obtain ⟨v, vs, rfl⟩ : ∃ v vs, h = v :: vs := by
        cases h with
        | nil => exact absurd rfl hh.1
        | cons v vs => exact ⟨v, vs, rfl⟩
      simp only [tailS, restS, List.nil_append, groupS, List.length_append, List.length_cons, show ((124 : UInt8) == 38) = false by rfl, show ((124 : UInt8) == 124) = true by rfl, cond_true, cond_false] at hn ⊢
      rw [List.append_assoc, ihc vs v n [] (out ++ [g ++ [t]]) hh.2 (by simp only [List.length_append]; omega)]
      simp only [List.append_assoc, List.cons_append, List.nil_append]
    | cons u us ih =>
      intro t n g out ht hn
      obtain ⟨n, rfl⟩ : ∃ q, n = q + 1 := ⟨n - 1, by omega⟩
      unfold parseGo
      rw [front_term _ hok (ht t (by simp))]
      simp only [tailS, List.cons_append, List.length_append, List.length_cons, show ((38 : UInt8) == 38) = true by rfl, cond_true] at hn ⊢
      rw [List.append_assoc, ih u n (g ++ [t]) out (fun v hv => ht v (List.mem_cons_of_mem _ hv)) (by simp only [List.length_append]; omega)]
      simp only [List.append_assoc, List.cons_append, List.nil_append]
theorem parse_back {x : T_api_Type} (hok : typeOk x = true) : ∀ (n : Nat) (s : Str) (g : List T_api_Term) (out c : Cond), parseGo x n s g out = some c → ∃ t ts cs, c = out ++ [g ++ t :: ts] ++ cs ∧ s = groupS (t :: ts) ++ restS cs
  | 0, s, g, out, c, h => by cases h
  | n + 1, s, g, out, c, h => by
    unfold parseGo at h
    cases hf : frontOf x s with
    | none => rw [hf] at h; cases h
    | some q =>
      obtain ⟨t, r⟩ := q
      obtain ⟨h1, _, _⟩ := front_some hok hf
      rw [hf] at h
      simp only at h
      cases r with
      | nil =>
        obtain rfl := Option.some.inj h
        exact ⟨t, [], [], by simp, by rw [h1]; simp [groupS, tailS, restS]⟩
      | cons a r =>
        simp only at h
        cases h38 : a == 38 with
        | true =>
          rw [h38, cond_true] at h
          obtain ⟨t', ts, cs, e1, e2⟩ := parse_back hok n r _ out c h
          refine ⟨t, t' :: ts, cs, by rw [e1]; simp, ?_⟩
          rw [h1, e2, eq_of_beq h38]
          simp [groupS, tailS]
        | false =>
          rw [h38, cond_false] at h
          cases h124 : a == 124 with
          | true =>
            rw [h124, cond_true] at h
            obtain ⟨t', ts, cs, e1, e2⟩ := parse_back hok n r [] _ c h
            refine ⟨t, [], (t' :: ts) :: cs, by rw [e1]; simp, ?_⟩
            rw [h1, e2, eq_of_beq h124]
            simp [groupS, tailS, restS]
          | false => rw [h124] at h; cases h
theorem condOk_groups {x : T_api_Type} {c : Cond} (h : condOk x c = true) : ∀ g ∈ c, g ≠ [] ∧ ∀ u ∈ g, termOk x u = true := by
  intro g hg
  refine ⟨?_, condOk_terms h g hg⟩
  rintro rfl
  unfold condOk at h
  simp only [Bool.and_eq_true, Bool.not_eq_true'] at h
  have := h.2
  rw [List.any_eq_false] at this
  exact this [] hg rfl
theorem round1 {b : T_api_Base} {t : Int} {c : Cond} (hw : wf_T_api_Base b) (h : (formatOf b t c).2 = 0) : parseOf b t (formatOf b t c).1 = (c, 0) ∧ (formatOf b t c).1.length ≤ 1024 := by
  unfold formatOf at h ⊢
  rcases conds_one (t := t) (c := c) hw with ⟨e, h1, _, h3⟩ | ⟨x, h1, _, hx, ha, hwx, hok, hco⟩
  · rw [h1] at h
    simp only [h3, cond_true] at h
    rw [h] at h3
    cases h3
  · rw [h1]
    simp only [bne_self_eq_false, cond_false]
    have hl := condS_len (condOk_short hok hco)
    refine ⟨?_, hl⟩
    unfold parseOf
    rw [ha, hx]
    simp only [bne_self_eq_false, cond_false]
    have hgs := condOk_groups hco
    cases hcc : c with
    | nil => rfl
    | cons g cs =>
      rw [hcc] at hgs
      obtain ⟨v, vs, rfl⟩ : ∃ v vs, g = v :: vs := by
        cases g with
        | nil => exact absurd rfl (hgs [] (by simp)).1
        | cons v vs => exact ⟨v, vs, rfl⟩
      have hv := termOk_short hok ((hgs (v :: vs) (by simp)).2 v (by simp))
      have e : condS ((v :: vs) :: cs) = termS v ++ (tailS vs ++ restS cs) := by simp only [condS, groupS, List.append_assoc]
      have hne : (termS v ++ (tailS vs ++ restS cs) == ([] : Str)) = false := by
        refine beq_eq_false_iff_ne.2 fun e2 => ?_
        have := congrArg List.length e2
        rw [List.length_append, termS_len hv] at this
        simp at this
      rw [e, hne, cond_false, parse_groups hok cs (fun q hq => hgs q (by simp [hq])) vs v _ [] [] (fun u hu => (hgs (v :: vs) (by simp)).2 u hu) (Nat.lt_succ_self _)]
      rw [hcc] at hco
      simp only [List.nil_append, parsed, List.singleton_append, hco, cond_true]
theorem round2 {b : T_api_Base} {t : Int} {s : Str} (hw : wf_T_api_Base b) (h : (parseOf b t s).2 = 0) : formatOf b t (parseOf b t s).1 = (s, 0) := by
  unfold parseOf at h ⊢
  by_cases ha : asked b [t] = 0
  · obtain ⟨x, hx, hwx, hok, _⟩ := asked_type hw ha
    have hcs : ∀ c, condOk x c = true → formatOf b t c = (condS c, 0) := by
      intro c hc
      unfold formatOf condsOf
      simp only [ha, hx, bne_self_eq_false, cond_false, List.any_cons, List.any_nil, hc, Bool.not_true, Bool.or_false]
    rw [ha, hx] at h ⊢
    simp only [bne_self_eq_false, cond_false] at h ⊢
    cases hse : s == ([] : Str) with
    | true =>
      simp only [cond_true]
      rw [hcs [] rfl, eq_of_beq hse]
      rfl
    | false =>
      rw [hse, cond_false] at h
      simp only [cond_false]
      cases hp : parseGo x (s.length + 1) s [] [] with
      | none => rw [hp] at h; cases h
      | some c =>
        rw [hp] at h
        simp only [parsed] at h ⊢
        cases hc : condOk x c with
        | false => rw [hc] at h; cases h
        | true =>
          simp only [cond_true]
          obtain ⟨u, ts, cs, e1, e2⟩ := parse_back hok _ _ _ _ _ hp
          rw [hcs c hc, e1, e2]
          rfl
  · have : (asked b [t] != 0) = true := by simpa using ha
    rw [this, cond_true] at h
    exact absurd h ha
theorem parse_wf {b : T_api_Base} {t : Int} {s : Str} (hw : wf_T_api_Base b) (hs : s.length ≤ 100000) : wfL (wfL wf_T_api_Term) (parseOf b t s).1 := by
  have hn : wfL (wfL wf_T_api_Term) ([] : Cond) := ⟨by simp, fun g hg => by cases hg⟩
  unfold parseOf
  cases h0 : asked b [t] != 0 with
  | true => exact hn
  | false =>
    have ha : asked b [t] = 0 := by simpa using h0
    obtain ⟨x, hx, hwx, hok, _⟩ := asked_type hw ha
    rw [hx]
    simp only [cond_false]
    cases hse : s == ([] : Str) with
    | true => exact hn
    | false =>
      simp only [cond_false]
      cases hp : parseGo x (s.length + 1) s [] [] with
      | none => exact hn
      | some c =>
        obtain ⟨hg, hl⟩ := parse_good hok _ _ _ _ _ hp (by simp; omega) (by intro q hq; cases hq) (by intro q hq; cases hq)
        simp only [parsed]
        cases condOk x c with
        | false => exact hn
        | true => exact good_wf hg hl
theorem law_law12_MatchTexts (a : T_progenylaw12_Case) (s : Str) (ha : wf_T_progenylaw12_Case a) (hs : wfS s) : ∃ k, law12_MatchTexts k a s = some true := by
  refine ⟨maxLen + 40, ?_⟩
  obtain ⟨r1, h1⟩ := large_total (k := maxLen + 39) (by omega) ha.1
  obtain ⟨r2, h2⟩ := long_total (k := maxLen + 39) (by omega) ha.2.2.1
  have h5 := awake12 (k := maxLen + 39) (by omega)
  show law12_MatchTexts (maxLen + 39 + 1) a s = some true
  simp only [law12_MatchTexts, h1, h2, h5, Option.bind_some]
  by_cases hl : (s.length : Int) > 1000
  · have hd : decide ((s.length : Int) > 1000) = true := by simpa using hl
    rw [hd]
    cases r1 <;> cases r2 <;> rfl
  have hd : decide ((s.length : Int) > 1000) = false := by simpa using hl
  rw [hd]
  have hsl : s.length ≤ 100000 := by omega
  have p1 := match_Format_spec (k := maxLen + 39) (t := a.fType) (by omega) ha.1 ha.2.2.1
  have p2 := ref12_Format_spec (k := maxLen + 39) (t := a.fType) (by omega) ha.1 ha.2.2.1
  have p3 := match_Parse_spec (k := maxLen + 39) (t := a.fType) (s := s) (by omega) ha.1 hsl
  have p4 := ref12_Parse_spec (k := maxLen + 39) (t := a.fType) (s := s) (by omega) ha.1 hsl
  have w3 := parse_wf (t := a.fType) (s := s) ha.1 hsl
  have p5 := match_Format_spec (k := maxLen + 39) (t := a.fType) (by omega) ha.1 w3
  simp only [p1, p2, p3, p4, p5, Option.bind_some, ref12_Same_ok (show maxLen + 3 ≤ maxLen + 39 by omega) w3, cEq_refl, beq_self_eq_true, bne_self_eq_false, Bool.not_true, cond_true, cond_false]
  have q1 : (formatOf a.fBase a.fType a.fWhen).2 == 0 → match_Parse (maxLen + 39) a.fBase a.fType (formatOf a.fBase a.fType a.fWhen).1 = some (a.fWhen, 0) := fun e => by
    obtain ⟨g1, g2⟩ := round1 (c := a.fWhen) ha.1 (eq_of_beq e)
    rw [match_Parse_spec (by omega) ha.1 (by omega), g1]
  have q2 : (parseOf a.fBase a.fType s).2 == 0 → formatOf a.fBase a.fType (parseOf a.fBase a.fType s).1 = (s, 0) := fun e => round2 ha.1 (eq_of_beq e)
  have w1 := match_Same_ok (k := maxLen + 39) (c := a.fWhen) (d := a.fWhen) (by omega) ha.2.2.1
  rw [cEq_refl] at w1
  generalize ((parseOf a.fBase a.fType s).2 == 0) = e2 at q2 ⊢
  generalize ((formatOf a.fBase a.fType a.fWhen).2 == 0) = e1 at q1 ⊢
  cases e1 with
  | false =>
    cases e2 with
    | false => cases r1 <;> cases r2 <;> rfl
    | true =>
      rw [q2 rfl]
      simp only [cond_true, cond_false, Option.bind_some, bne_self_eq_false, beq_self_eq_true, Bool.not_true]
      cases r1 <;> cases r2 <;> rfl
  | true =>
    rw [q1 rfl]
    simp only [cond_true, cond_false, Option.bind_some, bne_self_eq_false, w1, Bool.not_true]
    cases e2 with
    | false => cases r1 <;> cases r2 <;> rfl
    | true =>
      rw [q2 rfl]
      simp only [cond_true, cond_false, Option.bind_some, bne_self_eq_false, beq_self_eq_true, Bool.not_true]
      cases r1 <;> cases r2 <;> rfl
end Go.Sh

