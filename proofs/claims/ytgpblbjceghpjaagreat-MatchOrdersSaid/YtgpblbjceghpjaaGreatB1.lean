/- The functions as functions on lists, and what they come to: no program in sight. Conditions: those that each theorem names. -/
import Derived.Test.YtgpblbjceghpjaaGreatA3
import Derived.IntWalk
namespace Go.Sh
open Go.AE (idx idxS cut cat app upTo inB sameLen revInt wfI wfS wfL wfT mkN repS repL joinS cmpB idxB quoI remE shlI shrI andI orI xorI catL)
set_option linter.unusedVariables false
abbrev Str := List UInt8
structure T_api_Field where
  fName : Str
  fAt : Int
  fBytes : Int
  deriving DecidableEq
structure T_api_Type where
  fName : Str
  fParent : Int
  fMin : Int
  fSize : Int
  fFields : (List T_api_Field)
  fKey : Int
  fUnique : Bool
  fLast : Bool
  deriving DecidableEq
structure T_api_Search where
  fName : Str
  fType : Int
  fField : Int
  fSparse : Str
  deriving DecidableEq
structure T_api_Base where
  fName : Str
  fKind : Int
  fTypes : (List T_api_Type)
  fIndexes : (List T_api_Search)
  deriving DecidableEq
structure T_api_Term where
  fField : Str
  fOp : Int
  fValue : Str
  deriving DecidableEq
structure T_progenylaw12_Case where
  fBase : T_api_Base
  fType : Int
  fWhen : (List (List T_api_Term))
  deriving DecidableEq
structure T_arr6_Str where
  e0 : Str
  e1 : Str
  e2 : Str
  e3 : Str
  e4 : Str
  e5 : Str
  deriving DecidableEq
def wf_T_api_Field (a : T_api_Field) : Prop := wfS a.fName ∧ (wfI .i64) a.fAt ∧ (wfI .i64) a.fBytes ∧ wfT ()
def wf_T_api_Type (a : T_api_Type) : Prop := wfS a.fName ∧ (wfI .i64) a.fParent ∧ (wfI .i64) a.fMin ∧ (wfI .i64) a.fSize ∧ (wfL wf_T_api_Field) a.fFields ∧ (wfI .i64) a.fKey ∧ wfT a.fUnique ∧ wfT a.fLast ∧ wfT ()
def wf_T_api_Search (a : T_api_Search) : Prop := wfS a.fName ∧ (wfI .i64) a.fType ∧ (wfI .i64) a.fField ∧ wfS a.fSparse ∧ wfT ()
def wf_T_api_Base (a : T_api_Base) : Prop := wfS a.fName ∧ (wfI .i64) a.fKind ∧ (wfL wf_T_api_Type) a.fTypes ∧ (wfL wf_T_api_Search) a.fIndexes ∧ wfT ()
def wf_T_api_Term (a : T_api_Term) : Prop := wfS a.fField ∧ (wfI .i64) a.fOp ∧ wfS a.fValue ∧ wfT ()
def wf_T_progenylaw12_Case (a : T_progenylaw12_Case) : Prop := wf_T_api_Base a.fBase ∧ (wfI .i64) a.fType ∧ (wfL (wfL wf_T_api_Term)) a.fWhen ∧ wfT ()
def wf_T_arr6_Str (a : T_arr6_Str) : Prop := wfS a.e0 ∧ wfS a.e1 ∧ wfS a.e2 ∧ wfS a.e3 ∧ wfS a.e4 ∧ wfS a.e5 ∧ wfT ()
def law12_Large_L2 (a0 : T_api_Base) (x17 : Int)  (K0 : Int → Option Bool) : Nat → Int → Option Bool
  | 0, _ => none
  | m + 1, x26 =>
    (((idx a0.fTypes x17).bind fun v27 => (some ((decide (x26 < (v27.fFields.length : Int)))))).bind fun o28 =>
        (bif o28 then (((idx a0.fTypes x17).bind fun v29 => ((idx v29.fFields x26).bind fun v30 => (some ((decide ((v30.fName.length : Int) > 40)))))).bind fun o31 =>
          (bif o31 then (some true) else
          (law12_Large_L2 a0 x17 K0 m (Go.IntKind.wrap .i64 (x26 + 1))))) else
        (K0 x26)))
def law12_Large_L1 (k : Nat) (a0 : T_api_Base)  (K0 : Int → Option Bool) : Nat → Int → Option Bool
  | 0, _ => none
  | m + 1, x17 =>
    (bif (decide (x17 < (a0.fTypes.length : Int))) then (((idx a0.fTypes x17).bind fun v18 => (bif (decide ((v18.fFields.length : Int) > 20)) then (some (true)) else ((idx a0.fTypes x17).bind fun v19 => (some ((decide ((v19.fName.length : Int) > 40))))))).bind fun o20 =>
          (bif o20 then (some true) else
          (law12_Large_L2 a0 x17 (fun y32 =>
            (law12_Large_L1 k a0 K0 m (Go.IntKind.wrap .i64 (x17 + 1)))) k 0))) else
        (K0 x17))
def law12_Large_L3 (a0 : T_api_Base)  (K0 : Int → Option Bool) : Nat → Int → Option Bool
  | 0, _ => none
  | m + 1, x37 =>
    (bif (decide (x37 < (a0.fIndexes.length : Int))) then (((idx a0.fIndexes x37).bind fun v38 => (bif (decide ((v38.fName.length : Int) > 40)) then (some (true)) else ((idx a0.fIndexes x37).bind fun v39 => (some ((decide ((v39.fSparse.length : Int) > 40))))))).bind fun o40 =>
          (bif o40 then (some true) else
          (law12_Large_L3 a0 K0 m (Go.IntKind.wrap .i64 (x37 + 1))))) else
        (K0 x37))
def law12_Large : Nat → (T_api_Base) → Option Bool
  | 0, _ => none
  | k + 1, a0 =>
    ((bif (decide ((a0.fTypes.length : Int) > 20)) then (some (true)) else (bif (decide ((a0.fIndexes.length : Int) > 20)) then (some (true)) else (some ((decide ((a0.fName.length : Int) > 40)))))).bind fun o1 =>
      (bif o1 then (some true) else
      (law12_Large_L1 k a0 (fun y33 =>
        (law12_Large_L3 a0 (fun y41 =>
          (some false)) k 0)) k 0)))
def law12_Long_L2 (a0 : (List (List T_api_Term))) (x19 : Int)  (K0 : Int → Option Bool) : Nat → Int → Option Bool
  | 0, _ => none
  | m + 1, x29 =>
    (((idx a0 x19).bind fun v30 => (some ((decide (x29 < (v30.length : Int)))))).bind fun o31 =>
        (bif o31 then (((idx a0 x19).bind fun v32 => ((idx v32 x29).bind fun v33 => (bif (decide ((v33.fField.length : Int) > 100)) then (some (true)) else ((idx a0 x19).bind fun v34 => ((idx v34 x29).bind fun v35 => (some ((decide ((v35.fValue.length : Int) > 100))))))))).bind fun o36 =>
          (bif o36 then (some true) else
          (law12_Long_L2 a0 x19 K0 m (Go.IntKind.wrap .i64 (x29 + 1))))) else
        (K0 x29)))
def law12_Long_L1 (k : Nat) (a0 : (List (List T_api_Term)))  (K0 : Int → Option Bool) : Nat → Int → Option Bool
  | 0, _ => none
  | m + 1, x19 =>
    (bif (decide (x19 < (a0.length : Int))) then (((idx a0 x19).bind fun v20 => (some ((decide ((v20.length : Int) > 20))))).bind fun o21 =>
          (bif o21 then (some true) else
          (law12_Long_L2 a0 x19 (fun y37 =>
            (law12_Long_L1 k a0 K0 m (Go.IntKind.wrap .i64 (x19 + 1)))) k 0))) else
        (K0 x19))
def law12_Long : Nat → ((List (List T_api_Term))) → Option Bool
  | 0, _ => none
  | k + 1, a0 =>
    (law12_Long_L1 k a0 (fun y38 =>
      (some (decide ((a0.length : Int) > 20)))) k 0)
def law12_shop : Nat → Option T_api_Base
  | 0 => none
  | k + 1 =>
    (some ({ fName := ([83, 72, 79, 80] : Str), fKind := 4, fTypes := ([({ fName := ([67, 85, 83, 84] : Str), fParent := (-1), fMin := 4, fSize := 10, fFields := ([({ fName := ([67, 85, 83, 84, 78, 79] : Str), fAt := 0, fBytes := 4 } : T_api_Field)] : List T_api_Field), fKey := 0, fUnique := true, fLast := false } : T_api_Type)] : List T_api_Type), fIndexes := ([] : List T_api_Search) } : T_api_Base))
def dbd_IsName_L1 (a0 : Str)  (K0 : Int → Option Bool) : Nat → Int → Option Bool
  | 0, _ => none
  | m + 1, x7 =>
    (bif (decide (x7 < (a0.length : Int))) then (((idxS a0 x7).bind fun v8 => (bif (decide (v8 ≥ 65)) then ((idxS a0 x7).bind fun v9 => (some ((decide (v9 ≤ 90))))) else (some (false)))).bind fun o10 =>
          ((bif (!o10) then (bif (x7 == 0) then (some (true)) else ((idxS a0 x7).bind fun v11 => (bif (decide (v11 < 48)) then (some (true)) else ((idxS a0 x7).bind fun v12 => (some ((decide (v12 > 57)))))))) else (some (false))).bind fun o13 =>
          (bif o13 then (some false) else
          (dbd_IsName_L1 a0 K0 m (Go.IntKind.wrap .i64 (x7 + 1)))))) else
        (K0 x7))
def dbd_IsName : Nat → (Str) → Option Bool
  | 0, _ => none
  | k + 1, a0 =>
    (dbd_IsName_L1 a0 (fun y14 =>
      ((bif (decide ((a0.length : Int) ≥ 1)) then (some ((decide ((a0.length : Int) ≤ 8)))) else (some (false))).bind fun o15 =>
        (some o15))) k 0)
def slices_IndexFunc_Field_L1 (k : Nat) (a0 : (List T_api_Field)) (a1 : Nat → T_api_Field → Option Bool) (K0 : Int → Option Int) : Nat → Int → Option Int
  | 0, _ => none
  | m + 1, x4 =>
    (bif (decide (x4 < (a0.length : Int))) then (((idx a0 x4).bind fun v5 => (a1 k v5)).bind fun o7 =>
          (bif o7 then (some x4) else
          (slices_IndexFunc_Field_L1 k a0 a1 K0 m (Go.IntKind.wrap .i64 (x4 + 1))))) else
        (K0 x4))
def slices_IndexFunc_Field : Nat → ((List T_api_Field)) → (Nat → T_api_Field → Option Bool) → Option Int
  | 0, _, _ => none
  | k + 1, a0, a1 =>
    (slices_IndexFunc_Field_L1 k a0 a1 (fun y8 =>
      (some (-1))) k 0)
def slices_ContainsFunc_Field : Nat → ((List T_api_Field)) → (Nat → T_api_Field → Option Bool) → Option Bool
  | 0, _, _ => none
  | k + 1, a0, a1 =>
    (((slices_IndexFunc_Field k a0 a1).bind fun v1 => (some ((decide (v1 ≥ 0))))).bind fun o2 =>
      (some o2))
def dbd_areFields_1 : Nat → (T_api_Field) → (T_api_Field) → Option Bool
  | 0, _, _ => none
  | k + 1, a0, a1 =>
    (some (a0.fName == a1.fName))
def dbd_areFields_L1 (k : Nat) (a0 : (List T_api_Field)) (a1 : Int)  (K0 : Int → Option Bool) : Nat → Int → Option Bool
  | 0, _ => none
  | m + 1, x8 =>
    (bif (decide (x8 < (a0.length : Int))) then (((idx a0 x8).bind fun v9 => (some (x8, v9))).bind fun o10 =>
          (((dbd_IsName k o10.2.fName).bind fun v11 => (bif (!v11) then (some (true)) else (bif (decide (o10.2.fAt < 0)) then (some (true)) else (bif (decide (o10.2.fAt ≥ a1)) then (some (true)) else (bif (decide (o10.2.fBytes < 1)) then (some (true)) else (some ((decide (o10.2.fBytes > (Go.IntKind.wrap .i64 (a1 - o10.2.fAt))))))))))).bind fun o12 =>
          (bif o12 then (some false) else
          (((cut a0 0 o10.1).bind fun v13 => (slices_ContainsFunc_Field k v13 (fun j x0 => (dbd_areFields_1 j x0 o10.2)))).bind fun o15 =>
            (bif o15 then (some false) else
            (dbd_areFields_L1 k a0 a1 K0 m (Go.IntKind.wrap .i64 (x8 + 1)))))))) else
        (K0 x8))
def dbd_areFields : Nat → ((List T_api_Field)) → (Int) → Option Bool
  | 0, _, _ => none
  | k + 1, a0, a1 =>
    (dbd_areFields_L1 k a0 a1 (fun y16 =>
      (some (decide ((a0.length : Int) ≤ 5)))) k 0)
def dbd_isType : Nat → (T_api_Type) → Option Bool
  | 0, _ => none
  | k + 1, a0 =>
    (((dbd_IsName k a0.fName).bind fun v1 => (bif (!v1) then (some (true)) else (bif (decide (a0.fMin < 1)) then (some (true)) else (bif (decide (a0.fMin > a0.fSize)) then (some (true)) else (bif (decide (a0.fSize > 40)) then (some (true)) else ((dbd_areFields k a0.fFields a0.fSize).bind fun v2 => (some ((!v2))))))))).bind fun o3 =>
      (bif o3 then (some false) else
      (bif (a0.fKey == (-1)) then (some (!a0.fUnique)) else
        ((bif (decide (a0.fKey < 0)) then (some (true)) else (some ((decide (a0.fKey ≥ (a0.fFields.length : Int)))))).bind fun o4 =>
          (bif o4 then (some false) else
          (((idx a0.fFields a0.fKey).bind fun v5 => ((idx a0.fFields a0.fKey).bind fun v6 => (some ((decide ((Go.IntKind.wrap .i64 (v5.fAt + v6.fBytes)) ≤ a0.fMin)))))).bind fun o7 =>
            (some o7)))))))
def slices_IndexFunc_Type_L1 (k : Nat) (a0 : (List T_api_Type)) (a1 : Nat → T_api_Type → Option Bool) (K0 : Int → Option Int) : Nat → Int → Option Int
  | 0, _ => none
  | m + 1, x4 =>
    (bif (decide (x4 < (a0.length : Int))) then (((idx a0 x4).bind fun v5 => (a1 k v5)).bind fun o7 =>
          (bif o7 then (some x4) else
          (slices_IndexFunc_Type_L1 k a0 a1 K0 m (Go.IntKind.wrap .i64 (x4 + 1))))) else
        (K0 x4))
def slices_IndexFunc_Type : Nat → ((List T_api_Type)) → (Nat → T_api_Type → Option Bool) → Option Int
  | 0, _, _ => none
  | k + 1, a0, a1 =>
    (slices_IndexFunc_Type_L1 k a0 a1 (fun y8 =>
      (some (-1))) k 0)
def slices_ContainsFunc_Type : Nat → ((List T_api_Type)) → (Nat → T_api_Type → Option Bool) → Option Bool
  | 0, _, _ => none
  | k + 1, a0, a1 =>
    (((slices_IndexFunc_Type k a0 a1).bind fun v1 => (some ((decide (v1 ≥ 0))))).bind fun o2 =>
      (some o2))
def dbd_areTypes_1 : Nat → (T_api_Type) → (T_api_Type) → Option Bool
  | 0, _, _ => none
  | k + 1, a0, a1 =>
    (some (a0.fName == a1.fName))
def slices_Index_int_L1 (a0 : (List Int)) (a1 : Int)  (K0 : Int → Option Int) : Nat → Int → Option Int
  | 0, _ => none
  | m + 1, x3 =>
    (bif (decide (x3 < (a0.length : Int))) then (((idx a0 x3).bind fun v4 => (some ((a1 == v4)))).bind fun o5 =>
          (bif o5 then (some x3) else
          (slices_Index_int_L1 a0 a1 K0 m (Go.IntKind.wrap .i64 (x3 + 1))))) else
        (K0 x3))
def slices_Index_int : Nat → ((List Int)) → (Int) → Option Int
  | 0, _, _ => none
  | k + 1, a0, a1 =>
    (slices_Index_int_L1 a0 a1 (fun y6 =>
      (some (-1))) k 0)
def dbd_areTypes_L1 (k : Nat) (a0 : (List T_api_Type))  (K0 : Int → (List Int) → Option Bool) : Nat → Int → (List Int) → Option Bool
  | 0, _, _ => none
  | m + 1, x15, x16 =>
    (bif (decide (x15 < (a0.length : Int))) then (((idx a0 x15).bind fun v17 => (some (x15, v17))).bind fun o18 =>
          (((dbd_isType k o18.2).bind fun v19 => (bif (!v19) then (some (true)) else ((cut a0 0 o18.1).bind fun v20 => (slices_ContainsFunc_Type k v20 (fun j x0 => (dbd_areTypes_1 j x0 o18.2)))))).bind fun o22 =>
          (bif o22 then (some false) else
          ((slices_Index_int k x16 o18.2.fParent).bind fun o24 =>
            ((bif (o18.1 == 0) then (bif (o18.2.fParent != (-1)) then (some (true)) else (bif (decide (o18.2.fKey < 0)) then (some (true)) else (bif (!o18.2.fUnique) then (some (true)) else ((idx o18.2.fFields o18.2.fKey).bind fun v25 => (bif (decide (v25.fBytes > 24)) then (some (true)) else (bif (decide (o18.1 > 0)) then (some ((decide (o24 < 0)))) else (some (false)))))))) else (bif (decide (o18.1 > 0)) then (some ((decide (o24 < 0)))) else (some (false)))).bind fun o26 =>
            (bif o26 then (some false) else
            (((upTo x16 (Go.IntKind.wrap .i64 (o24 + 1))).bind fun v27 => (app (List.take v27 x16) ([o18.1] : List Int))).bind fun o29 =>
              (bif (decide ((o29.length : Int) > 5)) then (some false) else
              (dbd_areTypes_L1 k a0 K0 m (Go.IntKind.wrap .i64 (x15 + 1)) o29))))))))) else
        (K0 x15 x16))
def dbd_areTypes : Nat → ((List T_api_Type)) → Option Bool
  | 0, _ => none
  | k + 1, a0 =>
    ((bif (decide ((a0.length : Int) < 1)) then (some (true)) else (some ((decide ((a0.length : Int) > 8))))).bind fun o1 =>
      (bif o1 then (some false) else
      (dbd_areTypes_L1 k a0 (fun y30 y31 =>
        (some true)) k 0 ([] : List Int))))
def slices_IndexFunc_Search_L1 (k : Nat) (a0 : (List T_api_Search)) (a1 : Nat → T_api_Search → Option Bool) (K0 : Int → Option Int) : Nat → Int → Option Int
  | 0, _ => none
  | m + 1, x4 =>
    (bif (decide (x4 < (a0.length : Int))) then (((idx a0 x4).bind fun v5 => (a1 k v5)).bind fun o7 =>
          (bif o7 then (some x4) else
          (slices_IndexFunc_Search_L1 k a0 a1 K0 m (Go.IntKind.wrap .i64 (x4 + 1))))) else
        (K0 x4))
def slices_IndexFunc_Search : Nat → ((List T_api_Search)) → (Nat → T_api_Search → Option Bool) → Option Int
  | 0, _, _ => none
  | k + 1, a0, a1 =>
    (slices_IndexFunc_Search_L1 k a0 a1 (fun y8 =>
      (some (-1))) k 0)
def slices_ContainsFunc_Search : Nat → ((List T_api_Search)) → (Nat → T_api_Search → Option Bool) → Option Bool
  | 0, _, _ => none
  | k + 1, a0, a1 =>
    (((slices_IndexFunc_Search k a0 a1).bind fun v1 => (some ((decide (v1 ≥ 0))))).bind fun o2 =>
      (some o2))
def dbd_areIndexes_1 : Nat → (T_api_Search) → (T_api_Search) → Option Bool
  | 0, _, _ => none
  | k + 1, a0, a1 =>
    (some (a0.fName == a1.fName))
def dbd_areIndexes_L1 (k : Nat) (a0 : (List T_api_Search)) (a1 : (List T_api_Type))  (K0 : Int → Option Bool) : Nat → Int → Option Bool
  | 0, _ => none
  | m + 1, x11 =>
    (bif (decide (x11 < (a0.length : Int))) then (((idx a0 x11).bind fun v12 => (some (x11, v12))).bind fun o13 =>
          (((dbd_IsName k o13.2.fName).bind fun v14 => (bif (!v14) then (some (true)) else (bif (decide (o13.2.fType < 0)) then (some (true)) else (bif (decide (o13.2.fType ≥ (a1.length : Int))) then (some (true)) else (bif (decide ((o13.2.fSparse.length : Int) > 1)) then (some (true)) else ((cut a0 0 o13.1).bind fun v15 => (slices_ContainsFunc_Search k v15 (fun j x0 => (dbd_areIndexes_1 j x0 o13.2))))))))).bind fun o17 =>
          (bif o17 then (some false) else
          (((idx a1 o13.2.fType).bind fun v18 => (some (v18.fFields))).bind fun o19 =>
            ((bif (decide (o13.2.fField < 0)) then (some (true)) else (bif (decide (o13.2.fField ≥ (o19.length : Int))) then (some (true)) else ((idx o19 o13.2.fField).bind fun v20 => (some ((decide (v20.fBytes > 20))))))).bind fun o21 =>
            (bif o21 then (some false) else
            (dbd_areIndexes_L1 k a0 a1 K0 m (Go.IntKind.wrap .i64 (x11 + 1))))))))) else
        (K0 x11))
def dbd_areIndexes : Nat → ((List T_api_Search)) → ((List T_api_Type)) → Option Bool
  | 0, _, _ => none
  | k + 1, a0, a1 =>
    (dbd_areIndexes_L1 k a0 a1 (fun y22 =>
      (some (decide ((a0.length : Int) ≤ 3)))) k 0)
def dbd_Valid : Nat → (T_api_Base) → Option Bool
  | 0, _ => none
  | k + 1, a0 =>
    (((dbd_IsName k a0.fName).bind fun v1 => (bif v1 then (bif (decide (a0.fKind ≥ 1)) then (bif (decide (a0.fKind ≤ 4)) then ((dbd_areTypes k a0.fTypes).bind fun v2 => (bif v2 then (dbd_areIndexes k a0.fIndexes a0.fTypes) else (some (false)))) else (some (false))) else (some (false))) else (some (false)))).bind fun o4 =>
      (some o4))
def slices_IndexFunc_int_L1 (k : Nat) (a0 : (List Int)) (a1 : Nat → Int → Option Bool) (K0 : Int → Option Int) : Nat → Int → Option Int
  | 0, _ => none
  | m + 1, x4 =>
    (bif (decide (x4 < (a0.length : Int))) then (((idx a0 x4).bind fun v5 => (a1 k v5)).bind fun o7 =>
          (bif o7 then (some x4) else
          (slices_IndexFunc_int_L1 k a0 a1 K0 m (Go.IntKind.wrap .i64 (x4 + 1))))) else
        (K0 x4))
def slices_IndexFunc_int : Nat → ((List Int)) → (Nat → Int → Option Bool) → Option Int
  | 0, _, _ => none
  | k + 1, a0, a1 =>
    (slices_IndexFunc_int_L1 k a0 a1 (fun y8 =>
      (some (-1))) k 0)
def slices_ContainsFunc_int : Nat → ((List Int)) → (Nat → Int → Option Bool) → Option Bool
  | 0, _, _ => none
  | k + 1, a0, a1 =>
    (((slices_IndexFunc_int k a0 a1).bind fun v1 => (some ((decide (v1 ≥ 0))))).bind fun o2 =>
      (some o2))
def dbd_asked_1 : Nat → (Int) → (T_api_Base) → Option Bool
  | 0, _, _ => none
  | k + 1, a0, a1 =>
    ((bif (decide (a0 < 0)) then (some (true)) else (some ((decide (a0 ≥ (a1.fTypes.length : Int)))))).bind fun o1 =>
      (some o1))
def dbd_asked : Nat → (T_api_Base) → ((List Int)) → Option Int
  | 0, _, _ => none
  | k + 1, a0, a1 =>
    (((dbd_Valid k a0).bind fun v1 => (some ((!v1)))).bind fun o2 =>
      (bif o2 then (some 100) else
      ((slices_ContainsFunc_int k a1 (fun j x0 => (dbd_asked_1 j x0 a0))).bind fun o4 =>
        (bif o4 then (some 2) else
        (some 0)))))
def slices_Reverse_int : Nat → List Int → Option (List Int)
  | 0, _ => none
  | _ + 1, l => revInt l
def dbd_way_L1 (a0 : T_api_Base)  (K0 : Int → (List Int) → Option (List Int)) : Nat → Int → (List Int) → Option (List Int)
  | 0, _, _ => none
  | m + 1, x5, x6 =>
    (bif (decide (x5 ≥ 0)) then ((app x6 ([x5] : List Int)).bind fun o8 =>
          (((idx a0.fTypes x5).bind fun v9 => (some (v9.fParent))).bind fun o10 =>
          (dbd_way_L1 a0 K0 m o10 o8))) else
        (K0 x5 x6))
def dbd_way : Nat → (T_api_Base) → (Int) → Option (List Int)
  | 0, _, _ => none
  | k + 1, a0, a1 =>
    (dbd_way_L1 a0 (fun y11 y12 =>
      (((slices_Reverse_int k y12).bind (sameLen y12)).bind fun o14 =>
        (some o14))) k a1 ([] : List Int))
def dbd_Way : Nat → (T_api_Base) → (Int) → Option ((List Int) × Int)
  | 0, _, _ => none
  | k + 1, a0, a1 =>
    ((dbd_asked k a0 ([a1] : List Int)).bind fun o2 =>
      (bif (o2 != 0) then (some (([] : List Int), o2)) else
      (((dbd_way k a0 a1).bind fun v3 => (some (v3, 0))).bind fun o4 =>
        (some (o4.1, o4.2)))))
def dbd_Depth : Nat → (T_api_Base) → (Int) → Option (Int × Int)
  | 0, _, _ => none
  | k + 1, a0, a1 =>
    (((dbd_Way k a0 a1).bind fun v1 => (some (v1.1, v1.2))).bind fun o2 =>
      (some ((o2.1.length : Int), o2.2)))
def match_asked : Nat → (T_api_Base) → (Int) → Option Int
  | 0, _, _ => none
  | k + 1, a0, a1 =>
    (((dbd_Depth k a0 a1).bind fun v1 => (some (v1.2))).bind fun o2 =>
      (some o2))
def slices_IndexFunc_TermLL_L1 (k : Nat) (a0 : (List (List (List T_api_Term)))) (a1 : Nat → (List (List T_api_Term)) → Option Bool) (K0 : Int → Option Int) : Nat → Int → Option Int
  | 0, _ => none
  | m + 1, x4 =>
    (bif (decide (x4 < (a0.length : Int))) then (((idx a0 x4).bind fun v5 => (a1 k v5)).bind fun o7 =>
          (bif o7 then (some x4) else
          (slices_IndexFunc_TermLL_L1 k a0 a1 K0 m (Go.IntKind.wrap .i64 (x4 + 1))))) else
        (K0 x4))
def slices_IndexFunc_TermLL : Nat → ((List (List (List T_api_Term)))) → (Nat → (List (List T_api_Term)) → Option Bool) → Option Int
  | 0, _, _ => none
  | k + 1, a0, a1 =>
    (slices_IndexFunc_TermLL_L1 k a0 a1 (fun y8 =>
      (some (-1))) k 0)
def slices_ContainsFunc_TermLL : Nat → ((List (List (List T_api_Term)))) → (Nat → (List (List T_api_Term)) → Option Bool) → Option Bool
  | 0, _, _ => none
  | k + 1, a0, a1 =>
    (((slices_IndexFunc_TermLL k a0 a1).bind fun v1 => (some ((decide (v1 ≥ 0))))).bind fun o2 =>
      (some o2))
def slices_IndexFunc_TermL_L1 (k : Nat) (a0 : (List (List T_api_Term))) (a1 : Nat → (List T_api_Term) → Option Bool) (K0 : Int → Option Int) : Nat → Int → Option Int
  | 0, _ => none
  | m + 1, x4 =>
    (bif (decide (x4 < (a0.length : Int))) then (((idx a0 x4).bind fun v5 => (a1 k v5)).bind fun o7 =>
          (bif o7 then (some x4) else
          (slices_IndexFunc_TermL_L1 k a0 a1 K0 m (Go.IntKind.wrap .i64 (x4 + 1))))) else
        (K0 x4))
def slices_IndexFunc_TermL : Nat → ((List (List T_api_Term))) → (Nat → (List T_api_Term) → Option Bool) → Option Int
  | 0, _, _ => none
  | k + 1, a0, a1 =>
    (slices_IndexFunc_TermL_L1 k a0 a1 (fun y8 =>
      (some (-1))) k 0)
def slices_ContainsFunc_TermL : Nat → ((List (List T_api_Term))) → (Nat → (List T_api_Term) → Option Bool) → Option Bool
  | 0, _, _ => none
  | k + 1, a0, a1 =>
    (((slices_IndexFunc_TermL k a0 a1).bind fun v1 => (some ((decide (v1 ≥ 0))))).bind fun o2 =>
      (some o2))
def slices_IndexFunc_Term_L1 (k : Nat) (a0 : (List T_api_Term)) (a1 : Nat → T_api_Term → Option Bool) (K0 : Int → Option Int) : Nat → Int → Option Int
  | 0, _ => none
  | m + 1, x4 =>
    (bif (decide (x4 < (a0.length : Int))) then (((idx a0 x4).bind fun v5 => (a1 k v5)).bind fun o7 =>
          (bif o7 then (some x4) else
          (slices_IndexFunc_Term_L1 k a0 a1 K0 m (Go.IntKind.wrap .i64 (x4 + 1))))) else
        (K0 x4))
def slices_IndexFunc_Term : Nat → ((List T_api_Term)) → (Nat → T_api_Term → Option Bool) → Option Int
  | 0, _, _ => none
  | k + 1, a0, a1 =>
    (slices_IndexFunc_Term_L1 k a0 a1 (fun y8 =>
      (some (-1))) k 0)
def slices_ContainsFunc_Term : Nat → ((List T_api_Term)) → (Nat → T_api_Term → Option Bool) → Option Bool
  | 0, _, _ => none
  | k + 1, a0, a1 =>
    (((slices_IndexFunc_Term k a0 a1).bind fun v1 => (some ((decide (v1 ≥ 0))))).bind fun o2 =>
      (some o2))
def match_field_1 : Nat → (T_api_Field) → (Str) → Option Bool
  | 0, _, _ => none
  | k + 1, a0, a1 =>
    (some (a0.fName == a1))
def match_field : Nat → (T_api_Type) → (Str) → Option (Int × Bool)
  | 0, _, _ => none
  | k + 1, a0, a1 =>
    ((slices_IndexFunc_Field k a0.fFields (fun j x0 => (match_field_1 j x0 a1))).bind fun o2 =>
      (some (o2, (decide (o2 ≥ 0)))))
def match_isTerm : Nat → (T_api_Type) → (T_api_Term) → Option Bool
  | 0, _, _ => none
  | k + 1, a0, a1 =>
    (((match_field k a0 a1.fField).bind fun v1 => (some (v1.1, v1.2))).bind fun o2 =>
      ((bif o2.2 then (bif (decide (a1.fOp ≥ 1)) then (bif (decide (a1.fOp ≤ 6)) then ((idx a0.fFields o2.1).bind fun v3 => (some (((a1.fValue.length : Int) == v3.fBytes)))) else (some (false))) else (some (false))) else (some (false))).bind fun o4 =>
      (some o4)))
def match_valid_1_1 : Nat → (T_api_Term) → (T_api_Type) → Option Bool
  | 0, _, _ => none
  | k + 1, a0, a1 =>
    (((match_isTerm k a1 a0).bind fun v1 => (some ((!v1)))).bind fun o2 =>
      (some o2))
def match_valid_1 : Nat → ((List T_api_Term)) → (T_api_Type) → Option Bool
  | 0, _, _ => none
  | k + 1, a0, a1 =>
    ((bif (decide ((a0.length : Int) < 1)) then (some (true)) else (bif (decide ((a0.length : Int) > 4)) then (some (true)) else (slices_ContainsFunc_Term k a0 (fun j x0 => (match_valid_1_1 j x0 a1))))).bind fun o2 =>
      (some o2))
def match_valid : Nat → (T_api_Type) → ((List (List T_api_Term))) → Option Bool
  | 0, _, _ => none
  | k + 1, a0, a1 =>
    ((bif (decide ((a1.length : Int) ≤ 4)) then ((slices_ContainsFunc_TermL k a1 (fun j x0 => (match_valid_1 j x0 a0))).bind fun v1 => (some ((!v1)))) else (some (false))).bind fun o2 =>
      (some o2))
def match_conditions_1 : Nat → ((List (List T_api_Term))) → (T_api_Type) → Option Bool
  | 0, _, _ => none
  | k + 1, a0, a1 =>
    (((match_valid k a1 a0).bind fun v1 => (some ((!v1)))).bind fun o2 =>
      (some o2))
def match_conditions : Nat → (T_api_Base) → (Int) → ((List (List (List T_api_Term)))) → Option (T_api_Type × Int)
  | 0, _, _, _ => none
  | k + 1, a0, a1, a2 =>
    ((match_asked k a0 a1).bind fun o2 =>
      (bif (o2 != 0) then (some (({ fName := [], fParent := 0, fMin := 0, fSize := 0, fFields := ([] : List T_api_Field), fKey := 0, fUnique := false, fLast := false } : T_api_Type), o2)) else
      ((idx a0.fTypes a1).bind fun o4 =>
        ((slices_ContainsFunc_TermLL k a2 (fun j x0 => (match_conditions_1 j x0 o4))).bind fun o6 =>
        (bif o6 then (some (({ fName := [], fParent := 0, fMin := 0, fSize := 0, fFields := ([] : List T_api_Field), fKey := 0, fUnique := false, fLast := false } : T_api_Type), 110)) else
        (some (o4, 0)))))))
def strings_Repeat : Nat → Str → Int → Option Str
  | 0, _, _ => none
  | _ + 1, s, n => repS s n
def match_sign : Nat → (Int) → Option Str
  | 0, _ => none
  | k + 1, a0 =>
    ((idx ([({ e0 := ([61, 32] : Str), e1 := ([60, 62] : Str), e2 := ([60, 32] : Str), e3 := ([60, 61] : Str), e4 := ([62, 32] : Str), e5 := ([62, 61] : Str) } : T_arr6_Str).e0, ({ e0 := ([61, 32] : Str), e1 := ([60, 62] : Str), e2 := ([60, 32] : Str), e3 := ([60, 61] : Str), e4 := ([62, 32] : Str), e5 := ([62, 61] : Str) } : T_arr6_Str).e1, ({ e0 := ([61, 32] : Str), e1 := ([60, 62] : Str), e2 := ([60, 32] : Str), e3 := ([60, 61] : Str), e4 := ([62, 32] : Str), e5 := ([62, 61] : Str) } : T_arr6_Str).e2, ({ e0 := ([61, 32] : Str), e1 := ([60, 62] : Str), e2 := ([60, 32] : Str), e3 := ([60, 61] : Str), e4 := ([62, 32] : Str), e5 := ([62, 61] : Str) } : T_arr6_Str).e3, ({ e0 := ([61, 32] : Str), e1 := ([60, 62] : Str), e2 := ([60, 32] : Str), e3 := ([60, 61] : Str), e4 := ([62, 32] : Str), e5 := ([62, 61] : Str) } : T_arr6_Str).e4, ({ e0 := ([61, 32] : Str), e1 := ([60, 62] : Str), e2 := ([60, 32] : Str), e3 := ([60, 61] : Str), e4 := ([62, 32] : Str), e5 := ([62, 61] : Str) } : T_arr6_Str).e5] : List Str) (Go.IntKind.wrap .i64 (a0 - 1))).bind fun o2 =>
      (some o2))
def strings_Join : Nat → List Str → Str → Option Str
  | 0, _, _ => none
  | _ + 1, s, n => joinS s n
def match_Format_L2 (k : Nat) (o33 : (List T_api_Term))  (K0 : Int → (List Str) → Option (Str × Int)) : Nat → Int → (List Str) → Option (Str × Int)
  | 0, _, _ => none
  | m + 1, x43, x44 =>
    (bif (decide (x43 < (o33.length : Int))) then ((idx o33 x43).bind fun o46 =>
          (((strings_Repeat k ([32] : Str) (Go.IntKind.wrap .i64 (8 - (o46.fField.length : Int)))).bind fun v47 => ((cat o46.fField v47).bind fun v48 => ((match_sign k o46.fOp).bind fun v49 => ((cat v48 v49).bind fun v50 => ((cat v50 o46.fValue).bind fun v51 => (app x44 ([v51] : List Str))))))).bind fun o53 =>
          (match_Format_L2 k o33 K0 m (Go.IntKind.wrap .i64 (x43 + 1)) o53))) else
        (K0 x43 x44))
def match_Format_L1 (k : Nat) (a2 : (List (List T_api_Term)))  (K0 : (List Str) → Int → Option (Str × Int)) : Nat → (List Str) → Int → Option (Str × Int)
  | 0, _, _ => none
  | m + 1, x30, x31 =>
    (bif (decide (x31 < (a2.length : Int))) then ((idx a2 x31).bind fun o33 =>
          (match_Format_L2 k o33 (fun y54 y55 =>
          (((strings_Join k y55 ([38] : Str)).bind fun v56 => (app x30 ([v56] : List Str))).bind fun o58 =>
            (match_Format_L1 k a2 K0 m o58 (Go.IntKind.wrap .i64 (x31 + 1))))) k 0 ([] : List Str))) else
        (K0 x30 x31))
def match_Format : Nat → (T_api_Base) → (Int) → ((List (List T_api_Term))) → Option (Str × Int)
  | 0, _, _, _ => none
  | k + 1, a0, a1, a2 =>
    (((match_conditions k a0 a1 ([a2] : List (List (List T_api_Term)))).bind fun v1 => (some (v1.2))).bind fun o2 =>
      (bif (o2 != 0) then (some (([] : Str), o2)) else
      (match_Format_L1 k a2 (fun y59 y60 =>
        (((strings_Join k y59 ([124] : Str)).bind fun v61 => (some (v61, 0))).bind fun o62 =>
          (some (o62.1, o62.2)))) k ([] : List Str) 0)))
def match_span_L1 (a0 : Str) (a2 : (List T_api_Term))  (K0 : Str → Str → Int → Option (Str × Str)) : Nat → Int → Str → Str → Option (Str × Str)
  | 0, _, _, _ => none
  | m + 1, x8, x9, x10 =>
    (bif (decide (x8 < (a2.length : Int))) then ((idx a2 x8).bind fun o12 =>
          (bif (!(o12.fField == a0)) then (match_span_L1 a0 a2 K0 m (Go.IntKind.wrap .i64 (x8 + 1)) x9 x10) else
          ((bif (o12.fOp == 1) then (some (true)) else (bif (o12.fOp == 5) then (some (true)) else (some ((o12.fOp == 6))))).bind fun o13 =>
            (bif o13 then ((bif (o12.fOp == 1) then (some (true)) else (bif (o12.fOp == 3) then (some (true)) else (some ((o12.fOp == 4))))).bind fun o14 =>
              (bif o14 then (match_span_L1 a0 a2 K0 m (Go.IntKind.wrap .i64 (x8 + 1)) (Go.AE.maxS x9 o12.fValue) (Go.AE.minS x10 o12.fValue)) else
              (match_span_L1 a0 a2 K0 m (Go.IntKind.wrap .i64 (x8 + 1)) (Go.AE.maxS x9 o12.fValue) x10))) else
            ((bif (o12.fOp == 1) then (some (true)) else (bif (o12.fOp == 3) then (some (true)) else (some ((o12.fOp == 4))))).bind fun o15 =>
              (bif o15 then (match_span_L1 a0 a2 K0 m (Go.IntKind.wrap .i64 (x8 + 1)) x9 (Go.AE.minS x10 o12.fValue)) else
              (match_span_L1 a0 a2 K0 m (Go.IntKind.wrap .i64 (x8 + 1)) x9 x10))))))) else
        (K0 x9 x10 x8))
def match_span : Nat → (Str) → (Int) → ((List T_api_Term)) → Option (Str × Str)
  | 0, _, _, _ => none
  | k + 1, a0, a1, a2 =>
    ((strings_Repeat k ([255] : Str) a1).bind fun o2 =>
      (match_span_L1 a0 a2 (fun y16 y17 y18 =>
      (some (y16, y17))) k 0 ([] : Str) o2))
def match_Range_L1 (k : Nat) (a2 : (List (List T_api_Term))) (o4 : T_api_Field)  (K0 : Str → Str → Int → Option (Str × Str × Int)) : Nat → Str → Str → Int → Option (Str × Str × Int)
  | 0, _, _, _ => none
  | m + 1, x9, x10, x11 =>
    (bif (decide (x11 < (a2.length : Int))) then (((idx a2 x11).bind fun v12 => (some (x11, v12))).bind fun o13 =>
          (((match_span k o4.fName o4.fBytes o13.2).bind fun v14 => (some (v14.1, v14.2))).bind fun o15 =>
          (bif (o13.1 == 0) then (match_Range_L1 k a2 o4 K0 m (Go.AE.minS o15.1 o15.1) (Go.AE.maxS o15.2 o15.2) (Go.IntKind.wrap .i64 (x11 + 1))) else
          (match_Range_L1 k a2 o4 K0 m (Go.AE.minS x9 o15.1) (Go.AE.maxS x10 o15.2) (Go.IntKind.wrap .i64 (x11 + 1)))))) else
        (K0 x9 x10 x11))
def match_Range : Nat → (T_api_Base) → (Int) → ((List (List T_api_Term))) → Option (Str × Str × Int)
  | 0, _, _, _ => none
  | k + 1, a0, a1, a2 =>
    (((match_conditions k a0 a1 ([a2] : List (List (List T_api_Term)))).bind fun v1 => (some (v1.2, v1.1))).bind fun o2 =>
      (bif (o2.1 != 0) then (some (([] : Str), ([] : Str), o2.1)) else
      (bif (decide (o2.2.fKey < 0)) then (some (([] : Str), ([] : Str), 5)) else
        ((idx o2.2.fFields o2.2.fKey).bind fun o4 =>
          (match_Range_L1 k a2 o4 (fun y16 y17 y18 =>
          (bif ((a2.length : Int) == 0) then (((match_span k o4.fName o4.fBytes ([] : List T_api_Term)).bind fun v19 => (some (v19.1, v19.2))).bind fun o20 =>
              (some (o20.1, o20.2, 0))) else
            (some (y16, y17, 0)))) k ([] : Str) ([] : Str) 0)))))
def law12_Awake : Nat → Option Bool
  | 0 => none
  | k + 1 =>
    (((law12_shop k).bind fun v1 => ((match_Format k v1 0 ([([({ fField := ([67, 85, 83, 84, 78, 79] : Str), fOp := 6, fValue := ([48, 49, 48, 48] : Str) } : T_api_Term), ({ fField := ([67, 85, 83, 84, 78, 79] : Str), fOp := 4, fValue := ([48, 49, 57, 57] : Str) } : T_api_Term)] : List T_api_Term)] : List (List T_api_Term))).bind fun v2 => (some (v2.1, v2.2)))).bind fun o3 =>
      (((law12_shop k).bind fun v4 => ((match_Range k v4 0 ([([({ fField := ([67, 85, 83, 84, 78, 79] : Str), fOp := 6, fValue := ([48, 49, 48, 48] : Str) } : T_api_Term), ({ fField := ([67, 85, 83, 84, 78, 79] : Str), fOp := 4, fValue := ([48, 49, 57, 57] : Str) } : T_api_Term)] : List T_api_Term)] : List (List T_api_Term))).bind fun v5 => (some (v5.1, v5.2.1, v5.2.2)))).bind fun o6 =>
      ((bif (o3.2 == 0) then (bif (o6.2.2 == 0) then (bif (o3.1 == ([67, 85, 83, 84, 78, 79, 32, 32, 62, 61, 48, 49, 48, 48, 38, 67, 85, 83, 84, 78, 79, 32, 32, 60, 61, 48, 49, 57, 57] : Str)) then (bif (o6.1 == ([48, 49, 48, 48] : Str)) then (some ((o6.2.1 == ([48, 49, 57, 57] : Str)))) else (some (false))) else (some (false))) else (some (false))) else (some (false))).bind fun o7 =>
      (some o7))))
def ref11_IsName_L1 (a0 : Str)  (K0 : Int → Option Bool) : Nat → Int → Option Bool
  | 0, _ => none
  | m + 1, x7 =>
    (bif (decide (x7 < (a0.length : Int))) then (((idxS a0 x7).bind fun v8 => (bif (decide (v8 ≥ 65)) then ((idxS a0 x7).bind fun v9 => (some ((decide (v9 ≤ 90))))) else (some (false)))).bind fun o10 =>
          ((bif (!o10) then (bif (x7 == 0) then (some (true)) else ((idxS a0 x7).bind fun v11 => (bif (decide (v11 < 48)) then (some (true)) else ((idxS a0 x7).bind fun v12 => (some ((decide (v12 > 57)))))))) else (some (false))).bind fun o13 =>
          (bif o13 then (some false) else
          (ref11_IsName_L1 a0 K0 m (Go.IntKind.wrap .i64 (x7 + 1)))))) else
        (K0 x7))
def ref11_IsName : Nat → (Str) → Option Bool
  | 0, _ => none
  | k + 1, a0 =>
    (ref11_IsName_L1 a0 (fun y14 =>
      ((bif (decide ((a0.length : Int) ≥ 1)) then (some ((decide ((a0.length : Int) ≤ 8)))) else (some (false))).bind fun o15 =>
        (some o15))) k 0)
def ref11_fields_L2 (a0 : T_api_Type) (x11 : Int) (o13 : T_api_Field)  (K0 : Int → Option Bool) : Nat → Int → Option Bool
  | 0, _ => none
  | m + 1, x18 =>
    (bif (decide (x18 < x11)) then (((idx a0.fFields x18).bind fun v19 => (some ((v19.fName == o13.fName)))).bind fun o20 =>
          (bif o20 then (some false) else
          (ref11_fields_L2 a0 x11 o13 K0 m (Go.IntKind.wrap .i64 (x18 + 1))))) else
        (K0 x18))
def ref11_fields_L1 (k : Nat) (a0 : T_api_Type)  (K0 : Int → Option Bool) : Nat → Int → Option Bool
  | 0, _ => none
  | m + 1, x11 =>
    (bif (decide (x11 < (a0.fFields.length : Int))) then ((idx a0.fFields x11).bind fun o13 =>
          (((ref11_IsName k o13.fName).bind fun v14 => (bif (!v14) then (some (true)) else (bif (decide (o13.fAt < 0)) then (some (true)) else (bif (decide (o13.fAt > a0.fSize)) then (some (true)) else (bif (decide (o13.fBytes < 1)) then (some (true)) else (some ((decide (o13.fBytes > (Go.IntKind.wrap .i64 (a0.fSize - o13.fAt))))))))))).bind fun o15 =>
          (bif o15 then (some false) else
          (ref11_fields_L2 a0 x11 o13 (fun y21 =>
            (ref11_fields_L1 k a0 K0 m (Go.IntKind.wrap .i64 (x11 + 1)))) k 0)))) else
        (K0 x11))
def ref11_fields : Nat → (T_api_Type) → Option Bool
  | 0, _ => none
  | k + 1, a0 =>
    (ref11_fields_L1 k a0 (fun y22 =>
      ((bif (decide (a0.fKey < (-1))) then (some (true)) else (bif (decide (a0.fKey ≥ (a0.fFields.length : Int))) then (some (true)) else (bif (decide (a0.fKey < 0)) then (some (a0.fUnique)) else (some (false))))).bind fun o23 =>
        (bif o23 then (some false) else
        ((bif (decide ((a0.fFields.length : Int) ≤ 5)) then (bif (decide (a0.fKey < 0)) then (some (true)) else ((idx a0.fFields a0.fKey).bind fun v24 => ((idx a0.fFields a0.fKey).bind fun v25 => (some ((decide ((Go.IntKind.wrap .i64 (v24.fAt + v25.fBytes)) ≤ a0.fMin))))))) else (some (false))).bind fun o26 =>
          (some o26))))) k 0)
def ref11_above_L1 (a0 : T_api_Base) (a1 : Int)  (K0 : Int → Option Bool) : Nat → Int → Option Bool
  | 0, _ => none
  | m + 1, x5 =>
    (bif (decide (x5 ≥ 0)) then (bif (x5 == a1) then (some true) else
          (((idx a0.fTypes x5).bind fun v6 => (some (v6.fParent))).bind fun o7 =>
            (ref11_above_L1 a0 a1 K0 m o7))) else
        (K0 x5))
def ref11_above : Nat → (T_api_Base) → (Int) → (Int) → Option Bool
  | 0, _, _, _ => none
  | k + 1, a0, a1, a2 =>
    (((idx a0.fTypes a2).bind fun v1 => (some (v1.fParent))).bind fun o2 =>
      (ref11_above_L1 a0 a1 (fun y8 =>
      (some false)) k o2))
def ref11_way_L1 (a0 : T_api_Base)  (K0 : Int → (List Int) → Option (List Int)) : Nat → Int → (List Int) → Option (List Int)
  | 0, _, _ => none
  | m + 1, x5, x6 =>
    (bif (decide (x5 ≥ 0)) then ((app ([x5] : List Int) x6).bind fun o8 =>
          (((idx a0.fTypes x5).bind fun v9 => (some (v9.fParent))).bind fun o10 =>
          (ref11_way_L1 a0 K0 m o10 o8))) else
        (K0 x5 x6))
def ref11_way : Nat → (T_api_Base) → (Int) → Option (List Int)
  | 0, _, _ => none
  | k + 1, a0, a1 =>
    (ref11_way_L1 a0 (fun y11 y12 =>
      (some y12)) k a1 ([] : List Int))
def ref11_Valid_L2 (a0 : T_api_Base) (x20 : Int) (o22 : T_api_Type)  (K0 : Int → Option Bool) : Nat → Int → Option Bool
  | 0, _ => none
  | m + 1, x28 =>
    (bif (decide (x28 < x20)) then (((idx a0.fTypes x28).bind fun v29 => (some ((v29.fName == o22.fName)))).bind fun o30 =>
          (bif o30 then (some false) else
          (ref11_Valid_L2 a0 x20 o22 K0 m (Go.IntKind.wrap .i64 (x28 + 1))))) else
        (K0 x28))
def ref11_Valid_L1 (k : Nat) (a0 : T_api_Base)  (K0 : Int → Option Bool) : Nat → Int → Option Bool
  | 0, _ => none
  | m + 1, x20 =>
    (bif (decide (x20 < (a0.fTypes.length : Int))) then ((idx a0.fTypes x20).bind fun o22 =>
          (((ref11_IsName k o22.fName).bind fun v23 => (bif (!v23) then (some (true)) else (bif (decide (o22.fMin < 1)) then (some (true)) else (bif (decide (o22.fMin > o22.fSize)) then (some (true)) else (bif (decide (o22.fSize > 40)) then (some (true)) else ((ref11_fields k o22).bind fun v24 => (some ((!v24))))))))).bind fun o25 =>
          (bif o25 then (some false) else
          (ref11_Valid_L2 a0 x20 o22 (fun y31 =>
            (bif (x20 == 0) then ((bif (o22.fParent != (-1)) then (some (true)) else (bif (decide (o22.fKey < 0)) then (some (true)) else (bif (!o22.fUnique) then (some (true)) else ((idx o22.fFields o22.fKey).bind fun v32 => (some ((decide (v32.fBytes > 24)))))))).bind fun o33 =>
                (bif o33 then (some false) else
                (ref11_Valid_L1 k a0 K0 m (Go.IntKind.wrap .i64 (x20 + 1))))) else
              ((bif (decide (o22.fParent < 0)) then (some (true)) else (bif (decide (o22.fParent ≥ x20)) then (some (true)) else (bif (o22.fParent != (Go.IntKind.wrap .i64 (x20 - 1))) then ((ref11_above k a0 o22.fParent (Go.IntKind.wrap .i64 (x20 - 1))).bind fun v34 => (bif (!v34) then (some (true)) else ((ref11_way k a0 x20).bind fun v35 => (some ((decide ((v35.length : Int) > 5))))))) else ((ref11_way k a0 x20).bind fun v36 => (some ((decide ((v36.length : Int) > 5)))))))).bind fun o37 =>
                (bif o37 then (some false) else
                (ref11_Valid_L1 k a0 K0 m (Go.IntKind.wrap .i64 (x20 + 1))))))) k 0)))) else
        (K0 x20))
def ref11_Valid_L4 (a0 : T_api_Base) (x52 : Int) (o54 : T_api_Search)  (K0 : Int → Option Bool) : Nat → Int → Option Bool
  | 0, _ => none
  | m + 1, x62 =>
    (bif (decide (x62 < x52)) then (((idx a0.fIndexes x62).bind fun v63 => (some ((v63.fName == o54.fName)))).bind fun o64 =>
          (bif o64 then (some false) else
          (ref11_Valid_L4 a0 x52 o54 K0 m (Go.IntKind.wrap .i64 (x62 + 1))))) else
        (K0 x62))
def ref11_Valid_L3 (k : Nat) (a0 : T_api_Base)  (K0 : Int → Option Bool) : Nat → Int → Option Bool
  | 0, _ => none
  | m + 1, x52 =>
    (bif (decide (x52 < (a0.fIndexes.length : Int))) then ((idx a0.fIndexes x52).bind fun o54 =>
          (((ref11_IsName k o54.fName).bind fun v55 => (bif (!v55) then (some (true)) else (bif (decide (o54.fType < 0)) then (some (true)) else (bif (decide (o54.fType ≥ (a0.fTypes.length : Int))) then (some (true)) else (bif (decide (o54.fField < 0)) then (some (true)) else ((idx a0.fTypes o54.fType).bind fun v56 => (bif (decide (o54.fField ≥ (v56.fFields.length : Int))) then (some (true)) else ((idx a0.fTypes o54.fType).bind fun v57 => ((idx v57.fFields o54.fField).bind fun v58 => (bif (decide (v58.fBytes > 20)) then (some (true)) else (some ((decide ((o54.fSparse.length : Int) > 1)))))))))))))).bind fun o59 =>
          (bif o59 then (some false) else
          (ref11_Valid_L4 a0 x52 o54 (fun y65 =>
            (ref11_Valid_L3 k a0 K0 m (Go.IntKind.wrap .i64 (x52 + 1)))) k 0)))) else
        (K0 x52))
def ref11_Valid : Nat → (T_api_Base) → Option Bool
  | 0, _ => none
  | k + 1, a0 =>
    (((ref11_IsName k a0.fName).bind fun v1 => (bif (!v1) then (some (true)) else (bif (decide (a0.fKind < 1)) then (some (true)) else (bif (decide (a0.fKind > 4)) then (some (true)) else (bif (decide ((a0.fTypes.length : Int) < 1)) then (some (true)) else (bif (decide ((a0.fTypes.length : Int) > 8)) then (some (true)) else (some ((decide ((a0.fIndexes.length : Int) > 3)))))))))).bind fun o2 =>
      (bif o2 then (some false) else
      (ref11_Valid_L1 k a0 (fun y38 =>
        (ref11_Valid_L3 k a0 (fun y66 =>
          (some true)) k 0)) k 0)))
def ref12_isType : Nat → (T_api_Base) → (Int) → Option Int
  | 0, _, _ => none
  | k + 1, a0, a1 =>
    (((ref11_Valid k a0).bind fun v1 => (some ((!v1)))).bind fun o2 =>
      (bif o2 then (some 100) else
      ((bif (decide (a1 < 0)) then (some (true)) else (some ((decide (a1 ≥ (a0.fTypes.length : Int)))))).bind fun o3 =>
        (bif o3 then (some 2) else
        (some 0)))))
def ref11_isType : Nat → (T_api_Base) → (Int) → Option Bool
  | 0, _, _ => none
  | k + 1, a0, a1 =>
    ((bif (decide (a1 ≥ 0)) then (some ((decide (a1 < (a0.fTypes.length : Int))))) else (some (false))).bind fun o1 =>
      (some o1))
def ref11_asked_L1 (k : Nat) (a0 : T_api_Base) (a1 : (List Int))  (K0 : Int → Option Int) : Nat → Int → Option Int
  | 0, _ => none
  | m + 1, x6 =>
    (bif (decide (x6 < (a1.length : Int))) then (((idx a1 x6).bind fun v7 => ((ref11_isType k a0 v7).bind fun v8 => (some ((!v8))))).bind fun o9 =>
          (bif o9 then (some 2) else
          (ref11_asked_L1 k a0 a1 K0 m (Go.IntKind.wrap .i64 (x6 + 1))))) else
        (K0 x6))
def ref11_asked : Nat → (T_api_Base) → ((List Int)) → Option Int
  | 0, _, _ => none
  | k + 1, a0, a1 =>
    (((ref11_Valid k a0).bind fun v1 => (some ((!v1)))).bind fun o2 =>
      (bif o2 then (some 100) else
      (ref11_asked_L1 k a0 a1 (fun y10 =>
        (some 0)) k 0)))
def ref11_Fits : Nat → (T_api_Base) → (Int) → (Str) → Option (Bool × Int)
  | 0, _, _, _ => none
  | k + 1, a0, a1, a2 =>
    ((ref11_asked k a0 ([a1] : List Int)).bind fun o2 =>
      (bif (o2 != 0) then (some (false, o2)) else
      (((idx a0.fTypes a1).bind fun v3 => (bif (decide ((a2.length : Int) ≥ v3.fMin)) then ((idx a0.fTypes a1).bind fun v4 => (some ((decide ((a2.length : Int) ≤ v4.fSize)), 0))) else (some (false, 0)))).bind fun o5 =>
        (some (o5.1, o5.2)))))
def ref11_Field_L1 (a0 : T_api_Base) (a1 : Int) (a2 : Str)  (K0 : Int → Option (Int × Int)) : Nat → Int → Option (Int × Int)
  | 0, _ => none
  | m + 1, x8 =>
    (((idx a0.fTypes a1).bind fun v9 => (some ((decide (x8 < (v9.fFields.length : Int)))))).bind fun o10 =>
        (bif o10 then (((idx a0.fTypes a1).bind fun v11 => ((idx v11.fFields x8).bind fun v12 => (some ((v12.fName == a2))))).bind fun o13 =>
          (bif o13 then (some (x8, 0)) else
          (ref11_Field_L1 a0 a1 a2 K0 m (Go.IntKind.wrap .i64 (x8 + 1))))) else
        (K0 x8)))
def ref11_Field : Nat → (T_api_Base) → (Int) → (Str) → Option (Int × Int)
  | 0, _, _, _ => none
  | k + 1, a0, a1, a2 =>
    ((ref11_asked k a0 ([a1] : List Int)).bind fun o2 =>
      (bif (o2 != 0) then (some (0, o2)) else
      (ref11_Field_L1 a0 a1 a2 (fun y14 =>
        (some (0, 5))) k 0)))
def ref12_isTerm : Nat → (T_api_Base) → (Int) → (T_api_Term) → Option Bool
  | 0, _, _, _ => none
  | k + 1, a0, a1, a2 =>
    (((ref11_Field k a0 a1 a2.fField).bind fun v1 => (some (v1.1, v1.2))).bind fun o2 =>
      ((bif (o2.2 == 0) then (bif (decide (a2.fOp ≥ 1)) then (bif (decide (a2.fOp ≤ 6)) then ((idx a0.fTypes a1).bind fun v3 => ((idx v3.fFields o2.1).bind fun v4 => (some (((a2.fValue.length : Int) == v4.fBytes))))) else (some (false))) else (some (false))) else (some (false))).bind fun o5 =>
      (some o5)))
def ref12_isCondition_L2 (k : Nat) (a0 : T_api_Base) (a1 : Int) (a2 : (List (List T_api_Term))) (x18 : Int)  (K0 : Int → Option Bool) : Nat → Int → Option Bool
  | 0, _ => none
  | m + 1, x28 =>
    (((idx a2 x18).bind fun v29 => (some ((decide (x28 < (v29.length : Int)))))).bind fun o30 =>
        (bif o30 then (((idx a2 x18).bind fun v31 => ((idx v31 x28).bind fun v32 => ((ref12_isTerm k a0 a1 v32).bind fun v33 => (some ((!v33)))))).bind fun o34 =>
          (bif o34 then (some false) else
          (ref12_isCondition_L2 k a0 a1 a2 x18 K0 m (Go.IntKind.wrap .i64 (x28 + 1))))) else
        (K0 x28)))
def ref12_isCondition_L1 (k : Nat) (a0 : T_api_Base) (a1 : Int) (a2 : (List (List T_api_Term)))  (K0 : Int → Option Bool) : Nat → Int → Option Bool
  | 0, _ => none
  | m + 1, x18 =>
    (bif (decide (x18 < (a2.length : Int))) then (((idx a2 x18).bind fun v19 => (bif (decide ((v19.length : Int) < 1)) then (some (true)) else ((idx a2 x18).bind fun v20 => (some ((decide ((v20.length : Int) > 4))))))).bind fun o21 =>
          (bif o21 then (some false) else
          (ref12_isCondition_L2 k a0 a1 a2 x18 (fun y35 =>
            (ref12_isCondition_L1 k a0 a1 a2 K0 m (Go.IntKind.wrap .i64 (x18 + 1)))) k 0))) else
        (K0 x18))
def ref12_isCondition : Nat → (T_api_Base) → (Int) → ((List (List T_api_Term))) → Option Bool
  | 0, _, _, _ => none
  | k + 1, a0, a1, a2 =>
    (ref12_isCondition_L1 k a0 a1 a2 (fun y36 =>
      (some (decide ((a2.length : Int) ≤ 4)))) k 0)
def ref11_Value : Nat → (T_api_Base) → (Int) → (Str) → (Int) → Option (Str × Bool × Int)
  | 0, _, _, _, _ => none
  | k + 1, a0, a1, a2, a3 =>
    (((ref11_Fits k a0 a1 a2).bind fun v1 => (some (v1.1, v1.2))).bind fun o2 =>
      (bif (o2.2 != 0) then (some (([] : Str), false, o2.2)) else
      ((bif (!o2.1) then (some (true)) else (bif (decide (a3 < 0)) then (some (true)) else ((idx a0.fTypes a1).bind fun v3 => (some ((decide (a3 ≥ (v3.fFields.length : Int)))))))).bind fun o4 =>
        (bif o4 then (some (([] : Str), false, 2)) else
        (((idx a0.fTypes a1).bind fun v5 => (idx v5.fFields a3)).bind fun o7 =>
          (bif (decide ((Go.IntKind.wrap .i64 (o7.fAt + o7.fBytes)) > (a2.length : Int))) then (some (([] : Str), false, 0)) else
          (((cut a2 o7.fAt (Go.IntKind.wrap .i64 (o7.fAt + o7.fBytes))).bind fun v8 => (some (v8, true, 0))).bind fun o9 =>
            (some (o9.1, o9.2.1, o9.2.2)))))))))
def ref12_stands : Nat → (Str) → (Int) → (Str) → Option Bool
  | 0, _, _, _ => none
  | k + 1, a0, a1, a2 =>
    (bif (a1 == 1) then (some (a0 == a2)) else
      (bif (a1 == 2) then (some (!(a0 == a2))) else
        (bif (a1 == 3) then (some (Go.AE.bytesLt a0 a2)) else
          (bif (a1 == 4) then (some (Go.AE.bytesLt a0 a2 || a0 == a2)) else
            (bif (a1 == 5) then (some (!(Go.AE.bytesLt a0 a2 || a0 == a2))) else
              (some (!Go.AE.bytesLt a0 a2)))))))
def ref12_holds : Nat → (T_api_Base) → (Int) → (T_api_Term) → (Str) → Option Bool
  | 0, _, _, _, _ => none
  | k + 1, a0, a1, a2, a3 =>
    (((ref11_Field k a0 a1 a2.fField).bind fun v1 => (some (v1.1))).bind fun o2 =>
      (((ref11_Value k a0 a1 a3 o2).bind fun v3 => (some (v3.1, v3.2.1, v3.2.2))).bind fun o4 =>
      ((bif (o4.2.2 == 0) then (bif o4.2.1 then (ref12_stands k o4.1 a2.fOp a2.fValue) else (some (false))) else (some (false))).bind fun o6 =>
      (some o6))))
def ref12_Holds_L2 (k : Nat) (a0 : T_api_Base) (a1 : Int) (a2 : (List (List T_api_Term))) (a3 : Str) (x25 : Int)  (K0 : Bool → Int → Option (Bool × Int)) : Nat → Bool → Int → Option (Bool × Int)
  | 0, _, _ => none
  | m + 1, x32, x33 =>
    (((idx a2 x25).bind fun v34 => (some ((decide (x33 < (v34.length : Int)))))).bind fun o35 =>
        (bif o35 then ((bif x32 then ((idx a2 x25).bind fun v36 => ((idx v36 x33).bind fun v37 => (ref12_holds k a0 a1 v37 a3))) else (some (false))).bind fun o39 =>
          (ref12_Holds_L2 k a0 a1 a2 a3 x25 K0 m o39 (Go.IntKind.wrap .i64 (x33 + 1)))) else
        (K0 x32 x33)))
def ref12_Holds_L1 (k : Nat) (a0 : T_api_Base) (a1 : Int) (a2 : (List (List T_api_Term))) (a3 : Str)  (K0 : Bool → Int → Option (Bool × Int)) : Nat → Bool → Int → Option (Bool × Int)
  | 0, _, _ => none
  | m + 1, x24, x25 =>
    (bif (decide (x25 < (a2.length : Int))) then (ref12_Holds_L2 k a0 a1 a2 a3 x25 (fun y40 y41 =>
          ((bif x24 then (some (true)) else (some (y40))).bind fun o42 =>
            (ref12_Holds_L1 k a0 a1 a2 a3 K0 m o42 (Go.IntKind.wrap .i64 (x25 + 1))))) k true 0) else
        (K0 x24 x25))
def ref12_Holds : Nat → (T_api_Base) → (Int) → ((List (List T_api_Term))) → (Str) → Option (Bool × Int)
  | 0, _, _, _, _ => none
  | k + 1, a0, a1, a2, a3 =>
    ((ref12_isType k a0 a1).bind fun o2 =>
      (bif (o2 != 0) then (some (false, o2)) else
      (((ref11_Fits k a0 a1 a3).bind fun v3 => (some (v3.1))).bind fun o4 =>
        (bif (!o4) then (some (false, 2)) else
        (((ref12_isCondition k a0 a1 a2).bind fun v5 => (some ((!v5)))).bind fun o6 =>
          (bif o6 then (some (false, 110)) else
          (ref12_Holds_L1 k a0 a1 a2 a3 (fun y43 y44 =>
            (some (y43, 0))) k ((a2.length : Int) == 0) 0)))))))
def ref12_Valid : Nat → (T_api_Base) → (Int) → ((List (List T_api_Term))) → Option (Bool × Int)
  | 0, _, _, _ => none
  | k + 1, a0, a1, a2 =>
    ((ref12_isType k a0 a1).bind fun o2 =>
      (bif (o2 != 0) then (some (false, o2)) else
      (((ref12_isCondition k a0 a1 a2).bind fun v3 => (some (v3, 0))).bind fun o4 =>
        (some (o4.1, o4.2)))))
def slices_Clone_Term_c : Nat → (T_api_Term) → ((List T_api_Term)) → Option (List T_api_Term)
  | 0, _, _ => none
  | k + 1, y, l =>
    ((app ([] : List T_api_Term) (y :: l)).bind fun o2 =>
      (some o2))
def slices_Clone_Term : Nat → List T_api_Term → Option (List T_api_Term)
  | 0, _ => none
  | _ + 1, [] => some []
  | k + 1, y :: l => slices_Clone_Term_c (k + 1) y l
def match_copied_L1 (k : Nat) (a0 : (List (List T_api_Term)))  (K0 : (List (List T_api_Term)) → Int → Option (List (List T_api_Term))) : Nat → (List (List T_api_Term)) → Int → Option (List (List T_api_Term))
  | 0, _, _ => none
  | m + 1, x6, x7 =>
    (bif (decide (x7 < (a0.length : Int))) then ((idx a0 x7).bind fun o9 =>
          (((slices_Clone_Term k o9).bind fun v10 => (app x6 ([v10] : List (List T_api_Term)))).bind fun o12 =>
          (match_copied_L1 k a0 K0 m o12 (Go.IntKind.wrap .i64 (x7 + 1))))) else
        (K0 x6 x7))
def match_copied : Nat → ((List (List T_api_Term))) → Option (List (List T_api_Term))
  | 0, _ => none
  | k + 1, a0 =>
    (match_copied_L1 k a0 (fun y13 y14 =>
      (some y13)) k ([] : List (List T_api_Term)) 0)
def slices_Concat_Term : Nat → List (List T_api_Term) → Option (List T_api_Term)
  | 0, _ => none
  | _ + 1, s => catL s
def match_limited : Nat → (T_api_Type) → ((List (List T_api_Term))) → Option ((List (List T_api_Term)) × Int)
  | 0, _, _ => none
  | k + 1, a0, a1 =>
    (((match_valid k a0 a1).bind fun v1 => (some ((!v1)))).bind fun o2 =>
      (bif o2 then (some (([] : List (List T_api_Term)), 4)) else
      (some (a1, 0))))
def match_And_L2 (k : Nat) (a3 : (List (List T_api_Term))) (o26 : (List T_api_Term))  (K0 : (List (List T_api_Term)) → Int → Option ((List (List T_api_Term)) × Int)) : Nat → (List (List T_api_Term)) → Int → Option ((List (List T_api_Term)) × Int)
  | 0, _, _ => none
  | m + 1, x32, x33 =>
    (bif (decide (x33 < (a3.length : Int))) then ((idx a3 x33).bind fun o35 =>
          (((slices_Concat_Term k ([o26, o35] : List (List T_api_Term))).bind fun v36 => (app x32 ([v36] : List (List T_api_Term)))).bind fun o38 =>
          (match_And_L2 k a3 o26 K0 m o38 (Go.IntKind.wrap .i64 (x33 + 1))))) else
        (K0 x32 x33))
def match_And_L1 (k : Nat) (a2 : (List (List T_api_Term))) (a3 : (List (List T_api_Term)))  (K0 : (List (List T_api_Term)) → Int → Option ((List (List T_api_Term)) × Int)) : Nat → (List (List T_api_Term)) → Int → Option ((List (List T_api_Term)) × Int)
  | 0, _, _ => none
  | m + 1, x23, x24 =>
    (bif (decide (x24 < (a2.length : Int))) then ((idx a2 x24).bind fun o26 =>
          (match_And_L2 k a3 o26 (fun y39 y40 =>
          (match_And_L1 k a2 a3 K0 m y39 (Go.IntKind.wrap .i64 (x24 + 1)))) k x23 0)) else
        (K0 x23 x24))
def match_And : Nat → (T_api_Base) → (Int) → ((List (List T_api_Term))) → ((List (List T_api_Term))) → Option ((List (List T_api_Term)) × Int)
  | 0, _, _, _, _ => none
  | k + 1, a0, a1, a2, a3 =>
    (((match_conditions k a0 a1 ([a2, a3] : List (List (List T_api_Term)))).bind fun v1 => (some (v1.2, v1.1))).bind fun o2 =>
      (bif (o2.1 != 0) then (some (([] : List (List T_api_Term)), o2.1)) else
      (bif ((a2.length : Int) == 0) then (((match_copied k a3).bind fun v3 => (some (v3, 0))).bind fun o4 =>
          (some (o4.1, o4.2))) else
        (bif ((a3.length : Int) == 0) then (((match_copied k a2).bind fun v5 => (some (v5, 0))).bind fun o6 =>
            (some (o6.1, o6.2))) else
          (match_And_L1 k a2 a3 (fun y41 y42 =>
            (((match_limited k o2.2 y41).bind fun v43 => (some (v43.1, v43.2))).bind fun o44 =>
              (some (o44.1, o44.2)))) k ([] : List (List T_api_Term)) 0)))))
def slices_Concat_TermL : Nat → List (List (List T_api_Term)) → Option (List (List T_api_Term))
  | 0, _ => none
  | _ + 1, s => catL s
def match_Or : Nat → (T_api_Base) → (Int) → ((List (List T_api_Term))) → ((List (List T_api_Term))) → Option ((List (List T_api_Term)) × Int)
  | 0, _, _, _, _ => none
  | k + 1, a0, a1, a2, a3 =>
    (((match_conditions k a0 a1 ([a2, a3] : List (List (List T_api_Term)))).bind fun v1 => (some (v1.2, v1.1))).bind fun o2 =>
      (bif (o2.1 != 0) then (some (([] : List (List T_api_Term)), o2.1)) else
      ((bif ((a2.length : Int) == 0) then (some (true)) else (some (((a3.length : Int) == 0)))).bind fun o3 =>
        (bif o3 then (some (([] : List (List T_api_Term)), 0)) else
        (((slices_Concat_TermL k ([a2, a3] : List (List (List T_api_Term)))).bind fun v4 => ((match_copied k v4).bind fun v5 => ((match_limited k o2.2 v5).bind fun v6 => (some (v6.1, v6.2))))).bind fun o7 =>
          (some (o7.1, o7.2)))))))
def law12_joined : Nat → (T_progenylaw12_Case) → ((List (List T_api_Term))) → ((List (List T_api_Term))) → (Bool) → Option ((List (List T_api_Term)) × Int)
  | 0, _, _, _, _ => none
  | k + 1, a0, a1, a2, a3 =>
    (bif a3 then (((match_And k a0.fBase a0.fType a1 a2).bind fun v1 => (some (v1.1, v1.2))).bind fun o2 =>
        (some (o2.1, o2.2))) else
      (((match_Or k a0.fBase a0.fType a1 a2).bind fun v3 => (some (v3.1, v3.2))).bind fun o4 =>
        (some (o4.1, o4.2))))
def dbd_fits : Nat → (T_api_Type) → (Str) → Option Bool
  | 0, _, _ => none
  | k + 1, a0, a1 =>
    ((bif (decide ((a1.length : Int) ≥ a0.fMin)) then (some ((decide ((a1.length : Int) ≤ a0.fSize)))) else (some (false))).bind fun o1 =>
      (some o1))
def dbd_Fits : Nat → (T_api_Base) → (Int) → (Str) → Option (Bool × Int)
  | 0, _, _, _ => none
  | k + 1, a0, a1, a2 =>
    ((dbd_asked k a0 ([a1] : List Int)).bind fun o2 =>
      (bif (o2 != 0) then (some (false, o2)) else
      (((idx a0.fTypes a1).bind fun v3 => ((dbd_fits k v3 a2).bind fun v4 => (some (v4, 0)))).bind fun o5 =>
        (some (o5.1, o5.2)))))
def match_Holds_2_1_v12 : Nat → (T_api_Term) → (Nat → T_api_Term → Option Bool) → Option Bool
  | 0, _, _ => none
  | k + 1, a0, a1 =>
    (((a1 k a0).bind fun v1 => (some ((!v1)))).bind fun o2 =>
      (some o2))
def match_Holds_2_v12 : Nat → ((List T_api_Term)) → (Nat → T_api_Term → Option Bool) → Option Bool
  | 0, _, _ => none
  | k + 1, a0, a1 =>
    (((slices_ContainsFunc_Term k a0 (fun j x0 => (match_Holds_2_1_v12 j x0 a1))).bind fun v1 => (some ((!v1)))).bind fun o2 =>
      (some o2))
def strings_Compare : Nat → Str → Str → Option Int
  | 0, _, _ => none
  | _ + 1, s, n => some (cmpB s n)
def match_holds : Nat → (Int) → (Str) → (Str) → Option Bool
  | 0, _, _, _ => none
  | k + 1, a0, a1, a2 =>
    ((strings_Compare k a1 a2).bind fun o2 =>
      (bif (a0 == 1) then (some (o2 == 0)) else
      (bif (a0 == 2) then (some (o2 != 0)) else
        (bif (a0 == 3) then (some (decide (o2 < 0))) else
          (bif (a0 == 4) then (some (decide (o2 ≤ 0))) else
            (bif (a0 == 5) then (some (decide (o2 > 0))) else
              (some (decide (o2 ≥ 0)))))))))
def match_Holds_1 : Nat → (T_api_Term) → (T_api_Type) → (Str) → Option Bool
  | 0, _, _, _ => none
  | k + 1, a0, a1, a2 =>
    (((match_field k a1 a0.fField).bind fun v1 => (some (v1.1))).bind fun o2 =>
      ((idx a1.fFields o2).bind fun o4 =>
      ((bif (decide ((Go.IntKind.wrap .i64 (o4.fAt + o4.fBytes)) ≤ (a2.length : Int))) then ((cut a2 o4.fAt (Go.IntKind.wrap .i64 (o4.fAt + o4.fBytes))).bind fun v5 => (match_holds k a0.fOp v5 a0.fValue)) else (some (false))).bind fun o7 =>
      (some o7))))
def match_Holds : Nat → (T_api_Base) → (Int) → ((List (List T_api_Term))) → (Str) → Option (Bool × Int)
  | 0, _, _, _, _ => none
  | k + 1, a0, a1, a2, a3 =>
    (((dbd_Fits k a0 a1 a3).bind fun v1 => (some (v1.1, v1.2))).bind fun o2 =>
      (bif (o2.2 != 0) then (some (false, o2.2)) else
      (bif (!o2.1) then (some (false, 2)) else
        (((match_conditions k a0 a1 ([a2] : List (List (List T_api_Term)))).bind fun v3 => (some (v3.2, v3.1))).bind fun o4 =>
          (bif (o4.1 != 0) then (some (false, o4.1)) else
          ((bif ((a2.length : Int) == 0) then (some (true, 0)) else ((slices_ContainsFunc_TermL k a2 (fun j x0 => (match_Holds_2_v12 j x0 (fun j x0 => (match_Holds_1 j x0 o4.2 a3))))).bind fun v5 => (some (v5, 0)))).bind fun o6 =>
            (some (o6.1, o6.2))))))))
def law12_held : Nat → (T_progenylaw12_Case) → ((List (List T_api_Term))) → (Str) → Option Bool
  | 0, _, _, _ => none
  | k + 1, a0, a1, a2 =>
    (((match_Holds k a0.fBase a0.fType a1 a2).bind fun v1 => (some (v1.1, v1.2))).bind fun o2 =>
      ((bif (o2.2 == 0) then (some (o2.1)) else (some (false))).bind fun o3 =>
      (some o3)))
def law12_MatchOrders_L1 (k : Nat) (a0 : T_progenylaw12_Case) (a1 : (List (List T_api_Term))) (a2 : Str)  (K0 : Int → Option Bool) : Nat → Int → Option Bool
  | 0, _ => none
  | m + 1, x29 =>
    (bif (decide (x29 < 2)) then (((law12_joined k a0 a0.fWhen a1 (x29 == 0)).bind fun v30 => (some (v30.1, v30.2))).bind fun o31 =>
          (((law12_joined k a0 a1 a0.fWhen (x29 == 0)).bind fun v32 => (some (v32.1, v32.2))).bind fun o33 =>
          (((law12_joined k a0 a0.fWhen a0.fWhen (x29 == 0)).bind fun v34 => (some (v34.1, v34.2))).bind fun o35 =>
          (bif (!((o31.2 == 0) == (o33.2 == 0))) then (some false) else
          ((bif (o31.2 == 0) then ((law12_held k a0 o31.1 a2).bind fun v36 => ((law12_held k a0 o33.1 a2).bind fun v37 => (bif (!(v36 == v37)) then (some (true)) else (bif (o35.2 == 0) then ((law12_held k a0 o35.1 a2).bind fun v38 => ((law12_held k a0 a0.fWhen a2).bind fun v39 => (some ((!(v38 == v39)))))) else (some (false)))))) else (bif (o35.2 == 0) then ((law12_held k a0 o35.1 a2).bind fun v40 => ((law12_held k a0 a0.fWhen a2).bind fun v41 => (some ((!(v40 == v41)))))) else (some (false)))).bind fun o42 =>
            (bif o42 then (some false) else
            (law12_MatchOrders_L1 k a0 a1 a2 K0 m (Go.IntKind.wrap .i64 (x29 + 1))))))))) else
        (K0 x29))
def law12_MatchOrders : Nat → (T_progenylaw12_Case) → ((List (List T_api_Term))) → (Str) → Option Bool
  | 0, _, _, _ => none
  | k + 1, a0, a1, a2 =>
    (((law12_Large k a0.fBase).bind fun v1 => (bif v1 then (some (true)) else ((law12_Long k a0.fWhen).bind fun v2 => (bif v2 then (some (true)) else ((law12_Long k a1).bind fun v3 => (bif v3 then (some (true)) else (some ((decide ((a2.length : Int) > 200)))))))))).bind fun o4 =>
      (bif o4 then ((law12_Awake k).bind fun o6 =>
        (some o6)) else
      (((ref12_Holds k a0.fBase a0.fType a0.fWhen a2).bind fun v7 => (some (v7.2))).bind fun o8 =>
        (bif (o8 != 0) then ((law12_Awake k).bind fun o10 =>
          (some o10)) else
        (((ref12_Valid k a0.fBase a0.fType a1).bind fun v11 => (some (v11.1, v11.2))).bind fun o12 =>
          ((bif (o12.2 != 0) then (some (true)) else (some ((!o12.1)))).bind fun o13 =>
          (bif o13 then ((law12_Awake k).bind fun o15 =>
            (some o15)) else
          (law12_MatchOrders_L1 k a0 a1 a2 (fun y43 =>
            ((law12_Awake k).bind fun o45 =>
              (some o45))) k 0))))))))
end Go.Sh
namespace Go.Sh
open Go.AE
set_option linter.unusedVariables false
theorem maxLen_eq : maxLen = 9223372036854775807 := rfl
theorem wrap_in {x : Int} (h : -9223372036854775808 ≤ x) (h' : x ≤ 9223372036854775807) : Go.IntKind.wrap .i64 x = x := IntWalk.i64_in x ⟨h, h'⟩
theorem wrap_next {i n : Nat} (h : i < n) (hn : n ≤ maxLen) : Go.IntKind.wrap .i64 ((i : Int) + 1) = ((i + 1 : Nat) : Int) := by
  rw [wrap_in] <;> (try rw [maxLen_eq] at hn) <;> omega
theorem idx_at {α : Type} {l : List α} {i : Nat} (h : i < l.length) : idx l (i : Int) = some l[i] := by
  unfold idx
  rw [if_pos (by omega), Int.toNat_natCast, List.getElem?_eq_getElem h]
theorem idx_of {α : Type} {l : List α} {x : Int} (h0 : 0 ≤ x) (h : x < (l.length : Int)) : idx l x = some (l[x.toNat]'(by omega)) := by
  unfold idx
  rw [if_pos h0, List.getElem?_eq_getElem (by omega)]
theorem idxS_at {l : List UInt8} {i : Nat} (h : i < l.length) : idxS l (i : Int) = some (l[i].toNat : Int) := by
  unfold idxS
  rw [if_pos (by omega), Int.toNat_natCast, List.getElem?_eq_getElem h]
  rfl
theorem cut_take {α : Type} {l : List α} {i : Nat} (h : i ≤ l.length) : cut l 0 (i : Int) = some (l.take i) := by
  unfold cut
  rw [if_pos ⟨by omega, by omega, by omega⟩]
  simp
theorem app_ok {α : Type} {l m : List α} (h : l.length + m.length ≤ maxList) : app l m = some (l ++ m) := by
  unfold app; rw [if_pos h]
def scan {β : Type} (g : Nat → Bool) (r : Nat → β) (z : β) : Nat → Nat → β
  | 0, _ => z
  | d + 1, i => bif g i then r i else scan g r z d (i + 1)
theorem loop_scan {S β : Type} {n : Nat} {L : Nat → Int → S → β} {σ : Nat → S} {g : Nat → Bool} {r : Nat → β} {z : β}
    (hs : ∀ m i, i < n → (∀ j, j < i → g j = false) → L (m + 1) (i : Int) (σ i) = bif g i then r i else L m ((i + 1 : Nat) : Int) (σ (i + 1)))
    (he : ∀ m, (∀ j, j < n → g j = false) → L (m + 1) (n : Int) (σ n) = z) : ∀ d i m, i + d = n → (∀ j, j < i → g j = false) → d < m → L m (i : Int) (σ i) = scan g r z d i
  | 0, i, m, hd, hb, hm => by
    obtain ⟨m, rfl⟩ : ∃ q, m = q + 1 := ⟨m - 1, by omega⟩
    have : i = n := by omega
    subst this
    exact he m hb
  | d + 1, i, m, hd, hb, hm => by
    obtain ⟨m, rfl⟩ : ∃ q, m = q + 1 := ⟨m - 1, by omega⟩
    rw [hs m i (by omega) hb, scan]
    cases hg : g i with
    | true => rfl
    | false =>
      simp only [cond_false]
      refine loop_scan hs he d (i + 1) m (by omega) (fun j hj => ?_) (by omega)
      by_cases e : j = i
      · subst e; exact hg
      · exact hb j (by omega)
theorem loop0 {β : Type} {n : Nat} {L : Nat → Int → β} {g : Nat → Bool} {r : Nat → β} {z : β}
    (hs : ∀ m i, i < n → (∀ j, j < i → g j = false) → L (m + 1) (i : Int) = bif g i then r i else L m ((i + 1 : Nat) : Int))
    (he : ∀ m, (∀ j, j < n → g j = false) → L (m + 1) (n : Int) = z) {m : Nat} (hm : n < m) : L m 0 = scan g r z n 0 :=
  loop_scan (S := Unit) (L := fun m x _ => L m x) (σ := fun _ => ()) hs he n 0 m (by omega) (fun j hj => by omega) hm
theorem loopS {S β : Type} {n : Nat} {L : Nat → Int → S → β} {σ : Nat → S} {g : Nat → Bool} {r : Nat → β} {z : β}
    (hs : ∀ m i, i < n → (∀ j, j < i → g j = false) → L (m + 1) (i : Int) (σ i) = bif g i then r i else L m ((i + 1 : Nat) : Int) (σ (i + 1)))
    (he : ∀ m, (∀ j, j < n → g j = false) → L (m + 1) (n : Int) (σ n) = z) {m : Nat} (hm : n < m) {s0 : S} (h0 : σ 0 = s0) : L m 0 s0 = scan g r z n 0 := by
  subst h0
  exact loop_scan hs he n 0 m (by omega) (fun j hj => by omega) hm
theorem scan_congr {β : Type} {g g' : Nat → Bool} {r r' : Nat → β} {z z' : β} : ∀ d i, (∀ j, i ≤ j → j < i + d → (∀ q, i ≤ q → q < j → g q = false) → g j = g' j ∧ (g j = true → r j = r' j)) → ((∀ q, i ≤ q → q < i + d → g q = false) → z = z') → scan g r z d i = scan g' r' z' d i
  | 0, i, h, hz => hz (fun q h1 h2 => by omega)
  | d + 1, i, h, hz => by
    obtain ⟨h1, h2⟩ := h i (Nat.le_refl i) (by omega) (fun q a b => by omega)
    simp only [scan]
    rw [← h1]
    cases hg : g i with
    | true => simp only [cond_true]; exact h2 hg
    | false =>
      simp only [cond_false]
      refine scan_congr d (i + 1) (fun j a b hq => h j (by omega) (by omega) (fun q c e => ?_)) (fun hq => hz (fun q a b => ?_))
      · by_cases e2 : q = i
        · subst e2; exact hg
        · exact hq q (by omega) e
      · by_cases e2 : q = i
        · subst e2; exact hg
        · exact hq q (by omega) (by omega)
def anyB (g : Nat → Bool) (n : Nat) : Bool := scan g (fun _ => true) false n 0
theorem scan_map {β γ : Type} (f : β → γ) {g : Nat → Bool} {r : Nat → β} {z : β} : ∀ d i, f (scan g r z d i) = scan g (fun i => f (r i)) (f z) d i
  | 0, _ => rfl
  | d + 1, i => by
    simp only [scan]
    cases g i with
    | true => rfl
    | false => exact scan_map f d (i + 1)
theorem scan_const {β : Type} {g : Nat → Bool} {r z : β} (n : Nat) : scan g (fun _ => r) z n 0 = bif anyB g n then r else z := by
  unfold anyB
  have : ∀ d i, scan g (fun _ => r) z d i = bif scan g (fun _ => true) false d i then r else z := by
    intro d
    induction d with
    | zero => intro i; rfl
    | succ d ih =>
      intro i
      simp only [scan]
      cases g i with
      | true => rfl
      | false => exact ih (i + 1)
  exact this n 0
/-- Either the first place where it holds, or nowhere. -/
theorem scan_cases {β : Type} (g : Nat → Bool) (r : Nat → β) (z : β) : ∀ d i, ((∀ q, i ≤ q → q < i + d → g q = false) ∧ scan g r z d i = z) ∨ ∃ j, i ≤ j ∧ j < i + d ∧ g j = true ∧ (∀ q, i ≤ q → q < j → g q = false) ∧ scan g r z d i = r j
  | 0, i => .inl ⟨fun q a b => by omega, rfl⟩
  | d + 1, i => by
    simp only [scan]
    cases hg : g i with
    | true => exact .inr ⟨i, Nat.le_refl i, by omega, hg, fun q a b => by omega, rfl⟩
    | false =>
      simp only [cond_false]
      rcases scan_cases g r z d (i + 1) with ⟨h1, h2⟩ | ⟨j, h1, h2, h3, h4, h5⟩
      · exact .inl ⟨fun q a b => by
          by_cases e : q = i
          · subst e; exact hg
          · exact h1 q (by omega) (by omega), h2⟩
      · exact .inr ⟨j, by omega, by omega, h3, fun q a b => by
          by_cases e : q = i
          · subst e; exact hg
          · exact h4 q (by omega) b, h5⟩
theorem anyB_iff {g : Nat → Bool} {n : Nat} : anyB g n = true ↔ ∃ i, i < n ∧ g i = true := by
  unfold anyB
  rcases scan_cases g (fun _ => true) false n 0 with ⟨h1, h2⟩ | ⟨j, h1, h2, h3, h4, h5⟩
  · rw [h2]
    exact ⟨fun h => absurd h (by simp), fun ⟨i, hi, hg⟩ => absurd hg (by rw [h1 i (by omega) (by omega)]; simp)⟩
  · rw [h5]
    exact ⟨fun _ => ⟨j, by omega, h3⟩, fun _ => rfl⟩
theorem anyB_false {g : Nat → Bool} {n : Nat} : anyB g n = false ↔ ∀ i, i < n → g i = false := by
  constructor
  · intro h i hi
    cases hg : g i with
    | false => rfl
    | true => rw [anyB_iff.2 ⟨i, hi, hg⟩] at h; cases h
  · intro h
    cases ha : anyB g n with
    | false => rfl
    | true =>
      obtain ⟨i, hi, hg⟩ := anyB_iff.1 ha
      rw [h i hi] at hg; cases hg
theorem anyB_congr {g g' : Nat → Bool} {n : Nat} (h : ∀ i, i < n → (∀ j, j < i → g j = false) → g i = g' i) : anyB g n = anyB g' n :=
  scan_congr n 0 (fun j _ hj hq => ⟨h j (by omega) (fun q hq' => hq q (by omega) hq'), fun _ => rfl⟩) (fun _ => rfl)
/-- Places of a list. -/
def at' {α : Type} (l : List α) (p : α → Bool) (i : Nat) : Bool := match l[i]? with | some x => p x | none => false
theorem at'_eq {α : Type} {l : List α} {p : α → Bool} {i : Nat} (h : i < l.length) : at' l p i = p l[i] := by
  unfold at'
  rw [List.getElem?_eq_getElem h]
theorem anyB_any {α : Type} {l : List α} {p : α → Bool} : anyB (at' l p) l.length = l.any p := by
  cases h : l.any p with
  | true =>
    obtain ⟨x, hx, hp⟩ := List.any_eq_true.1 h
    obtain ⟨i, hi, rfl⟩ := List.getElem_of_mem hx
    exact anyB_iff.2 ⟨i, hi, by rw [at'_eq hi]; exact hp⟩
  | false =>
    rw [List.any_eq_false] at h
    refine anyB_false.2 (fun i hi => ?_)
    rw [at'_eq hi]
    have := h _ (List.getElem_mem hi)
    simpa using this
/-- The first place where it holds, or -1. -/
def pos {α : Type} (l : List α) (p : α → Bool) : Int := scan (at' l p) (fun i => (i : Int)) (-1) l.length 0
theorem pos_cases {α : Type} (l : List α) (p : α → Bool) : ((∀ i (h : i < l.length), p l[i] = false) ∧ pos l p = -1) ∨ ∃ j, ∃ h : j < l.length, p l[j] = true ∧ (∀ i (h : i < l.length), i < j → p l[i] = false) ∧ pos l p = (j : Int) := by
  unfold pos
  rcases scan_cases (at' l p) (fun i => (i : Int)) (-1) l.length 0 with ⟨h1, h2⟩ | ⟨j, h1, h2, h3, h4, h5⟩
  · exact .inl ⟨fun i hi => by rw [← at'_eq (p := p) hi]; exact h1 i (by omega) (by omega), h2⟩
  · refine .inr ⟨j, by omega, ?_, fun i hi hij => ?_, h5⟩
    · rw [← at'_eq (p := p) (show j < l.length by omega)]; exact h3
    · rw [← at'_eq (p := p) hi]; exact h4 i (by omega) hij
theorem pos_any {α : Type} (l : List α) (p : α → Bool) : decide (pos l p ≥ 0) = l.any p := by
  rcases pos_cases l p with ⟨h1, h2⟩ | ⟨j, h1, h2, h3, h4⟩
  · rw [h2]
    have : l.any p = false := by
      rw [List.any_eq_false]
      intro x hx
      obtain ⟨i, hi, rfl⟩ := List.getElem_of_mem hx
      rw [h1 i hi]; simp
    rw [this]; rfl
  · rw [h4]
    have : l.any p = true := List.any_eq_true.2 ⟨l[j], List.getElem_mem h1, h2⟩
    rw [this]
    simp
end Go.Sh

namespace Go.Sh
open Go.AE
set_option linter.unusedVariables false
set_option linter.unusedSimpArgs false
theorem succ_of {k c : Nat} (h : c + 1 ≤ k) : ∃ q, k = q + 1 ∧ c ≤ q := ⟨k - 1, by omega, by omega⟩
def badL (s : Str) (i : Nat) : Bool := at' s (fun c => (!(decide ((c.toNat : Int) ≥ 65) && decide ((c.toNat : Int) ≤ 90))) && (((i : Int) == 0) || (decide ((c.toNat : Int) < 48) || decide ((c.toNat : Int) > 57)))) i
def nameOk (s : Str) : Bool := !anyB (badL s) s.length && (decide ((s.length : Int) ≥ 1) && decide ((s.length : Int) ≤ 8))
theorem dbd_isName {k : Nat} {s : Str} (hk : maxLen + 2 ≤ k) (hs : wfS s) : dbd_IsName k s = some (nameOk s) := by
  obtain ⟨k, rfl, hq⟩ := succ_of hk
  unfold dbd_IsName
  unfold wfS at hs
  refine Eq.trans (loop0 (L := fun m x => dbd_IsName_L1 s _ m x) (n := s.length) (g := badL s) (r := fun _ => some false) (z := some (decide ((s.length : Int) ≥ 1) && decide ((s.length : Int) ≤ 8))) ?_ ?_ (by omega)) ?_
  rotate_left 2
  · rw [scan_const]
    unfold nameOk
    cases anyB (badL s) s.length <;> rfl
  · intro m i hi _
    simp only [dbd_IsName_L1, badL, at'_eq hi, idxS_at hi, wrap_next hi hs, Option.bind_some, show decide ((i : Int) < (s.length : Int)) = true by simp; exact hi, cond_true]
    cases decide ((s[i].toNat : Int) ≥ 65) <;> cases decide ((s[i].toNat : Int) ≤ 90) <;> cases ((i : Int) == 0) <;> cases decide ((s[i].toNat : Int) < 48) <;> cases decide ((s[i].toNat : Int) > 57) <;> rfl
  · intro m _
    simp only [dbd_IsName_L1, show decide ((s.length : Int) < (s.length : Int)) = false by simp, cond_false]
    cases decide ((s.length : Int) ≥ 1) <;> cases decide ((s.length : Int) ≤ 8) <;> rfl
theorem ref11_IsName_L1_eq (a : Str) (K : Int → Option Bool) : ∀ m x, ref11_IsName_L1 a K m x = dbd_IsName_L1 a K m x := by
  intro m
  induction m with
  | zero => intro x; rfl
  | succ m ih => intro x; simp only [ref11_IsName_L1, dbd_IsName_L1, ih]
theorem ref11_isName {k : Nat} {s : Str} (hk : maxLen + 2 ≤ k) (hs : wfS s) : ref11_IsName k s = some (nameOk s) := by
  rw [← dbd_isName hk hs]
  cases k with
  | zero => rfl
  | succ k => simp only [ref11_IsName, dbd_IsName, ref11_IsName_L1_eq]
theorem indexFunc_gen {α : Type} {l : List α} {p : α → Bool} {f : α → Option Bool} (hp : ∀ x ∈ l, f x = some (p x)) {L : Nat → Int → Option Int} {K0 : Int → Option Int}
    (hL : ∀ m x, L (m + 1) x = (bif decide (x < (l.length : Int)) then (((idx l x).bind f).bind fun o => (bif o then (some x) else L m (Go.IntKind.wrap .i64 (x + 1)))) else K0 x))
    (hK : K0 (l.length : Int) = some (-1)) (hn : l.length ≤ maxLen) {m : Nat} (hm : l.length < m) : L m 0 = some (pos l p) := by
  refine Eq.trans (loop0 (L := L) (n := l.length) (g := at' l p) (r := fun i => some (i : Int)) (z := some (-1)) ?_ ?_ hm) ?_
  rotate_left 2
  · unfold pos
    rw [scan_map some]
  · intro m i hi _
    rw [hL, at'_eq hi]
    simp only [show decide ((i : Int) < (l.length : Int)) = true by simp; exact hi, cond_true, idx_at hi, Option.bind_some, hp _ (List.getElem_mem hi), wrap_next hi hn]
  · intro m _
    rw [hL]
    simp only [show decide ((l.length : Int) < (l.length : Int)) = false by simp, cond_false, hK]
theorem indexFunc_Field {k : Nat} {l : List T_api_Field} {p : T_api_Field → Bool} {f : Nat → T_api_Field → Option Bool} (hk : l.length + 2 ≤ k) (hn : l.length ≤ maxLen) (hp : ∀ k', k' + 1 = k → ∀ x ∈ l, f k' x = some (p x)) : slices_IndexFunc_Field k l f = some (pos l p) := by
  obtain ⟨k, rfl, hq⟩ := succ_of hk
  exact indexFunc_gen (hp k rfl) (L := fun m x => slices_IndexFunc_Field_L1 k l f _ m x) (fun m x => rfl) rfl hn (by omega)
theorem indexFunc_Type {k : Nat} {l : List T_api_Type} {p : T_api_Type → Bool} {f : Nat → T_api_Type → Option Bool} (hk : l.length + 2 ≤ k) (hn : l.length ≤ maxLen) (hp : ∀ k', k' + 1 = k → ∀ x ∈ l, f k' x = some (p x)) : slices_IndexFunc_Type k l f = some (pos l p) := by
  obtain ⟨k, rfl, hq⟩ := succ_of hk
  exact indexFunc_gen (hp k rfl) (L := fun m x => slices_IndexFunc_Type_L1 k l f _ m x) (fun m x => rfl) rfl hn (by omega)
theorem indexFunc_Search {k : Nat} {l : List T_api_Search} {p : T_api_Search → Bool} {f : Nat → T_api_Search → Option Bool} (hk : l.length + 2 ≤ k) (hn : l.length ≤ maxLen) (hp : ∀ k', k' + 1 = k → ∀ x ∈ l, f k' x = some (p x)) : slices_IndexFunc_Search k l f = some (pos l p) := by
  obtain ⟨k, rfl, hq⟩ := succ_of hk
  exact indexFunc_gen (hp k rfl) (L := fun m x => slices_IndexFunc_Search_L1 k l f _ m x) (fun m x => rfl) rfl hn (by omega)
theorem indexFunc_int {k : Nat} {l : List Int} {p : Int → Bool} {f : Nat → Int → Option Bool} (hk : l.length + 2 ≤ k) (hn : l.length ≤ maxLen) (hp : ∀ k', k' + 1 = k → ∀ x ∈ l, f k' x = some (p x)) : slices_IndexFunc_int k l f = some (pos l p) := by
  obtain ⟨k, rfl, hq⟩ := succ_of hk
  exact indexFunc_gen (hp k rfl) (L := fun m x => slices_IndexFunc_int_L1 k l f _ m x) (fun m x => rfl) rfl hn (by omega)
theorem index_int {k : Nat} {l : List Int} {y : Int} (hk : l.length + 2 ≤ k) (hn : l.length ≤ maxLen) : slices_Index_int k l y = some (pos l (fun x => y == x)) := by
  obtain ⟨k, rfl, hq⟩ := succ_of hk
  exact indexFunc_gen (f := fun x => some (y == x)) (fun x _ => rfl) (L := fun m x => slices_Index_int_L1 l y _ m x) (fun m x => rfl) rfl hn (by omega)
theorem containsFunc_Field {k : Nat} {l : List T_api_Field} {p : T_api_Field → Bool} {f : Nat → T_api_Field → Option Bool} (hk : l.length + 3 ≤ k) (hn : l.length ≤ maxLen) (hp : ∀ k', k' + 2 = k → ∀ x ∈ l, f k' x = some (p x)) : slices_ContainsFunc_Field k l f = some (l.any p) := by
  obtain ⟨k, rfl, hq⟩ := succ_of hk
  simp only [slices_ContainsFunc_Field, indexFunc_Field hq hn (fun k' e => hp k' (by omega)), Option.bind_some, pos_any]
theorem containsFunc_Type {k : Nat} {l : List T_api_Type} {p : T_api_Type → Bool} {f : Nat → T_api_Type → Option Bool} (hk : l.length + 3 ≤ k) (hn : l.length ≤ maxLen) (hp : ∀ k', k' + 2 = k → ∀ x ∈ l, f k' x = some (p x)) : slices_ContainsFunc_Type k l f = some (l.any p) := by
  obtain ⟨k, rfl, hq⟩ := succ_of hk
  simp only [slices_ContainsFunc_Type, indexFunc_Type hq hn (fun k' e => hp k' (by omega)), Option.bind_some, pos_any]
theorem containsFunc_Search {k : Nat} {l : List T_api_Search} {p : T_api_Search → Bool} {f : Nat → T_api_Search → Option Bool} (hk : l.length + 3 ≤ k) (hn : l.length ≤ maxLen) (hp : ∀ k', k' + 2 = k → ∀ x ∈ l, f k' x = some (p x)) : slices_ContainsFunc_Search k l f = some (l.any p) := by
  obtain ⟨k, rfl, hq⟩ := succ_of hk
  simp only [slices_ContainsFunc_Search, indexFunc_Search hq hn (fun k' e => hp k' (by omega)), Option.bind_some, pos_any]
theorem containsFunc_int {k : Nat} {l : List Int} {p : Int → Bool} {f : Nat → Int → Option Bool} (hk : l.length + 3 ≤ k) (hn : l.length ≤ maxLen) (hp : ∀ k', k' + 2 = k → ∀ x ∈ l, f k' x = some (p x)) : slices_ContainsFunc_int k l f = some (l.any p) := by
  obtain ⟨k, rfl, hq⟩ := succ_of hk
  simp only [slices_ContainsFunc_int, indexFunc_int hq hn (fun k' e => hp k' (by omega)), Option.bind_some, pos_any]
theorem anyB_take {α : Type} {l : List α} {p : α → Bool} {i : Nat} (h : i ≤ l.length) : anyB (at' l p) i = (l.take i).any p := by
  rw [← anyB_any]
  rw [List.length_take, Nat.min_eq_left h]
  refine anyB_congr (fun j hj _ => ?_)
  rw [at'_eq (by omega), at'_eq (by rw [List.length_take]; omega)]
  congr 1
  simp
def badField (size : Int) (fs : List T_api_Field) (i : Nat) : Bool :=
  at' fs (fun f => ((!nameOk f.fName) || (decide (f.fAt < 0) || (decide (f.fAt ≥ size) || (decide (f.fBytes < 1) || decide (f.fBytes > Go.IntKind.wrap .i64 (size - f.fAt)))))) || (fs.take i).any (fun g => g.fName == f.fName)) i
theorem dbd_areFields_spec {k : Nat} {fs : List T_api_Field} {size : Int} (hk : maxLen + 5 ≤ k) (hw : wfL wf_T_api_Field fs) : dbd_areFields k fs size = some (!anyB (badField size fs) fs.length && decide ((fs.length : Int) ≤ 5)) := by
  obtain ⟨k, rfl, hq⟩ := succ_of hk
  unfold dbd_areFields
  obtain ⟨hl, hw⟩ := hw
  refine Eq.trans (loop0 (L := fun m x => dbd_areFields_L1 k fs size _ m x) (n := fs.length) (g := badField size fs) (r := fun _ => some false) (z := some (decide ((fs.length : Int) ≤ 5))) ?_ ?_ (by omega)) ?_
  rotate_left 2
  · rw [scan_const]
    cases anyB (badField size fs) fs.length <;> rfl
  · intro m i hi _
    have h1 := hw _ (List.getElem_mem hi)
    have hc : slices_ContainsFunc_Field k (fs.take i) (fun j x0 => dbd_areFields_1 j x0 fs[i]) = some ((fs.take i).any (fun g => g.fName == fs[i].fName)) := by
      refine containsFunc_Field (by rw [List.length_take]; omega) (by rw [List.length_take]; omega) (fun k' e x hx => ?_)
      obtain ⟨k', rfl, _⟩ := succ_of (show 0 + 1 ≤ k' by omega)
      rfl
    simp only [dbd_areFields_L1, badField, at'_eq hi, idx_at hi, wrap_next hi hl, Option.bind_some, show decide ((i : Int) < (fs.length : Int)) = true by simp; exact hi, cond_true, dbd_isName (show maxLen + 2 ≤ k by omega) h1.1, cut_take (show i ≤ fs.length by omega), hc]
    cases nameOk fs[i].fName <;> cases decide (fs[i].fAt < 0) <;> cases decide (fs[i].fAt ≥ size) <;> cases decide (fs[i].fBytes < 1) <;> cases decide (fs[i].fBytes > Go.IntKind.wrap .i64 (size - fs[i].fAt)) <;> cases (fs.take i).any (fun g => g.fName == fs[i].fName) <;> rfl
  · intro m _
    simp only [dbd_areFields_L1, show decide ((fs.length : Int) < (fs.length : Int)) = false by simp, cond_false]
def keyFit (t : T_api_Type) : Bool := match idx t.fFields t.fKey with | some f => decide ((Go.IntKind.wrap .i64 (f.fAt + f.fBytes)) ≤ t.fMin) | none => false
def fieldsOk (t : T_api_Type) : Bool := !anyB (badField t.fSize t.fFields) t.fFields.length && decide ((t.fFields.length : Int) ≤ 5)
def keyOk (t : T_api_Type) : Bool := bif (t.fKey == (-1)) then !t.fUnique else !(decide (t.fKey < 0) || decide (t.fKey ≥ (t.fFields.length : Int))) && keyFit t
def typeOk (t : T_api_Type) : Bool := !((!nameOk t.fName) || (decide (t.fMin < 1) || (decide (t.fMin > t.fSize) || (decide (t.fSize > 40) || !fieldsOk t)))) && keyOk t
theorem dbd_isType_spec {k : Nat} {t : T_api_Type} (hk : maxLen + 6 ≤ k) (hw : wf_T_api_Type t) : dbd_isType k t = some (typeOk t) := by
  obtain ⟨k, rfl, hq⟩ := succ_of hk
  obtain ⟨h1, _, _, _, h5, _⟩ := hw
  simp only [dbd_isType, dbd_isName (show maxLen + 2 ≤ k by omega) h1, dbd_areFields_spec (show maxLen + 5 ≤ k by omega) h5, Option.bind_some]
  unfold typeOk fieldsOk keyOk keyFit
  generalize (!anyB (badField t.fSize t.fFields) t.fFields.length && decide ((t.fFields.length : Int) ≤ 5)) = fo
  cases hx : idx t.fFields t.fKey with
  | none =>
    -- then the key is out of range
    have : decide (t.fKey < 0) = true ∨ decide (t.fKey ≥ (t.fFields.length : Int)) = true := by
      simp only [decide_eq_true_eq]
      by_cases h0 : t.fKey < 0
      · exact .inl h0
      · by_cases h2 : t.fKey ≥ (t.fFields.length : Int)
        · exact .inr h2
        · rw [idx_of (by omega) (by omega)] at hx; cases hx
    cases nameOk t.fName <;> cases decide (t.fMin < 1) <;> cases decide (t.fMin > t.fSize) <;> cases decide (t.fSize > 40) <;> cases fo <;> try rfl
    rcases this with h | h
    · rw [h]; cases (t.fKey == (-1)) <;> rfl
    · rw [h]; cases (t.fKey == (-1)) <;> cases decide (t.fKey < 0) <;> rfl
  | some f =>
    simp only [Option.bind_some]
    cases nameOk t.fName <;> cases decide (t.fMin < 1) <;> cases decide (t.fMin > t.fSize) <;> cases decide (t.fSize > 40) <;> cases fo <;> cases (t.fKey == (-1)) <;> cases decide (t.fKey < 0) <;> cases decide (t.fKey ≥ (t.fFields.length : Int)) <;> rfl
/-- The reference's fields. -/
def fieldsR (t : T_api_Type) : Bool := !anyB (badField t.fSize t.fFields) t.fFields.length && (!(decide (t.fKey < (-1)) || (decide (t.fKey ≥ (t.fFields.length : Int)) || (decide (t.fKey < 0) && t.fUnique))) && (decide ((t.fFields.length : Int) ≤ 5) && (decide (t.fKey < 0) || keyFit t)))
theorem ref11_fields_spec {k : Nat} {t : T_api_Type} (hk : maxLen + 5 ≤ k) (hw : wf_T_api_Type t) : ref11_fields k t = some (fieldsR t) := by
  obtain ⟨k, rfl, hq⟩ := succ_of hk
  unfold ref11_fields
  obtain ⟨_, _, _, _, ⟨hl, hw⟩, _⟩ := hw
  refine Eq.trans (loop0 (L := fun m x => ref11_fields_L1 k t _ m x) (n := t.fFields.length) (g := badField t.fSize t.fFields) (r := fun _ => some false) (z := some (!(decide (t.fKey < (-1)) || (decide (t.fKey ≥ (t.fFields.length : Int)) || (decide (t.fKey < 0) && t.fUnique))) && (decide ((t.fFields.length : Int) ≤ 5) && (decide (t.fKey < 0) || keyFit t)))) ?_ ?_ (by omega)) ?_
  rotate_left 2
  · rw [scan_const]
    unfold fieldsR
    cases anyB (badField t.fSize t.fFields) t.fFields.length <;> rfl
  · intro m i hi _
    have h1 := hw _ (List.getElem_mem hi)
    simp only [ref11_fields_L1, badField, at'_eq hi, idx_at hi, wrap_next hi hl, Option.bind_some, show decide ((i : Int) < (t.fFields.length : Int)) = true by simp; exact hi, cond_true, ref11_isName (show maxLen + 2 ≤ k by omega) h1.1]
    have hin : ∀ (K : Option Bool), ref11_fields_L2 t (i : Int) t.fFields[i] (fun _ => K) k 0 = bif (t.fFields.take i).any (fun g => g.fName == t.fFields[i].fName) then some false else K := by
      intro K
      rw [← anyB_take (show i ≤ t.fFields.length by omega)]
      refine Eq.trans (loop0 (L := fun m x => ref11_fields_L2 t (i : Int) t.fFields[i] _ m x) (n := i) (g := at' t.fFields (fun g => g.fName == t.fFields[i].fName)) (r := fun _ => some false) (z := K) ?_ ?_ (by omega)) (scan_const i)
      · intro m j hj _
        have hj' : j < t.fFields.length := by omega
        simp only [ref11_fields_L2, at'_eq hj', idx_at hj', wrap_next hj' hl, Option.bind_some, show decide ((j : Int) < (i : Int)) = true by simp; exact hj, cond_true]
      · intro m _
        simp only [ref11_fields_L2, show decide ((i : Int) < (i : Int)) = false by simp, cond_false]
    rw [hin]
    -- 'at' may be at the end in the reference: then no byte is left
    by_cases he : t.fFields[i].fAt = t.fSize
    · have e1 : decide (t.fFields[i].fAt > t.fSize) = false := by simp; omega
      have e2 : decide (t.fFields[i].fAt ≥ t.fSize) = true := by simp; omega
      have e3 : Go.IntKind.wrap .i64 (t.fSize - t.fFields[i].fAt) = 0 := by rw [he, Int.sub_self]; rfl
      rw [e1, e2, e3]
      have e4 : (decide (t.fFields[i].fBytes < 1) || decide (t.fFields[i].fBytes > 0)) = true := by
        simp only [Bool.or_eq_true, decide_eq_true_eq]; omega
      cases nameOk t.fFields[i].fName <;> cases decide (t.fFields[i].fAt < 0) <;> cases h : decide (t.fFields[i].fBytes < 1) <;> cases h' : decide (t.fFields[i].fBytes > 0) <;> first | rfl | (rw [h, h'] at e4; cases e4)
    · have e1 : decide (t.fFields[i].fAt > t.fSize) = decide (t.fFields[i].fAt ≥ t.fSize) := by
        apply decide_eq_decide.2; omega
      rw [e1]
      cases nameOk t.fFields[i].fName <;> cases decide (t.fFields[i].fAt < 0) <;> cases decide (t.fFields[i].fAt ≥ t.fSize) <;> cases decide (t.fFields[i].fBytes < 1) <;> cases decide (t.fFields[i].fBytes > Go.IntKind.wrap .i64 (t.fSize - t.fFields[i].fAt)) <;> rfl
  · intro m _
    simp only [ref11_fields_L1, show decide ((t.fFields.length : Int) < (t.fFields.length : Int)) = false by simp, cond_false]
    unfold keyFit
    cases hx : idx t.fFields t.fKey with
    | none =>
      have : decide (t.fKey < 0) = true ∨ decide (t.fKey ≥ (t.fFields.length : Int)) = true := by
        simp only [decide_eq_true_eq]
        by_cases h0 : t.fKey < 0
        · exact .inl h0
        · by_cases h2 : t.fKey ≥ (t.fFields.length : Int)
          · exact .inr h2
          · rw [idx_of (by omega) (by omega)] at hx; cases hx
      cases h1 : decide (t.fKey < (-1)) <;> cases h2 : decide (t.fKey ≥ (t.fFields.length : Int)) <;> cases h3 : decide (t.fKey < 0) <;> cases t.fUnique <;> cases decide ((t.fFields.length : Int) ≤ 5) <;> first | rfl | (rw [h2, h3] at this; simp at this)
    | some f =>
      simp only [Option.bind_some]
      cases decide (t.fKey < (-1)) <;> cases decide (t.fKey ≥ (t.fFields.length : Int)) <;> cases decide (t.fKey < 0) <;> cases t.fUnique <;> cases decide ((t.fFields.length : Int) ≤ 5) <;> rfl
/-- They agree. -/
theorem fieldsR_eq (t : T_api_Type) : fieldsR t = (fieldsOk t && keyOk t) := by
  unfold fieldsR fieldsOk keyOk
  have hb : ∀ x : Bool, (decide ((t.fFields.length : Int) ≤ 5) && x) = (x && decide ((t.fFields.length : Int) ≤ 5)) := fun x => Bool.and_comm _ _
  have key : (!(decide (t.fKey < (-1)) || (decide (t.fKey ≥ (t.fFields.length : Int)) || (decide (t.fKey < 0) && t.fUnique))) && (decide (t.fKey < 0) || keyFit t)) =
      (bif (t.fKey == (-1)) then !t.fUnique else !(decide (t.fKey < 0) || decide (t.fKey ≥ (t.fFields.length : Int))) && keyFit t) := by
    by_cases h1 : t.fKey = -1
    · have e1 : decide (t.fKey < (-1)) = false := by simp; omega
      have e2 : decide (t.fKey ≥ (t.fFields.length : Int)) = false := by simp; omega
      have e3 : decide (t.fKey < 0) = true := by simp; omega
      have e4 : (t.fKey == (-1)) = true := by simp; exact h1
      rw [e1, e2, e3, e4]
      cases t.fUnique <;> rfl
    · have e4 : (t.fKey == (-1)) = false := by simp; exact h1
      rw [e4]
      by_cases h2 : t.fKey < 0
      · have e1 : decide (t.fKey < (-1)) = true := by simp; omega
        have e3 : decide (t.fKey < 0) = true := by simp; omega
        rw [e1, e3]; rfl
      · have e1 : decide (t.fKey < (-1)) = false := by simp; omega
        have e3 : decide (t.fKey < 0) = false := by simp; omega
        rw [e1, e3]
        cases decide (t.fKey ≥ (t.fFields.length : Int)) <;> rfl
  rw [Bool.and_assoc, ← key]
  congr 1
  cases decide ((t.fFields.length : Int) ≤ 5) <;> simp
end Go.Sh

namespace Go.Sh
open Go.AE
set_option linter.unusedVariables false
set_option linter.unusedSimpArgs false
/-- From the root to 'x'. -/
def chain (ts : List T_api_Type) : Nat → Int → List Int
  | 0, _ => []
  | d + 1, x => if 0 ≤ x then (match ts[x.toNat]? with | some t => chain ts d t.fParent ++ [x] | none => []) else []
def way (ts : List T_api_Type) (x : Nat) : List Int := chain ts (x + 1) (x : Int)
/-- Parents come first, below 'n'. -/
def Up (ts : List T_api_Type) (n : Nat) : Prop := ∀ j (h : j < ts.length), j < n → (ts[j]).fParent < (j : Int)
theorem Up.mono {ts : List T_api_Type} {n m : Nat} (h : Up ts n) (hm : m ≤ n) : Up ts m := fun j hj hjm => h j hj (by omega)
theorem chain_neg {ts : List T_api_Type} {d : Nat} {x : Int} (h : x < 0) : chain ts d x = [] := by
  cases d with
  | zero => rfl
  | succ d => rw [chain, if_neg (by omega)]
theorem chain_stable {ts : List T_api_Type} {n : Nat} (hu : Up ts n) : ∀ (d d' : Nat) (x : Int), x < (d : Int) → x < (d' : Int) → x < (n : Int) → chain ts d x = chain ts d' x
  | 0, d', x, h, h', hn => by rw [chain_neg (d := 0) (by omega), chain_neg (by omega)]
  | d + 1, 0, x, h, h', hn => by rw [chain_neg (by omega), chain_neg (by omega)]
  | d + 1, d' + 1, x, h, h', hn => by
    by_cases h0 : 0 ≤ x
    · simp only [chain, if_pos h0]
      cases ht : ts[x.toNat]? with
      | none => rfl
      | some t =>
        have hlt : x.toNat < ts.length := by
          rcases Nat.lt_or_ge x.toNat ts.length with h1 | h1
          · exact h1
          · rw [List.getElem?_eq_none h1] at ht; cases ht
        have he : ts[x.toNat] = t := by rw [List.getElem?_eq_getElem hlt] at ht; exact Option.some.inj ht
        have := hu x.toNat hlt (by omega)
        rw [he] at this
        simp only
        rw [chain_stable hu d d' t.fParent (by omega) (by omega) (by omega)]
    · rw [chain_neg (by omega), chain_neg (by omega)]
theorem chain_way {ts : List T_api_Type} {n d : Nat} (hu : Up ts n) {x : Int} (h0 : 0 ≤ x) (hd : x < (d : Int)) (hn : x < (n : Int)) : chain ts d x = way ts x.toNat := by
  unfold way
  rw [show ((x.toNat : Nat) : Int) = x by omega]
  exact chain_stable hu _ _ x hd (by omega) hn
theorem way_succ {ts : List T_api_Type} {n x : Nat} (hu : Up ts n) (hn : x < n) (hx : x < ts.length) : way ts x = chain ts n (ts[x]).fParent ++ [(x : Int)] := by
  unfold way
  rw [chain, if_pos (by omega), Int.toNat_natCast, List.getElem?_eq_getElem hx]
  simp only
  have := hu x hx hn
  rw [chain_stable hu x n _ this (by omega) (by omega)]
theorem chain_lt {ts : List T_api_Type} {n : Nat} (hu : Up ts n) : ∀ (d : Nat) (x : Int), x < (n : Int) → ∀ y ∈ chain ts d x, 0 ≤ y ∧ y ≤ x
  | 0, _, _, y, hy => by cases hy
  | d + 1, x, hn, y, hy => by
    by_cases h0 : 0 ≤ x
    · simp only [chain, if_pos h0] at hy
      cases ht : ts[x.toNat]? with
      | none => rw [ht] at hy; cases hy
      | some t =>
        rw [ht] at hy
        have hlt : x.toNat < ts.length := by
          rcases Nat.lt_or_ge x.toNat ts.length with h1 | h1
          · exact h1
          · rw [List.getElem?_eq_none h1] at ht; cases ht
        have he : ts[x.toNat] = t := by rw [List.getElem?_eq_getElem hlt] at ht; exact Option.some.inj ht
        have hp := hu x.toNat hlt (by omega)
        rw [he] at hp
        simp only [List.mem_append, List.mem_singleton] at hy
        rcases hy with hy | hy
        · have := chain_lt hu d t.fParent (by omega) y hy
          omega
        · omega
    · rw [chain_neg (by omega)] at hy; cases hy
theorem chain_len {ts : List T_api_Type} : ∀ (d : Nat) (x : Int), (chain ts d x).length ≤ d
  | 0, _ => Nat.le_refl 0
  | d + 1, x => by
    rw [chain]
    split
    · split
      · have := chain_len (ts := ts) d (by assumption : T_api_Type).fParent
        simp
        omega
      · exact Nat.zero_le _
    · exact Nat.zero_le _
theorem pos_eq {α : Type} {l : List α} {p : α → Bool} {j : Nat} (h : j < l.length) (hp : p l[j] = true) (hb : ∀ i (h : i < l.length), i < j → p l[i] = false) : pos l p = (j : Int) := by
  rcases pos_cases l p with ⟨h1, _⟩ | ⟨q, h1, h2, h3, h4⟩
  · rw [h1 j h] at hp; cases hp
  · rw [h4]
    rcases Nat.lt_trichotomy q j with h5 | h5 | h5
    · rw [hb q h1 h5] at h2; cases h2
    · rw [h5]
    · rw [h3 j h h5] at hp; cases hp
theorem pos_none {α : Type} {l : List α} {p : α → Bool} (h : l.any p = false) : pos l p = -1 := by
  rcases pos_cases l p with ⟨_, h2⟩ | ⟨j, h1, h2, _, _⟩
  · exact h2
  · rw [List.any_eq_false] at h
    have := h _ (List.getElem_mem h1)
    rw [h2] at this; simp at this
/-- Up to one that is on the way: its own way. -/
theorem way_cut {ts : List T_api_Type} {n : Nat} (hu : Up ts n) : ∀ (d : Nat) (x : Int), x < (d : Int) → x < (n : Int) → ∀ y : Int, y ∈ chain ts d x → (chain ts d x).take ((pos (chain ts d x) (fun z => y == z)) + 1).toNat = way ts y.toNat
  | 0, _, _, _, y, hy => by cases hy
  | d + 1, x, hd, hn, y, hy => by
    by_cases h0 : 0 ≤ x
    · have hy1 := hy
      simp only [chain, if_pos h0] at hy1 ⊢
      cases ht : ts[x.toNat]? with
      | none => rw [ht] at hy1; cases hy1
      | some t =>
        rw [ht] at hy1
        simp only at hy1 ⊢
        have hlt : x.toNat < ts.length := by
          rcases Nat.lt_or_ge x.toNat ts.length with h1 | h1
          · exact h1
          · rw [List.getElem?_eq_none h1] at ht; cases ht
        have he : ts[x.toNat] = t := by rw [List.getElem?_eq_getElem hlt] at ht; exact Option.some.inj ht
        have hp := hu x.toNat hlt (by omega)
        rw [he] at hp
        have hlow := chain_lt hu d t.fParent (by omega)
        by_cases hyx : y = x
        · subst hyx
          have hps : pos (chain ts d t.fParent ++ [y]) (fun z => y == z) = ((chain ts d t.fParent).length : Int) := by
            refine pos_eq (by simp) (by simp) (fun i hi hij => ?_)
            rw [List.getElem_append_left hij]
            have := hlow _ (List.getElem_mem hij)
            simp only [beq_eq_false_iff_ne, ne_eq]
            omega
          rw [hps]
          have e1 : (((chain ts d t.fParent).length : Int) + 1).toNat = (chain ts d t.fParent).length + 1 := by omega
          rw [e1, List.take_of_length_le (by simp)]
          rw [way_succ hu (show y.toNat < n by omega) hlt, he]
          rw [chain_stable hu d n t.fParent (by omega) (by omega) (by omega)]
          rw [show ((y.toNat : Nat) : Int) = y by omega]
        · have hy2 : y ∈ chain ts d t.fParent := by
            simp only [List.mem_append, List.mem_singleton] at hy1
            rcases hy1 with h | h
            · exact h
            · exact absurd h hyx
          rcases pos_cases (chain ts d t.fParent) (fun z => y == z) with ⟨g1, _⟩ | ⟨j, g1, g2, g3, g4⟩
          · obtain ⟨i, hi, he2⟩ := List.getElem_of_mem hy2
            have := g1 i hi
            rw [he2] at this; simp at this
          · have hps : pos (chain ts d t.fParent ++ [x]) (fun z => y == z) = (j : Int) := by
              refine pos_eq (by simp; omega) (by rw [List.getElem_append_left g1]; exact g2) (fun i hi hij => ?_)
              rw [List.getElem_append_left (by omega)]
              exact g3 i (by omega) hij
            have ih := way_cut hu d t.fParent (by omega) (by omega) y hy2
            rw [g4] at ih
            rw [hps, List.take_append_of_le_length (by omega)]
            exact ih
    · rw [chain_neg (by omega)] at hy; cases hy
def dupType (ts : List T_api_Type) (i : Nat) : Bool := at' ts (fun t => (ts.take i).any (fun g => g.fName == t.fName)) i
def rootBad (t : T_api_Type) : Bool := (t.fParent != (-1)) || (decide (t.fKey < 0) || (!t.fUnique || (match idx t.fFields t.fKey with | some f => decide (f.fBytes > 24) | none => true)))
def before (ts : List T_api_Type) : Nat → List Int
  | 0 => []
  | i + 1 => way ts i
def badType (ts : List T_api_Type) (i : Nat) : Bool := at' ts (fun t => (!typeOk t || dupType ts i) || ((bif Nat.beq i 0 then rootBad t else !(before ts i).any (fun z => t.fParent == z)) || decide (((way ts i).length : Int) > 5))) i
def typesOk (ts : List T_api_Type) : Bool := !(decide ((ts.length : Int) < 1) || decide ((ts.length : Int) > 8)) && !anyB (badType ts) ts.length
/-- As long as no type is bad, parents come first. -/
theorem up_of {ts : List T_api_Type} : ∀ (n : Nat), (∀ j, j < n → badType ts j = false) → Up ts n
  | 0, _ => fun j _ h => by omega
  | n + 1, h => by
    have ih := up_of n (fun j hj => h j (by omega))
    intro j hj hjn
    by_cases e : j < n
    · exact ih j hj e
    · have hjn' : j = n := by omega
      subst hjn'
      have hb := h j (by omega)
      rw [badType, at'_eq hj] at hb
      cases j with
      | zero =>
        simp only [Bool.or_eq_false_iff, show Nat.beq 0 0 = true from rfl, cond_true, rootBad] at hb
        have := hb.2.1.1
        simp at this
        omega
      | succ q =>
        simp only [Bool.or_eq_false_iff, show Nat.beq (q + 1) 0 = false from rfl, cond_false] at hb
        have h2 := hb.2.1
        simp only [Bool.not_eq_false', List.any_eq_true] at h2
        obtain ⟨z, hz, he⟩ := h2
        have hz' : z ∈ way ts q := hz
        have := chain_lt ih (q + 1) q (by omega) z hz'
        have he' : (ts[q + 1]).fParent = z := by simpa using he
        omega
theorem dbd_areTypes_spec {k : Nat} {ts : List T_api_Type} (hk : maxLen + 8 ≤ k) (hw : wfL wf_T_api_Type ts) : dbd_areTypes k ts = some (typesOk ts) := by
  obtain ⟨k, rfl, hq⟩ := succ_of hk
  obtain ⟨hl, hw⟩ := hw
  have e63 := maxLen_eq
  unfold dbd_areTypes typesOk
  by_cases hlen : 1 ≤ ts.length ∧ ts.length ≤ 8
  · obtain ⟨hlen1, hlen2⟩ := hlen
    simp only [show decide ((ts.length : Int) < 1) = false by simp; omega, show decide ((ts.length : Int) > 8) = false by simp; omega, cond_false, Option.bind_some, Bool.or_false, Bool.not_false, Bool.true_and]
    refine Eq.trans (loopS (L := fun m x s => dbd_areTypes_L1 k ts _ m x s) (n := ts.length) (σ := before ts) (g := badType ts) (r := fun _ => some false) (z := some true) ?_ ?_ (by omega) rfl) ?_
    rotate_left 2
    · rw [scan_const]
      cases anyB (badType ts) ts.length <;> rfl
    · intro m i hi hb
      have h1 := hw _ (List.getElem_mem hi)
      have hup := up_of i hb
      have hc : slices_ContainsFunc_Type k (ts.take i) (fun j x0 => dbd_areTypes_1 j x0 ts[i]) = some (dupType ts i) := by
        rw [dupType, at'_eq hi]
        refine containsFunc_Type (by rw [List.length_take]; omega) (by rw [List.length_take]; omega) (fun k' e x hx => ?_)
        obtain ⟨k', rfl, _⟩ := succ_of (show 0 + 1 ≤ k' by omega)
        rfl
      have hbl : (before ts i).length ≤ 8 := by
        cases i with
        | zero => exact Nat.zero_le _
        | succ q => have := chain_len (ts := ts) (q + 1) q; show (way ts q).length ≤ 8; unfold way; omega
      simp only [dbd_areTypes_L1, idx_at hi, wrap_next hi hl, Option.bind_some, show decide ((i : Int) < (ts.length : Int)) = true by simp; exact hi, cond_true, dbd_isType_spec (show maxLen + 6 ≤ k by omega) h1, cut_take (show i ≤ ts.length by omega), hc,
        index_int (show (before ts i).length + 2 ≤ k by omega) (show (before ts i).length ≤ maxLen by omega)]
      rw [badType, at'_eq hi]
      cases hto : typeOk ts[i] with
      | false => rfl
      | true =>
        cases hdt : dupType ts i with
        | true => rfl
        | false =>
          simp only [Bool.not_true, cond_false, Option.bind_some, Bool.or_false, Bool.false_or]
          cases i with
          | zero =>
            simp only [show (((0 : Nat) : Int) == 0) = true from rfl, cond_true, show Nat.beq 0 0 = true from rfl, show decide (((0 : Nat) : Int) > 0) = false from rfl, cond_false]
            have hroot : (bif ((ts[0]).fParent != (-1)) then (some (true)) else (bif (decide ((ts[0]).fKey < 0)) then (some (true)) else (bif (!(ts[0]).fUnique) then (some (true)) else ((idx (ts[0]).fFields (ts[0]).fKey).bind fun v25 => (bif (decide (v25.fBytes > 24)) then (some (true)) else some false))))) = some (rootBad ts[0]) := by
              unfold rootBad
              cases hx : idx (ts[0]).fFields (ts[0]).fKey with
              | none =>
                -- the key of a type that is right is there, or negative
                have hneg : decide ((ts[0]).fKey < 0) = true := by
                  simp only [decide_eq_true_eq]
                  by_cases h0 : (ts[0]).fKey < 0
                  · exact h0
                  · exfalso
                    have hko : keyOk ts[0] = true := by
                      unfold typeOk at hto
                      simp only [Bool.and_eq_true] at hto
                      exact hto.2
                    unfold keyOk at hko
                    have : ((ts[0]).fKey == (-1)) = false := by simp; omega
                    rw [this, cond_false] at hko
                    unfold keyFit at hko
                    rw [hx] at hko
                    simp at hko
                rw [hneg]
                cases ((ts[0]).fParent != (-1)) <;> rfl
              | some f =>
                simp only [Option.bind_some]
                cases ((ts[0]).fParent != (-1)) <;> cases decide ((ts[0]).fKey < 0) <;> cases (ts[0]).fUnique <;> cases decide (f.fBytes > 24) <;> rfl
            rw [hroot]
            cases hrb : rootBad ts[0] with
            | true => simp
            | false =>
              have hpar : (ts[0]).fParent = -1 := by
                unfold rootBad at hrb
                simp only [Bool.or_eq_false_iff] at hrb
                simpa using hrb.1
              have hway : way ts 0 = [0] := by
                unfold way
                rw [chain, if_pos (by omega), Int.toNat_natCast, List.getElem?_eq_getElem hi]
                simp [chain]
              have hpn : pos (before ts 0) (fun x => (ts[0]).fParent == x) = -1 := rfl
              rw [hpn]
              have hup0 : upTo (before ts 0) (Go.IntKind.wrap .i64 (-1 + 1)) = some 0 := rfl
              simp only [Option.bind_some, cond_false, hup0]
              rw [app_ok (by simp [before, maxList])]
              simp only [Option.bind_some, before, List.take_nil, List.nil_append, hway]
              rfl
          | succ q =>
            simp only [show ((((q + 1 : Nat)) : Int) == 0) = false by simp; omega, cond_false, show Nat.beq (q + 1) 0 = false from rfl, show decide ((((q + 1 : Nat)) : Int) > 0) = true by simp, cond_true, Option.bind_some]
            have hbe : before ts (q + 1) = chain ts (q + 1) q := rfl
            cases hany : (before ts (q + 1)).any (fun z => (ts[q + 1]).fParent == z) with
            | false =>
              rw [pos_none hany]
              rfl
            | true =>
              obtain ⟨y, hy, he⟩ := List.any_eq_true.1 hany
              have he' : (ts[q + 1]).fParent = y := by simpa using he
              have hylt := chain_lt hup (q + 1) q (by omega) y (by rw [← hbe]; exact hy)
              have hcut := way_cut hup (q + 1) q (by omega) (by omega) y (by rw [← hbe]; exact hy)
              rw [← hbe] at hcut
              rcases pos_cases (before ts (q + 1)) (fun z => (ts[q + 1]).fParent == z) with ⟨g1, _⟩ | ⟨j, g1, g2, g3, g4⟩
              · exfalso
                obtain ⟨ii, hii, hee⟩ := List.getElem_of_mem hy
                have := g1 ii hii
                rw [hee] at this
                rw [this] at he; cases he
              · have hcut' : (before ts (q + 1)).take ((pos (before ts (q + 1)) (fun z => (ts[q + 1]).fParent == z)) + 1).toNat = way ts y.toNat := by
                  rw [he']; exact hcut
                rw [g4] at hcut' ⊢
                have hdn : decide ((j : Int) < 0) = false := by simp
                have hwr : Go.IntKind.wrap .i64 ((j : Int) + 1) = ((j + 1 : Nat) : Int) := wrap_next (n := (before ts (q + 1)).length) g1 (by omega)
                have hut : upTo (before ts (q + 1)) ((j + 1 : Nat) : Int) = some (j + 1) := by
                  unfold upTo
                  rw [if_pos ⟨by omega, by omega⟩]
                  simp
                have hcut2 : (before ts (q + 1)).take (j + 1) = way ts y.toNat := by
                  rw [← hcut']; congr 1
                have hwl : (way ts y.toNat).length ≤ 8 := by
                  have := chain_len (ts := ts) (y.toNat + 1) (y.toNat : Int)
                  show (chain ts (y.toNat + 1) (y.toNat : Int)).length ≤ 8
                  omega
                have hnext : way ts (q + 1) = way ts y.toNat ++ [((q + 1 : Nat) : Int)] := by
                  have hup2 : Up ts (q + 2) := by
                    intro jj hjj hjn
                    by_cases e : jj < q + 1
                    · exact hup jj hjj e
                    · have : jj = q + 1 := by omega
                      subst this
                      omega
                  rw [way_succ hup2 (by omega) hi, he', chain_way hup2 hylt.1 (by omega) (by omega)]
                simp only [hdn, hwr, hut, cond_false, Option.bind_some, hcut2]
                rw [app_ok (by simp only [List.length_cons, List.length_nil, maxList]; omega)]
                simp only [Option.bind_some, ← hnext, Bool.not_true, Bool.false_or]
                rfl
    · intro m _
      simp only [dbd_areTypes_L1, show decide ((ts.length : Int) < (ts.length : Int)) = false by simp, cond_false]
  · by_cases h1 : ts.length < 1
    · simp only [show decide ((ts.length : Int) < 1) = true by simp; omega, cond_true, Option.bind_some, Bool.true_or, Bool.not_true, Bool.false_and]
    · have h2 : ts.length > 8 := by omega
      simp only [show decide ((ts.length : Int) < 1) = false by simp; omega, show decide ((ts.length : Int) > 8) = true by simp; omega, cond_true, cond_false, Option.bind_some, Bool.or_true, Bool.not_true, Bool.false_and]
end Go.Sh

namespace Go.Sh
open Go.AE
set_option linter.unusedVariables false
set_option linter.unusedSimpArgs false
def dupIndex (xs : List T_api_Search) (i : Nat) : Bool := at' xs (fun t => (xs.take i).any (fun g => g.fName == t.fName)) i
def fieldBad (ts : List T_api_Type) (x : T_api_Search) : Bool :=
  match idx ts x.fType with | none => true | some t => decide (x.fField < 0) || (decide (x.fField ≥ (t.fFields.length : Int)) || (match idx t.fFields x.fField with | none => true | some f => decide (f.fBytes > 20)))
def badIndex (ts : List T_api_Type) (xs : List T_api_Search) (i : Nat) : Bool :=
  at' xs (fun x => ((!nameOk x.fName) || (decide (x.fType < 0) || (decide (x.fType ≥ (ts.length : Int)) || (decide ((x.fSparse.length : Int) > 1) || dupIndex xs i)))) || fieldBad ts x) i
def indexesOk (ts : List T_api_Type) (xs : List T_api_Search) : Bool := !anyB (badIndex ts xs) xs.length && decide ((xs.length : Int) ≤ 3)
theorem dbd_areIndexes_spec {k : Nat} {ts : List T_api_Type} {xs : List T_api_Search} (hk : maxLen + 6 ≤ k) (hw : wfL wf_T_api_Search xs) : dbd_areIndexes k xs ts = some (indexesOk ts xs) := by
  obtain ⟨k, rfl, hq⟩ := succ_of hk
  obtain ⟨hl, hw⟩ := hw
  unfold dbd_areIndexes indexesOk
  refine Eq.trans (loop0 (L := fun m x => dbd_areIndexes_L1 k xs ts _ m x) (n := xs.length) (g := badIndex ts xs) (r := fun _ => some false) (z := some (decide ((xs.length : Int) ≤ 3))) ?_ ?_ (by omega)) ?_
  rotate_left 2
  · rw [scan_const]
    cases anyB (badIndex ts xs) xs.length <;> rfl
  · intro m i hi _
    have h1 := hw _ (List.getElem_mem hi)
    have hc : slices_ContainsFunc_Search k (xs.take i) (fun j x0 => dbd_areIndexes_1 j x0 xs[i]) = some (dupIndex xs i) := by
      rw [dupIndex, at'_eq hi]
      refine containsFunc_Search (by rw [List.length_take]; omega) (by rw [List.length_take]; omega) (fun k' e x hx => ?_)
      obtain ⟨k', rfl, _⟩ := succ_of (show 0 + 1 ≤ k' by omega)
      rfl
    simp only [dbd_areIndexes_L1, badIndex, at'_eq hi, idx_at hi, wrap_next hi hl, Option.bind_some, show decide ((i : Int) < (xs.length : Int)) = true by simp; exact hi, cond_true, dbd_isName (show maxLen + 2 ≤ k by omega) h1.1, cut_take (show i ≤ xs.length by omega), hc]
    unfold fieldBad
    cases hn : nameOk xs[i].fName with
    | false => rfl
    | true =>
      cases h2 : decide (xs[i].fType < 0) with
      | true => rfl
      | false =>
        cases h3 : decide (xs[i].fType ≥ (ts.length : Int)) with
        | true => rfl
        | false =>
          cases decide ((xs[i].fSparse.length : Int) > 1) with
          | true => rfl
          | false =>
            cases dupIndex xs i with
            | true => rfl
            | false =>
              simp only [decide_eq_false_iff_not] at h2 h3
              rw [idx_of (show 0 ≤ xs[i].fType by omega) (by omega)]
              simp only [Bool.not_true, cond_false, Option.bind_some, Bool.or_false, Bool.false_or]
              generalize ts[(xs[i].fType).toNat]'_ = t
              cases h4 : decide (xs[i].fField < 0) with
              | true => rfl
              | false =>
                cases h5 : decide (xs[i].fField ≥ (t.fFields.length : Int)) with
                | true => rfl
                | false =>
                  simp only [decide_eq_false_iff_not] at h4 h5
                  rw [idx_of (show 0 ≤ xs[i].fField by omega) (by omega)]
                  simp only [cond_false, Option.bind_some, Bool.false_or]
  · intro m _
    simp only [dbd_areIndexes_L1, show decide ((xs.length : Int) < (xs.length : Int)) = false by simp, cond_false]
def valid (b : T_api_Base) : Bool := nameOk b.fName && (decide (b.fKind ≥ 1) && (decide (b.fKind ≤ 4) && (typesOk b.fTypes && indexesOk b.fTypes b.fIndexes)))
theorem dbd_valid {k : Nat} {b : T_api_Base} (hk : maxLen + 9 ≤ k) (hw : wf_T_api_Base b) : dbd_Valid k b = some (valid b) := by
  obtain ⟨k, rfl, hq⟩ := succ_of hk
  obtain ⟨h1, _, h3, h4, _⟩ := hw
  simp only [dbd_Valid, dbd_isName (show maxLen + 2 ≤ k by omega) h1, dbd_areTypes_spec hq h3, dbd_areIndexes_spec (show maxLen + 6 ≤ k by omega) h4, Option.bind_some]
  unfold valid
  cases nameOk b.fName <;> cases decide (b.fKind ≥ 1) <;> cases decide (b.fKind ≤ 4) <;> cases typesOk b.fTypes <;> rfl
theorem ref11_way_L1_spec {b : T_api_Base} {n : Nat} (hu : Up b.fTypes n) (hlen : n ≤ b.fTypes.length) (hs : n ≤ 1000) : ∀ (d : Nat) (x : Int) (w : List Int) (m : Nat), x < (d : Int) → x < (n : Int) → d < m → w.length + d ≤ 1000 →
    ref11_way_L1 b (fun y11 y12 => some y12) m x w = some (chain b.fTypes d x ++ w)
  | d, x, w, 0, _, _, hm, _ => by omega
  | d, x, w, m + 1, hd, hn, hm, hwl => by
    rw [ref11_way_L1]
    by_cases h0 : 0 ≤ x
    · have hx : x.toNat < b.fTypes.length := by omega
      have hp := hu x.toNat hx (by omega)
      cases d with
      | zero => omega
      | succ d =>
        simp only [show decide (x ≥ 0) = true by simp; omega, cond_true, idx_of h0 (show x < (b.fTypes.length : Int) by omega), Option.bind_some]
        rw [app_ok (by simp only [List.length_cons, List.length_nil, maxList]; omega)]
        simp only [Option.bind_some]
        rw [ref11_way_L1_spec hu hlen hs d _ _ m (by omega) (by omega) (by omega) (by simp; omega)]
        rw [chain, if_pos h0, List.getElem?_eq_getElem hx]
        simp
    · rw [chain_neg (by omega)]
      simp only [show decide (x ≥ 0) = false by simp; omega, cond_false, List.nil_append]
theorem ref11_way_spec {k : Nat} {b : T_api_Base} {n i : Nat} (hu : Up b.fTypes n) (hlen : n ≤ b.fTypes.length) (hs : n ≤ 500) (hi : i < n) (hk : 1000 ≤ k) : ref11_way k b (i : Int) = some (way b.fTypes i) := by
  obtain ⟨k, rfl, hq⟩ := succ_of (c := 999) (by omega : 999 + 1 ≤ k)
  refine Eq.trans (show ref11_way (k + 1) b (i : Int) = ref11_way_L1 b (fun y11 y12 => some y12) k (i : Int) [] from rfl) ?_
  rw [ref11_way_L1_spec hu hlen (by omega) (i + 1) (i : Int) [] k (by omega) (by omega) (by omega) (by simp; omega)]
  rw [List.append_nil]; rfl
theorem ref11_above_L1_spec {b : T_api_Base} {n : Nat} {a : Int} (hu : Up b.fTypes n) (hlen : n ≤ b.fTypes.length) : ∀ (d : Nat) (x : Int) (m : Nat), x < (d : Int) → x < (n : Int) → d < m →
    ref11_above_L1 b a (fun y8 => some false) m x = some ((chain b.fTypes d x).any (fun z => a == z))
  | d, x, 0, _, _, hm => by omega
  | d, x, m + 1, hd, hn, hm => by
    rw [ref11_above_L1]
    by_cases h0 : 0 ≤ x
    · have hx : x.toNat < b.fTypes.length := by omega
      have hp := hu x.toNat hx (by omega)
      cases d with
      | zero => omega
      | succ d =>
        simp only [show decide (x ≥ 0) = true by simp; omega, cond_true, idx_of h0 (show x < (b.fTypes.length : Int) by omega), Option.bind_some]
        rw [chain, if_pos h0, List.getElem?_eq_getElem hx]
        simp only [List.any_append, List.any_cons, List.any_nil, Bool.or_false]
        by_cases e : x = a
        · subst e; simp
        · have e1 : (x == a) = false := by simpa using e
          have e2 : (a == x) = false := by simpa using fun h => e h.symm
          rw [e1, e2, cond_false, Bool.or_false]
          exact ref11_above_L1_spec hu hlen d _ m (by omega) (by omega) (by omega)
    · rw [chain_neg (by omega)]
      simp only [show decide (x ≥ 0) = false by simp; omega, cond_false, List.any_nil]
theorem ref11_above_spec {k : Nat} {b : T_api_Base} {n i : Nat} {a : Int} (hu : Up b.fTypes n) (hlen : n ≤ b.fTypes.length) (hs : n ≤ 500) (hi : i < n) (hk : 1000 ≤ k) : ref11_above k b a (i : Int) = some ((chain b.fTypes n ((b.fTypes[i]'(by omega)).fParent)).any (fun z => a == z)) := by
  obtain ⟨k, rfl, hq⟩ := succ_of (c := 999) (by omega : 999 + 1 ≤ k)
  have hx : i < b.fTypes.length := by omega
  have hp := hu i hx hi
  simp only [ref11_above, idx_at hx, Option.bind_some]
  exact ref11_above_L1_spec hu hlen n _ k (by omega) (by omega) (by omega)
theorem ref11_Valid_L2_spec {b : T_api_Base} {i k : Nat} {K : Option Bool} (hi : i < b.fTypes.length) (hl : b.fTypes.length ≤ maxLen) (hk : i < k) : ref11_Valid_L2 b (i : Int) b.fTypes[i] (fun _ => K) k 0 = bif dupType b.fTypes i then some false else K := by
  rw [dupType, at'_eq hi, ← anyB_take (show i ≤ b.fTypes.length by omega)]
  refine Eq.trans (loop0 (L := fun m x => ref11_Valid_L2 b (i : Int) b.fTypes[i] _ m x) (n := i) (g := at' b.fTypes (fun g => g.fName == b.fTypes[i].fName)) (r := fun _ => some false) (z := K) ?_ ?_ hk) (scan_const i)
  · intro m j hj _
    have hj' : j < b.fTypes.length := by omega
    simp only [ref11_Valid_L2, at'_eq hj', idx_at hj', wrap_next hj' hl, Option.bind_some, show decide ((j : Int) < (i : Int)) = true by simp; exact hj, cond_true]
  · intro m _
    simp only [ref11_Valid_L2, show decide ((i : Int) < (i : Int)) = false by simp, cond_false]
theorem ref11_Valid_L4_spec {b : T_api_Base} {i k : Nat} {K : Option Bool} (hi : i < b.fIndexes.length) (hl : b.fIndexes.length ≤ maxLen) (hk : i < k) : ref11_Valid_L4 b (i : Int) b.fIndexes[i] (fun _ => K) k 0 = bif dupIndex b.fIndexes i then some false else K := by
  rw [dupIndex, at'_eq hi, ← anyB_take (show i ≤ b.fIndexes.length by omega)]
  refine Eq.trans (loop0 (L := fun m x => ref11_Valid_L4 b (i : Int) b.fIndexes[i] _ m x) (n := i) (g := at' b.fIndexes (fun g => g.fName == b.fIndexes[i].fName)) (r := fun _ => some false) (z := K) ?_ ?_ hk) (scan_const i)
  · intro m j hj _
    have hj' : j < b.fIndexes.length := by omega
    simp only [ref11_Valid_L4, at'_eq hj', idx_at hj', wrap_next hj' hl, Option.bind_some, show decide ((j : Int) < (i : Int)) = true by simp; exact hj, cond_true]
  · intro m _
    simp only [ref11_Valid_L4, show decide ((i : Int) < (i : Int)) = false by simp, cond_false]
theorem ref11_Valid_L3_spec {b : T_api_Base} {k : Nat} (hk : maxLen + 6 ≤ k) (hw : wfL wf_T_api_Search b.fIndexes) : ref11_Valid_L3 k b (fun _ => some true) k 0 = some (!anyB (badIndex b.fTypes b.fIndexes) b.fIndexes.length) := by
  obtain ⟨hl, hw⟩ := hw
  refine Eq.trans (loop0 (L := fun m x => ref11_Valid_L3 k b _ m x) (n := b.fIndexes.length) (g := badIndex b.fTypes b.fIndexes) (r := fun _ => some false) (z := some true) ?_ ?_ (by omega)) ?_
  rotate_left 2
  · rw [scan_const]
    cases anyB (badIndex b.fTypes b.fIndexes) b.fIndexes.length <;> rfl
  · intro m i hi _
    have h1 := hw _ (List.getElem_mem hi)
    simp only [ref11_Valid_L3, badIndex, at'_eq hi, idx_at hi, wrap_next hi hl, Option.bind_some, show decide ((i : Int) < (b.fIndexes.length : Int)) = true by simp; exact hi, cond_true, ref11_isName (show maxLen + 2 ≤ k by omega) h1.1, ref11_Valid_L4_spec hi hl (show i < k by omega)]
    unfold fieldBad
    cases hn : nameOk b.fIndexes[i].fName with
    | false => rfl
    | true =>
      cases h2 : decide (b.fIndexes[i].fType < 0) with
      | true => rfl
      | false =>
        cases h3 : decide (b.fIndexes[i].fType ≥ (b.fTypes.length : Int)) with
        | true => rfl
        | false =>
          simp only [decide_eq_false_iff_not] at h2 h3
          rw [idx_of (show 0 ≤ b.fIndexes[i].fType by omega) (by omega)]
          simp only [Bool.not_true, cond_false, Option.bind_some, Bool.or_false, Bool.false_or]
          generalize b.fTypes[(b.fIndexes[i].fType).toNat]'_ = t
          cases h4 : decide (b.fIndexes[i].fField < 0) with
          | true => cases decide ((b.fIndexes[i].fSparse.length : Int) > 1) <;> cases dupIndex b.fIndexes i <;> rfl
          | false =>
            cases h5 : decide (b.fIndexes[i].fField ≥ (t.fFields.length : Int)) with
            | true => cases decide ((b.fIndexes[i].fSparse.length : Int) > 1) <;> cases dupIndex b.fIndexes i <;> rfl
            | false =>
              simp only [decide_eq_false_iff_not] at h4 h5
              rw [idx_of (show 0 ≤ b.fIndexes[i].fField by omega) (by omega)]
              simp only [cond_false, Option.bind_some, Bool.false_or]
              generalize t.fFields[(b.fIndexes[i].fField).toNat]'_ = f
              cases decide (f.fBytes > 20) <;> cases decide ((b.fIndexes[i].fSparse.length : Int) > 1) <;> cases dupIndex b.fIndexes i <;> rfl
  · intro m _
    simp only [ref11_Valid_L3, show decide ((b.fIndexes.length : Int) < (b.fIndexes.length : Int)) = false by simp, cond_false]
theorem typeOk_eq (t : T_api_Type) : typeOk t = !((!nameOk t.fName) || (decide (t.fMin < 1) || (decide (t.fMin > t.fSize) || (decide (t.fSize > 40) || !fieldsR t)))) := by
  rw [fieldsR_eq]
  unfold typeOk
  cases nameOk t.fName <;> cases decide (t.fMin < 1) <;> cases decide (t.fMin > t.fSize) <;> cases decide (t.fSize > 40) <;> cases fieldsOk t <;> cases keyOk t <;> rfl
theorem ref11_Valid_L1_spec {b : T_api_Base} {k : Nat} {K : Option Bool} (hk : maxLen + 8 ≤ k) (hw : wfL wf_T_api_Type b.fTypes) (h8 : b.fTypes.length ≤ 8) : ref11_Valid_L1 k b (fun _ => K) k 0 = bif anyB (badType b.fTypes) b.fTypes.length then some false else K := by
  obtain ⟨hl, hw⟩ := hw
  have e63 := maxLen_eq
  refine Eq.trans (loop0 (L := fun m x => ref11_Valid_L1 k b _ m x) (n := b.fTypes.length) (g := badType b.fTypes) (r := fun _ => some false) (z := K) ?_ ?_ (by omega)) (scan_const _)
  · intro m i hi hb
    have h1 := hw _ (List.getElem_mem hi)
    have hup := up_of i hb
    simp only [ref11_Valid_L1, idx_at hi, wrap_next hi hl, Option.bind_some, show decide ((i : Int) < (b.fTypes.length : Int)) = true by simp; exact hi, cond_true, ref11_isName (show maxLen + 2 ≤ k by omega) h1.1, ref11_fields_spec (show maxLen + 5 ≤ k by omega) h1, ref11_Valid_L2_spec hi hl (show i < k by omega)]
    rw [badType, at'_eq hi]
    have hshape : (bif (!nameOk (b.fTypes[i]).fName) then (some (true)) else (bif (decide ((b.fTypes[i]).fMin < 1)) then (some (true)) else (bif (decide ((b.fTypes[i]).fMin > (b.fTypes[i]).fSize)) then (some (true)) else (bif (decide ((b.fTypes[i]).fSize > 40)) then (some (true)) else (some ((!fieldsR b.fTypes[i]))))))) = some (!typeOk b.fTypes[i]) := by
      rw [typeOk_eq]
      cases nameOk (b.fTypes[i]).fName <;> cases decide ((b.fTypes[i]).fMin < 1) <;> cases decide ((b.fTypes[i]).fMin > (b.fTypes[i]).fSize) <;> cases decide ((b.fTypes[i]).fSize > 40) <;> cases fieldsR b.fTypes[i] <;> rfl
    rw [hshape]
    cases hto : typeOk b.fTypes[i] with
    | false => rfl
    | true =>
      cases hdt : dupType b.fTypes i with
      | true => rfl
      | false =>
        simp only [Bool.not_true, cond_false, Option.bind_some, Bool.or_false, Bool.false_or]
        cases i with
        | zero =>
          simp only [show (((0 : Nat) : Int) == 0) = true from rfl, cond_true, show Nat.beq 0 0 = true from rfl]
          have hway : (rootBad b.fTypes[0] = false) → decide (((way b.fTypes 0).length : Int) > 5) = false := by
            intro hrb
            have hpar : (b.fTypes[0]).fParent = -1 := by
              unfold rootBad at hrb
              simp only [Bool.or_eq_false_iff] at hrb
              simpa using hrb.1
            have : way b.fTypes 0 = [0] := by
              unfold way
              rw [chain, if_pos (by omega), Int.toNat_natCast, List.getElem?_eq_getElem hi]
              simp [chain]
            rw [this]; rfl
          have hroot : (bif ((b.fTypes[0]).fParent != (-1)) then (some (true)) else (bif (decide ((b.fTypes[0]).fKey < 0)) then (some (true)) else (bif (!(b.fTypes[0]).fUnique) then (some (true)) else ((idx (b.fTypes[0]).fFields (b.fTypes[0]).fKey).bind fun v32 => (some ((decide (v32.fBytes > 24)))))))) = some (rootBad b.fTypes[0]) := by
            unfold rootBad
            cases hx : idx (b.fTypes[0]).fFields (b.fTypes[0]).fKey with
            | none =>
              have hneg : decide ((b.fTypes[0]).fKey < 0) = true := by
                simp only [decide_eq_true_eq]
                by_cases h0 : (b.fTypes[0]).fKey < 0
                · exact h0
                · exfalso
                  have hko : keyOk b.fTypes[0] = true := by
                    unfold typeOk at hto
                    simp only [Bool.and_eq_true] at hto
                    exact hto.2
                  unfold keyOk at hko
                  have : ((b.fTypes[0]).fKey == (-1)) = false := by simp; omega
                  rw [this, cond_false] at hko
                  unfold keyFit at hko
                  rw [hx] at hko
                  simp at hko
              rw [hneg]
              cases ((b.fTypes[0]).fParent != (-1)) <;> rfl
            | some f =>
              simp only [Option.bind_some]
              cases ((b.fTypes[0]).fParent != (-1)) <;> cases decide ((b.fTypes[0]).fKey < 0) <;> cases (b.fTypes[0]).fUnique <;> cases decide (f.fBytes > 24) <;> rfl
          rw [hroot]
          cases hrb : rootBad b.fTypes[0] with
          | true => rfl
          | false => rw [hway hrb]; rfl
        | succ q =>
          have hq1 : q < b.fTypes.length := by omega
          have hpq := hup q hq1 (by omega)
          have hbe : before b.fTypes (q + 1) = chain b.fTypes (q + 1) q := rfl
          have hbw : before b.fTypes (q + 1) = chain b.fTypes (q + 1) (b.fTypes[q]).fParent ++ [(q : Int)] := way_succ hup (by omega) hq1
          have hab := ref11_above_spec (k := k) (a := (b.fTypes[q + 1]).fParent) hup (by omega) (by omega) (show q < q + 1 by omega) (by omega)
          have hwr : Go.IntKind.wrap .i64 (((q + 1 : Nat) : Int) - 1) = (q : Int) := by
            rw [wrap_in (by omega) (by omega)]; omega
          simp only [show ((((q + 1 : Nat)) : Int) == 0) = false by simp; omega, cond_false, show Nat.beq (q + 1) 0 = false from rfl, hwr, hab, Option.bind_some]
          have hmem : (before b.fTypes (q + 1)).any (fun z => (b.fTypes[q + 1]).fParent == z) = ((chain b.fTypes (q + 1) (b.fTypes[q]).fParent).any (fun z => (b.fTypes[q + 1]).fParent == z) || ((b.fTypes[q + 1]).fParent == (q : Int))) := by
            rw [hbw]; simp only [List.any_append, List.any_cons, List.any_nil, Bool.or_false]
          have hin : ((chain b.fTypes (q + 1) (b.fTypes[q]).fParent).any (fun z => (b.fTypes[q + 1]).fParent == z) || ((b.fTypes[q + 1]).fParent == (q : Int))) = true → ¬ (b.fTypes[q + 1]).fParent < 0 ∧ ¬ (b.fTypes[q + 1]).fParent ≥ ((q + 1 : Nat) : Int) := by
            intro h
            rw [← hmem] at h
            obtain ⟨y, hy, he⟩ := List.any_eq_true.1 h
            have he' : (b.fTypes[q + 1]).fParent = y := by simpa using he
            have := chain_lt hup (q + 1) q (by omega) y (by rw [← hbe]; exact hy)
            omega
          rw [hmem]
          cases hany : ((chain b.fTypes (q + 1) (b.fTypes[q]).fParent).any (fun z => (b.fTypes[q + 1]).fParent == z) || ((b.fTypes[q + 1]).fParent == (q : Int))) with
          | false =>
            rw [Bool.or_eq_false_iff] at hany
            obtain ⟨g1, g2⟩ := hany
            rw [g1]
            have g3 : ((b.fTypes[q + 1]).fParent != (q : Int)) = true := by rw [bne, g2]; rfl
            rw [g3]
            cases decide ((b.fTypes[q + 1]).fParent < 0) <;> cases decide ((b.fTypes[q + 1]).fParent ≥ ((q + 1 : Nat) : Int)) <;> rfl
          | true =>
            obtain ⟨g1, g2⟩ := hin hany
            have hup2 : Up b.fTypes (q + 2) := by
              intro jj hjj hjn
              by_cases e : jj < q + 1
              · exact hup jj hjj e
              · have : jj = q + 1 := by omega
                subst this
                omega
            have hwy := ref11_way_spec (k := k) hup2 (by omega) (by omega) (show q + 1 < q + 2 by omega) (by omega)
            rw [hwy]
            simp only [show decide ((b.fTypes[q + 1]).fParent < 0) = false by simp; omega, show decide ((b.fTypes[q + 1]).fParent ≥ ((q + 1 : Nat) : Int)) = false by simp; omega, cond_false, Option.bind_some]
            rw [Bool.or_eq_true] at hany
            rcases hany with g3 | g3
            · rw [g3]
              cases ((b.fTypes[q + 1]).fParent != (q : Int)) <;> cases decide (((way b.fTypes (q + 1)).length : Int) > 5) <;> rfl
            · have g4 : ((b.fTypes[q + 1]).fParent != (q : Int)) = false := by rw [bne, g3]; rfl
              rw [g4]
              cases decide (((way b.fTypes (q + 1)).length : Int) > 5) <;> rfl
  · intro m _
    simp only [ref11_Valid_L1, show decide ((b.fTypes.length : Int) < (b.fTypes.length : Int)) = false by simp, cond_false]
theorem ref11_valid {k : Nat} {b : T_api_Base} (hk : maxLen + 9 ≤ k) (hw : wf_T_api_Base b) : ref11_Valid k b = some (valid b) := by
  obtain ⟨k, rfl, hq⟩ := succ_of hk
  obtain ⟨h1, _, h3, h4, _⟩ := hw
  simp only [ref11_Valid, ref11_isName (show maxLen + 2 ≤ k by omega) h1, Option.bind_some]
  unfold valid typesOk indexesOk
  have e1 : decide (b.fKind < 1) = !decide (b.fKind ≥ 1) := by rw [← decide_not]; apply decide_eq_decide.2; omega
  have e2 : decide (b.fKind > 4) = !decide (b.fKind ≤ 4) := by rw [← decide_not]; apply decide_eq_decide.2; omega
  have e3 : decide ((b.fIndexes.length : Int) > 3) = !decide ((b.fIndexes.length : Int) ≤ 3) := by rw [← decide_not]; apply decide_eq_decide.2; omega
  rw [e1, e2, e3]
  by_cases h8 : b.fTypes.length ≤ 8
  · rw [ref11_Valid_L1_spec hq h3 h8, ref11_Valid_L3_spec (show maxLen + 6 ≤ k by omega) h4]
    cases nameOk b.fName <;> cases decide (b.fKind ≥ 1) <;> cases decide (b.fKind ≤ 4) <;> cases decide ((b.fTypes.length : Int) < 1) <;> cases decide ((b.fTypes.length : Int) > 8) <;> cases decide ((b.fIndexes.length : Int) ≤ 3) <;> cases anyB (badType b.fTypes) b.fTypes.length <;> cases anyB (badIndex b.fTypes b.fIndexes) b.fIndexes.length <;> rfl
  · have e4 : decide ((b.fTypes.length : Int) > 8) = true := by simp; omega
    rw [e4]
    cases nameOk b.fName <;> cases decide (b.fKind ≥ 1) <;> cases decide (b.fKind ≤ 4) <;> cases decide ((b.fTypes.length : Int) < 1) <;> rfl
end Go.Sh

namespace Go.Sh
open Go.AE
set_option linter.unusedVariables false
set_option linter.unusedSimpArgs false
def outside (b : T_api_Base) (x : Int) : Bool := decide (x < 0) || decide (x ≥ (b.fTypes.length : Int))
def asked (b : T_api_Base) (l : List Int) : Int := bif !valid b then 100 else bif l.any (outside b) then 2 else 0
theorem dbd_asked_spec {k : Nat} {b : T_api_Base} {l : List Int} (hk : maxLen + 10 ≤ k) (hw : wf_T_api_Base b) (hl : l.length ≤ 1000) : dbd_asked k b l = some (asked b l) := by
  have e63 := maxLen_eq
  obtain ⟨k, rfl, hq⟩ := succ_of hk
  have hc : slices_ContainsFunc_int k l (fun j x0 => dbd_asked_1 j x0 b) = some (l.any (outside b)) := by
    refine containsFunc_int (by omega) (by omega) (fun k' e x hx => ?_)
    obtain ⟨k', rfl, _⟩ := succ_of (show 0 + 1 ≤ k' by omega)
    simp only [dbd_asked_1, outside]
    cases decide (x < 0) <;> cases decide (x ≥ (b.fTypes.length : Int)) <;> rfl
  simp only [dbd_asked, dbd_valid (show maxLen + 9 ≤ k by omega) hw, hc, Option.bind_some]
  unfold asked
  cases valid b <;> cases l.any (outside b) <;> rfl
/-- What is known of a base that may be asked. -/
theorem asked_zero {b : T_api_Base} {l : List Int} (h : asked b l = 0) : valid b = true ∧ ∀ x ∈ l, 0 ≤ x ∧ x < (b.fTypes.length : Int) := by
  unfold asked at h
  cases hv : valid b with
  | false => rw [hv] at h; simp at h
  | true =>
    rw [hv] at h
    cases ha : l.any (outside b) with
    | true => rw [ha] at h; simp at h
    | false =>
      refine ⟨rfl, fun x hx => ?_⟩
      rw [List.any_eq_false] at ha
      have := ha x hx
      unfold outside at this
      simp at this
      omega
theorem valid_up {b : T_api_Base} (h : valid b = true) : Up b.fTypes b.fTypes.length ∧ 1 ≤ b.fTypes.length ∧ b.fTypes.length ≤ 8 := by
  unfold valid typesOk at h
  simp only [Bool.and_eq_true, Bool.not_eq_true', Bool.or_eq_false_iff, decide_eq_false_iff_not] at h
  obtain ⟨_, _, _, ⟨⟨h1, h2⟩, h3⟩, _⟩ := h
  exact ⟨up_of _ (anyB_false.1 h3), by omega, by omega⟩
theorem dbd_way_L1_spec {b : T_api_Base} {n : Nat} {K : Int → List Int → Option (List Int)} (hu : Up b.fTypes n) (hlen : n ≤ b.fTypes.length) (hs : n ≤ 1000) : ∀ (d : Nat) (x : Int) (w : List Int) (m : Nat), x < (d : Int) → x < (n : Int) → d < m → w.length + d ≤ 1000 →
    ∃ y, dbd_way_L1 b K m x w = K y (w ++ (chain b.fTypes d x).reverse)
  | d, x, w, 0, _, _, hm, _ => by omega
  | d, x, w, m + 1, hd, hn, hm, hwl => by
    rw [dbd_way_L1]
    by_cases h0 : 0 ≤ x
    · have hx : x.toNat < b.fTypes.length := by omega
      have hp := hu x.toNat hx (by omega)
      cases d with
      | zero => omega
      | succ d =>
        simp only [show decide (x ≥ 0) = true by simp; omega, cond_true, idx_of h0 (show x < (b.fTypes.length : Int) by omega), Option.bind_some]
        rw [app_ok (by simp only [List.length_cons, List.length_nil, maxList]; omega)]
        simp only [Option.bind_some]
        obtain ⟨y, hy⟩ := dbd_way_L1_spec (K := K) hu hlen hs d (b.fTypes[x.toNat]).fParent (w ++ [x]) m (by omega) (by omega) (by omega) (by simp; omega)
        refine ⟨y, hy.trans ?_⟩
        rw [chain, if_pos h0, List.getElem?_eq_getElem hx]
        simp
    · rw [chain_neg (by omega)]
      refine ⟨x, ?_⟩
      simp only [show decide (x ≥ 0) = false by simp; omega, cond_false, List.reverse_nil, List.append_nil]
theorem dbd_way_spec {k : Nat} {b : T_api_Base} {n i : Nat} (hu : Up b.fTypes n) (hlen : n ≤ b.fTypes.length) (hs : n ≤ 500) (hi : i < n) (hk : 1000 ≤ k) : dbd_way k b (i : Int) = some (way b.fTypes i) := by
  obtain ⟨k, rfl, hq⟩ := succ_of (c := 999) (by omega : 999 + 1 ≤ k)
  obtain ⟨y, hy⟩ := dbd_way_L1_spec (K := fun y11 y12 => (((slices_Reverse_int k y12).bind (sameLen y12)).bind fun o14 => (some o14))) hu hlen (by omega) (i + 1) (i : Int) [] k (by omega) (by omega) (by omega) (by simp; omega)
  refine Eq.trans (show dbd_way (k + 1) b (i : Int) = dbd_way_L1 b (fun y11 y12 => (((slices_Reverse_int k y12).bind (sameLen y12)).bind fun o14 => (some o14))) k (i : Int) [] from rfl) (hy.trans ?_)
  rw [List.nil_append]
  obtain ⟨k, rfl, _⟩ := succ_of (show 0 + 1 ≤ k by omega)
  have hl := chain_len (ts := b.fTypes) (i + 1) (i : Int)
  have hble : Nat.ble (chain b.fTypes (i + 1) (i : Int)).length 9223372036854775807 = true := Nat.ble_eq_true_of_le (by omega)
  simp only [slices_Reverse_int, revInt, List.length_reverse, hble, cond_true, List.reverse_reverse, Option.bind_some, sameLen, if_pos]
  rfl
def wayOf (b : T_api_Base) (t : Int) : List Int × Int := bif asked b [t] != 0 then ([], asked b [t]) else (way b.fTypes t.toNat, 0)
theorem dbd_Way_spec {k : Nat} {b : T_api_Base} {t : Int} (hk : maxLen + 11 ≤ k) (hw : wf_T_api_Base b) : dbd_Way k b t = some (wayOf b t) := by
  have e63 := maxLen_eq
  obtain ⟨k, rfl, hq⟩ := succ_of hk
  simp only [dbd_Way, dbd_asked_spec hq hw (show [t].length ≤ 1000 by simp), Option.bind_some]
  unfold wayOf
  by_cases h : asked b [t] = 0
  · obtain ⟨hv, hx⟩ := asked_zero h
    have ht := hx t (by simp)
    obtain ⟨hup, h1, h8⟩ := valid_up hv
    have := dbd_way_spec (k := k) hup (Nat.le_refl _) (by omega) (show t.toNat < b.fTypes.length by omega) (by omega)
    rw [show ((t.toNat : Nat) : Int) = t by omega] at this
    simp only [this, h, Option.bind_some]
    rfl
  · have : (asked b [t] != 0) = true := by simpa using h
    simp only [this, cond_true]
end Go.Sh

namespace Go.Sh
open Go.AE
set_option linter.unusedVariables false
set_option linter.unusedSimpArgs false
theorem ref11_asked_spec {k : Nat} {b : T_api_Base} {l : List Int} (hk : maxLen + 10 ≤ k) (hw : wf_T_api_Base b) (hl : l.length ≤ 10) : ref11_asked k b l = some (asked b l) := by
  have e63 := maxLen_eq
  obtain ⟨k, rfl, hq⟩ := succ_of hk
  simp only [ref11_asked, ref11_valid (show maxLen + 9 ≤ k by omega) hw, Option.bind_some]
  unfold asked
  cases valid b with
  | false => rfl
  | true =>
    simp only [Bool.not_true, cond_false]
    rw [← anyB_any]
    refine Eq.trans (loop0 (L := fun m x => ref11_asked_L1 k b l _ m x) (n := l.length) (g := at' l (outside b)) (r := fun _ => some 2) (z := some 0) ?_ ?_ (by omega)) ?_
    rotate_left 2
    · rw [scan_const]
      cases anyB (at' l (outside b)) l.length <;> rfl
    · intro m i hi _
      obtain ⟨k, rfl, _⟩ := succ_of (show 0 + 1 ≤ k by omega)
      simp only [ref11_asked_L1, ref11_isType, at'_eq hi, idx_at hi, wrap_next hi (show l.length ≤ maxLen by omega), Option.bind_some, show decide ((i : Int) < (l.length : Int)) = true by simp; exact hi, cond_true, outside]
      have e1 : decide (l[i] ≥ 0) = !decide (l[i] < 0) := by rw [← decide_not]; apply decide_eq_decide.2; omega
      have e2 : decide (l[i] < (b.fTypes.length : Int)) = !decide (l[i] ≥ (b.fTypes.length : Int)) := by rw [← decide_not]; apply decide_eq_decide.2; omega
      rw [e1, e2]
      cases decide (l[i] < 0) <;> cases decide (l[i] ≥ (b.fTypes.length : Int)) <;> rfl
    · intro m _
      simp only [ref11_asked_L1, show decide ((l.length : Int) < (l.length : Int)) = false by simp, cond_false]
theorem dbd_Depth_spec {k : Nat} {b : T_api_Base} {t : Int} (hk : maxLen + 12 ≤ k) (hw : wf_T_api_Base b) : dbd_Depth k b t = some (((wayOf b t).1.length : Int), (wayOf b t).2) := by
  obtain ⟨k, rfl, hq⟩ := succ_of hk
  simp only [dbd_Depth, dbd_Way_spec hq hw, Option.bind_some]
def found (x : Int) : Int × Int := bif decide (x < 0) then (0, 5) else (x, 0)
theorem found_pos {α : Type} (l : List α) (p : α → Bool) : found (pos l p) = scan (at' l p) (fun i => ((i : Int), (0 : Int))) (0, 5) l.length 0 := by
  unfold pos
  rw [scan_map found]
  refine scan_congr _ _ (fun j _ _ _ => ⟨rfl, fun _ => ?_⟩) (fun _ => rfl)
  unfold found
  rw [show decide ((j : Int) < 0) = false by simp]
  rfl
def fieldOf (b : T_api_Base) (t : Int) (s : Str) : Int × Int := bif asked b [t] != 0 then (0, asked b [t]) else match idx b.fTypes t with | some x => found (pos x.fFields (fun f => f.fName == s)) | none => (0, 0)
theorem ref11_Field_spec {k : Nat} {b : T_api_Base} {t : Int} {s : Str} (hk : maxLen + 11 ≤ k) (hw : wf_T_api_Base b) : ref11_Field k b t s = some (fieldOf b t s) := by
  obtain ⟨k, rfl, hq⟩ := succ_of hk
  simp only [ref11_Field, ref11_asked_spec hq hw (show [t].length ≤ 10 by simp), Option.bind_some]
  unfold fieldOf
  by_cases h : asked b [t] = 0
  · obtain ⟨hv, hx⟩ := asked_zero h
    have ht := hx t (by simp)
    have htl : t.toNat < b.fTypes.length := by omega
    have hl := (hw.2.2.1.2 _ (List.getElem_mem htl)).2.2.2.2.1.1
    have hix := idx_of (l := b.fTypes) ht.1 ht.2
    rw [hix]
    simp only [h, bne_self_eq_false, cond_false]
    rw [found_pos, scan_map some]
    refine loop0 (L := fun m x => ref11_Field_L1 b t s _ m x) (n := (b.fTypes[t.toNat]).fFields.length) (g := at' (b.fTypes[t.toNat]).fFields (fun f => f.fName == s)) (r := fun i => some ((i : Int), (0 : Int))) (z := some (0, 5)) ?_ ?_ (by omega)
    · intro m i hi _
      simp only [ref11_Field_L1, hix, at'_eq hi, idx_at hi, wrap_next hi hl, Option.bind_some, show decide ((i : Int) < ((b.fTypes[t.toNat]).fFields.length : Int)) = true by simp; exact hi, cond_true]
    · intro m _
      simp only [ref11_Field_L1, hix, Option.bind_some, show decide (((b.fTypes[t.toNat]).fFields.length : Int) < ((b.fTypes[t.toNat]).fFields.length : Int)) = false by simp, cond_false]
  · have : (asked b [t] != 0) = true := by simpa using h
    simp only [this, cond_true]
end Go.Sh

namespace Go.Sh
open Go.AE
set_option linter.unusedVariables false
set_option linter.unusedSimpArgs false
theorem type_ok {b : T_api_Base} (hv : valid b = true) {i : Nat} (hi : i < b.fTypes.length) : typeOk b.fTypes[i] = true := by
  unfold valid typesOk at hv
  simp only [Bool.and_eq_true, Bool.not_eq_true'] at hv
  obtain ⟨_, _, _, ⟨_, h3⟩, _⟩ := hv
  have := anyB_false.1 h3 i hi
  rw [badType, at'_eq hi] at this
  simp only [Bool.or_eq_false_iff] at this
  simpa using this.1.1
theorem field_ok {t : T_api_Type} (ht : typeOk t = true) {j : Nat} (hj : j < t.fFields.length) : 0 ≤ (t.fFields[j]).fAt ∧ 1 ≤ (t.fFields[j]).fBytes ∧ (t.fFields[j]).fAt + (t.fFields[j]).fBytes ≤ 40 := by
  unfold typeOk fieldsOk at ht
  simp only [Bool.and_eq_true, Bool.not_eq_true', Bool.or_eq_false_iff, Bool.not_eq_false', decide_eq_false_iff_not] at ht
  obtain ⟨⟨_, h1, h2, h3, h4, _⟩, _⟩ := ht
  have := anyB_false.1 h4 j hj
  rw [badField, at'_eq hj] at this
  simp only [Bool.or_eq_false_iff, decide_eq_false_iff_not] at this
  obtain ⟨⟨_, g1, g2, g3, g4⟩, _⟩ := this
  rw [wrap_in (by omega) (by omega)] at g4
  omega
def fitsT (t : T_api_Type) (s : Str) : Bool := decide ((s.length : Int) ≥ t.fMin) && decide ((s.length : Int) ≤ t.fSize)
theorem dbd_fits_spec {k : Nat} {t : T_api_Type} {s : Str} (hk : 1 ≤ k) : dbd_fits k t s = some (fitsT t s) := by
  obtain ⟨k, rfl, _⟩ := succ_of (c := 0) hk
  simp only [dbd_fits, fitsT]
  cases decide ((s.length : Int) ≥ t.fMin) <;> rfl
def fitsOf (b : T_api_Base) (t : Int) (s : Str) : Bool × Int := bif asked b [t] != 0 then (false, asked b [t]) else match idx b.fTypes t with | some x => (fitsT x s, 0) | none => (false, 0)
theorem dbd_Fits_spec {k : Nat} {b : T_api_Base} {t : Int} {s : Str} (hk : maxLen + 11 ≤ k) (hw : wf_T_api_Base b) : dbd_Fits k b t s = some (fitsOf b t s) := by
  obtain ⟨k, rfl, hq⟩ := succ_of hk
  simp only [dbd_Fits, dbd_asked_spec hq hw (show [t].length ≤ 1000 by simp), Option.bind_some]
  unfold fitsOf
  by_cases h : asked b [t] = 0
  · obtain ⟨hv, hx⟩ := asked_zero h
    have ht := hx t (by simp)
    rw [idx_of ht.1 ht.2]
    simp only [h, dbd_fits_spec (show 1 ≤ k by omega), bne_self_eq_false, cond_false, Option.bind_some]
  · have : (asked b [t] != 0) = true := by simpa using h
    simp only [this, cond_true]
theorem ref11_Fits_spec {k : Nat} {b : T_api_Base} {t : Int} {s : Str} (hk : maxLen + 11 ≤ k) (hw : wf_T_api_Base b) : ref11_Fits k b t s = some (fitsOf b t s) := by
  obtain ⟨k, rfl, hq⟩ := succ_of hk
  simp only [ref11_Fits, ref11_asked_spec hq hw (show [t].length ≤ 10 by simp), Option.bind_some]
  unfold fitsOf
  by_cases h : asked b [t] = 0
  · obtain ⟨hv, hx⟩ := asked_zero h
    have ht := hx t (by simp)
    rw [idx_of ht.1 ht.2]
    simp only [h, bne_self_eq_false, cond_false, Option.bind_some, fitsT]
    cases decide ((s.length : Int) ≥ (b.fTypes[t.toNat]).fMin) <;> rfl
  · have : (asked b [t] != 0) = true := by simpa using h
    simp only [this, cond_true]
def valueF (f : T_api_Field) (s : Str) : Str × Bool := bif decide (f.fAt + f.fBytes > (s.length : Int)) then ([], false) else ((s.take (f.fAt + f.fBytes).toNat).drop f.fAt.toNat, true)
def valueOf (b : T_api_Base) (t : Int) (s : Str) (j : Int) : Str × Bool × Int :=
  bif asked b [t] != 0 then ([], false, asked b [t]) else match idx b.fTypes t with
    | some x => bif !fitsT x s || (decide (j < 0) || decide (j ≥ (x.fFields.length : Int))) then ([], false, 2) else (match idx x.fFields j with | some f => ((valueF f s).1, (valueF f s).2, 0) | none => ([], false, 0))
    | none => ([], false, 0)
theorem ref11_Value_spec {k : Nat} {b : T_api_Base} {t j : Int} {s : Str} (hk : maxLen + 12 ≤ k) (hw : wf_T_api_Base b) : ref11_Value k b t s j = some (valueOf b t s j) := by
  obtain ⟨k, rfl, hq⟩ := succ_of hk
  simp only [ref11_Value, ref11_Fits_spec hq hw, Option.bind_some]
  unfold valueOf fitsOf
  by_cases h : asked b [t] = 0
  · obtain ⟨hv, hx⟩ := asked_zero h
    have ht := hx t (by simp)
    have hok := type_ok hv (show t.toNat < b.fTypes.length by omega)
    rw [idx_of ht.1 ht.2]
    generalize b.fTypes[t.toNat]'_ = x at hok
    simp only [h, bne_self_eq_false, cond_false, Option.bind_some]
    cases fitsT x s with
    | false => rfl
    | true =>
      cases h1 : decide (j < 0) with
      | true => rfl
      | false =>
        cases h2 : decide (j ≥ (x.fFields.length : Int)) with
        | true => rfl
        | false =>
          simp only [decide_eq_false_iff_not] at h1 h2
          have hf := field_ok hok (show j.toNat < x.fFields.length by omega)
          rw [idx_of (by omega) (by omega)]
          generalize x.fFields[j.toNat]'_ = f at hf
          simp only [Bool.not_true, Bool.or_false, cond_false, Option.bind_some, valueF, wrap_in (show -9223372036854775808 ≤ f.fAt + f.fBytes by omega) (by omega)]
          by_cases hg : f.fAt + f.fBytes > (s.length : Int)
          · rw [decide_eq_true hg]; rfl
          · rw [decide_eq_false hg]
            simp only [cond_false, cut]
            rw [if_pos ⟨hf.1, by omega, by omega⟩]
            rfl
  · have : (asked b [t] != 0) = true := by simpa using h
    simp only [this, cond_true]
end Go.Sh

namespace Go.Sh
open Go.AE
set_option linter.unusedVariables false
set_option linter.unusedSimpArgs false
abbrev Cond := List (List T_api_Term)
theorem indexFunc_Term {k : Nat} {l : List T_api_Term} {p : T_api_Term → Bool} {f : Nat → T_api_Term → Option Bool} (hk : l.length + 2 ≤ k) (hn : l.length ≤ maxLen) (hp : ∀ k', k' + 1 = k → ∀ x ∈ l, f k' x = some (p x)) : slices_IndexFunc_Term k l f = some (pos l p) := by
  obtain ⟨k, rfl, hq⟩ := succ_of hk
  exact indexFunc_gen (hp k rfl) (L := fun m x => slices_IndexFunc_Term_L1 k l f _ m x) (fun m x => rfl) rfl hn (by omega)
theorem containsFunc_Term {k : Nat} {l : List T_api_Term} {p : T_api_Term → Bool} {f : Nat → T_api_Term → Option Bool} (hk : l.length + 3 ≤ k) (hn : l.length ≤ maxLen) (hp : ∀ k', k' + 2 = k → ∀ x ∈ l, f k' x = some (p x)) : slices_ContainsFunc_Term k l f = some (l.any p) := by
  obtain ⟨k, rfl, hq⟩ := succ_of hk
  simp only [slices_ContainsFunc_Term, indexFunc_Term hq hn (fun k' e => hp k' (by omega)), Option.bind_some, pos_any]
theorem indexFunc_TermL {k : Nat} {l : List (List T_api_Term)} {p : List T_api_Term → Bool} {f : Nat → List T_api_Term → Option Bool} (hk : l.length + 2 ≤ k) (hn : l.length ≤ maxLen) (hp : ∀ k', k' + 1 = k → ∀ x ∈ l, f k' x = some (p x)) : slices_IndexFunc_TermL k l f = some (pos l p) := by
  obtain ⟨k, rfl, hq⟩ := succ_of hk
  exact indexFunc_gen (hp k rfl) (L := fun m x => slices_IndexFunc_TermL_L1 k l f _ m x) (fun m x => rfl) rfl hn (by omega)
theorem containsFunc_TermL {k : Nat} {l : List (List T_api_Term)} {p : List T_api_Term → Bool} {f : Nat → List T_api_Term → Option Bool} (hk : l.length + 3 ≤ k) (hn : l.length ≤ maxLen) (hp : ∀ k', k' + 2 = k → ∀ x ∈ l, f k' x = some (p x)) : slices_ContainsFunc_TermL k l f = some (l.any p) := by
  obtain ⟨k, rfl, hq⟩ := succ_of hk
  simp only [slices_ContainsFunc_TermL, indexFunc_TermL hq hn (fun k' e => hp k' (by omega)), Option.bind_some, pos_any]
theorem indexFunc_TermLL {k : Nat} {l : List (List (List T_api_Term))} {p : List (List T_api_Term) → Bool} {f : Nat → List (List T_api_Term) → Option Bool} (hk : l.length + 2 ≤ k) (hn : l.length ≤ maxLen) (hp : ∀ k', k' + 1 = k → ∀ x ∈ l, f k' x = some (p x)) : slices_IndexFunc_TermLL k l f = some (pos l p) := by
  obtain ⟨k, rfl, hq⟩ := succ_of hk
  exact indexFunc_gen (hp k rfl) (L := fun m x => slices_IndexFunc_TermLL_L1 k l f _ m x) (fun m x => rfl) rfl hn (by omega)
theorem containsFunc_TermLL {k : Nat} {l : List (List (List T_api_Term))} {p : List (List T_api_Term) → Bool} {f : Nat → List (List T_api_Term) → Option Bool} (hk : l.length + 3 ≤ k) (hn : l.length ≤ maxLen) (hp : ∀ k', k' + 2 = k → ∀ x ∈ l, f k' x = some (p x)) : slices_ContainsFunc_TermLL k l f = some (l.any p) := by
  obtain ⟨k, rfl, hq⟩ := succ_of hk
  simp only [slices_ContainsFunc_TermLL, indexFunc_TermLL hq hn (fun k' e => hp k' (by omega)), Option.bind_some, pos_any]
def fieldAt (x : T_api_Type) (s : Str) : Int := pos x.fFields (fun f => f.fName == s)
def termOk (x : T_api_Type) (t : T_api_Term) : Bool := decide (fieldAt x t.fField ≥ 0) && (decide (t.fOp ≥ 1) && (decide (t.fOp ≤ 6) && (match idx x.fFields (fieldAt x t.fField) with | some f => ((t.fValue.length : Int) == f.fBytes) | none => false)))
def groupBad (x : T_api_Type) (g : List T_api_Term) : Bool := decide ((g.length : Int) < 1) || (decide ((g.length : Int) > 4) || g.any (fun t => !termOk x t))
def condOk (x : T_api_Type) (c : Cond) : Bool := decide ((c.length : Int) ≤ 4) && !c.any (groupBad x)
theorem fieldAt_lt (x : T_api_Type) (s : Str) : fieldAt x s < (x.fFields.length : Int) := by
  unfold fieldAt
  rcases pos_cases x.fFields (fun f => f.fName == s) with ⟨_, h⟩ | ⟨j, h1, _, _, h⟩ <;> rw [h] <;> omega
theorem match_asked_ok {k : Nat} {b : T_api_Base} {t : Int} (hk : maxLen + 13 ≤ k) (hw : wf_T_api_Base b) : match_asked k b t = some (asked b [t]) := by
  obtain ⟨k, rfl, hq⟩ := succ_of hk
  simp only [match_asked, dbd_Depth_spec hq hw, Option.bind_some, wayOf]
  by_cases h : asked b [t] = 0
  · rw [h]; rfl
  · have : (asked b [t] != 0) = true := by simpa using h
    simp only [this, cond_true]
theorem ref12_isType_ok {k : Nat} {b : T_api_Base} {t : Int} (hk : maxLen + 10 ≤ k) (hw : wf_T_api_Base b) : ref12_isType k b t = some (asked b [t]) := by
  obtain ⟨k, rfl, hq⟩ := succ_of hk
  simp only [ref12_isType, ref11_valid hq hw, Option.bind_some, asked, List.any_cons, List.any_nil, Bool.or_false, outside]
  cases valid b <;> cases decide (t < 0) <;> cases decide (t ≥ (b.fTypes.length : Int)) <;> rfl
theorem match_field_ok {k : Nat} {x : T_api_Type} {s : Str} (hk : maxLen + 4 ≤ k) (hx : x.fFields.length ≤ maxLen) : match_field k x s = some (fieldAt x s, decide (fieldAt x s ≥ 0)) := by
  obtain ⟨k, rfl, hq⟩ := succ_of hk
  have : slices_IndexFunc_Field k x.fFields (fun j x0 => match_field_1 j x0 s) = some (fieldAt x s) := by
    refine indexFunc_Field (by omega) hx (fun k' e f hf => ?_)
    obtain ⟨k', rfl, _⟩ := succ_of (show 0 + 1 ≤ k' by omega)
    rfl
  simp only [match_field, this, Option.bind_some]
theorem match_isTerm_ok {k : Nat} {x : T_api_Type} {t : T_api_Term} (hk : maxLen + 5 ≤ k) (hx : x.fFields.length ≤ maxLen) : match_isTerm k x t = some (termOk x t) := by
  obtain ⟨k, rfl, hq⟩ := succ_of hk
  simp only [match_isTerm, match_field_ok hq hx, Option.bind_some, termOk]
  by_cases h : fieldAt x t.fField ≥ 0
  · rw [decide_eq_true h, idx_of h (fieldAt_lt x _)]
    cases decide (t.fOp ≥ 1) <;> cases decide (t.fOp ≤ 6) <;> rfl
  · rw [decide_eq_false h]
    rfl
theorem match_valid_1_ok {k : Nat} {x : T_api_Type} {g : List T_api_Term} (hk : maxLen + 9 ≤ k) (hx : x.fFields.length ≤ maxLen) (hg : g.length ≤ maxLen) : match_valid_1 k g x = some (groupBad x g) := by
  obtain ⟨k, rfl, hq⟩ := succ_of hk
  have : slices_ContainsFunc_Term k g (fun j x0 => match_valid_1_1 j x0 x) = some (g.any (fun t => !termOk x t)) := by
    refine containsFunc_Term (by omega) hg (fun k' e t _ => ?_)
    obtain ⟨k', rfl, hq'⟩ := succ_of (show maxLen + 5 + 1 ≤ k' by omega)
    simp only [match_valid_1_1, match_isTerm_ok hq' hx, Option.bind_some]
  simp only [match_valid_1, this, groupBad]
  cases decide ((g.length : Int) < 1) <;> cases decide ((g.length : Int) > 4) <;> rfl
theorem match_valid_ok {k : Nat} {x : T_api_Type} {c : Cond} (hk : maxLen + 13 ≤ k) (hx : x.fFields.length ≤ maxLen) (hc : wfL (wfL wf_T_api_Term) c) : match_valid k x c = some (condOk x c) := by
  obtain ⟨k, rfl, hq⟩ := succ_of hk
  have : slices_ContainsFunc_TermL k c (fun j x0 => match_valid_1 j x0 x) = some (c.any (groupBad x)) :=
    containsFunc_TermL (by have := hc.1; omega) hc.1 (fun k' e g hg => match_valid_1_ok (by omega) hx (hc.2 g hg).1)
  simp only [match_valid, this, condOk]
  cases decide ((c.length : Int) ≤ 4) <;> rfl
def zeroT : T_api_Type := { fName := [], fParent := 0, fMin := 0, fSize := 0, fFields := [], fKey := 0, fUnique := false, fLast := false }
def condsOf (b : T_api_Base) (t : Int) (cs : List Cond) : T_api_Type × Int := bif asked b [t] != 0 then (zeroT, asked b [t]) else match idx b.fTypes t with
  | some x => bif cs.any (fun c => !condOk x c) then (zeroT, 110) else (x, 0)
  | none => (zeroT, 0)
/-- What is known of a type that may be asked. -/
theorem asked_type {b : T_api_Base} {t : Int} (hw : wf_T_api_Base b) (h : asked b [t] = 0) : ∃ x, idx b.fTypes t = some x ∧ wf_T_api_Type x ∧ typeOk x = true ∧ 0 ≤ t ∧ t < (b.fTypes.length : Int) ∧ x ∈ b.fTypes := by
  obtain ⟨hv, hx⟩ := asked_zero h
  have ht := hx t (by simp)
  have htl : t.toNat < b.fTypes.length := by omega
  exact ⟨_, idx_of ht.1 ht.2, hw.2.2.1.2 _ (List.getElem_mem htl), type_ok hv htl, ht.1, ht.2, List.getElem_mem htl⟩
theorem match_conditions_ok {k : Nat} {b : T_api_Base} {t : Int} {cs : List Cond} (hk : maxLen + 18 ≤ k) (hw : wf_T_api_Base b) (hl : cs.length ≤ 10) (hc : ∀ c ∈ cs, wfL (wfL wf_T_api_Term) c) : match_conditions k b t cs = some (condsOf b t cs) := by
  have e63 := maxLen_eq
  obtain ⟨k, rfl, hq⟩ := succ_of hk
  simp only [match_conditions, match_asked_ok (show maxLen + 13 ≤ k by omega) hw, Option.bind_some, condsOf]
  by_cases h : asked b [t] = 0
  · obtain ⟨x, hx, hwx, hok, _, _, _⟩ := asked_type hw h
    have : slices_ContainsFunc_TermLL k cs (fun j x0 => match_conditions_1 j x0 x) = some (cs.any (fun c => !condOk x c)) := by
      refine containsFunc_TermLL (by omega) (by omega) (fun k' e c hcc => ?_)
      obtain ⟨k', rfl, hq'⟩ := succ_of (show maxLen + 13 + 1 ≤ k' by omega)
      simp only [match_conditions_1, match_valid_ok hq' hwx.2.2.2.2.1.1 (hc c hcc), Option.bind_some]
    simp only [h, bne_self_eq_false, cond_false, hx, Option.bind_some, this]
    cases cs.any (fun c => !condOk x c) <;> rfl
  · have : (asked b [t] != 0) = true := by simpa using h
    simp only [this, cond_true]
    rfl
theorem ref12_isTerm_ok {k : Nat} {b : T_api_Base} {t : Int} {x : T_api_Type} {g : T_api_Term} (hk : maxLen + 12 ≤ k) (hw : wf_T_api_Base b) (h : asked b [t] = 0) (hx : idx b.fTypes t = some x) : ref12_isTerm k b t g = some (termOk x g) := by
  obtain ⟨k, rfl, hq⟩ := succ_of hk
  simp only [ref12_isTerm, ref11_Field_spec hq hw, Option.bind_some, fieldOf, h, bne_self_eq_false, cond_false, hx, termOk]
  show _ = some (decide (fieldAt x g.fField ≥ 0) && _)
  change ((bif ((found (fieldAt x g.fField)).2 == 0) then _ else _ : Option Bool).bind _) = _
  change ((bif ((found (fieldAt x g.fField)).2 == 0) then (bif decide (g.fOp ≥ 1) then (bif decide (g.fOp ≤ 6) then ((idx x.fFields (found (fieldAt x g.fField)).1).bind fun v4 => some ((g.fValue.length : Int) == v4.fBytes)) else some false) else some false) else some false : Option Bool).bind _) = _
  unfold found
  by_cases hp : fieldAt x g.fField ≥ 0
  · rw [decide_eq_true hp, decide_eq_false (show ¬ fieldAt x g.fField < 0 by omega), idx_of hp (fieldAt_lt x _)]
    simp only [cond_false, beq_self_eq_true, cond_true, idx_of hp (fieldAt_lt x _), Option.bind_some]
    cases decide (g.fOp ≥ 1) <;> cases decide (g.fOp ≤ 6) <;> rfl
  · rw [decide_eq_false hp, decide_eq_true (show fieldAt x g.fField < 0 by omega)]
    rfl
theorem isCondition_L2 {k : Nat} {b : T_api_Base} {t : Int} {x : T_api_Type} {c : Cond} {i m : Nat} {K : Option Bool} (hk : maxLen + 12 ≤ k) (hw : wf_T_api_Base b) (h : asked b [t] = 0) (hx : idx b.fTypes t = some x) (hi : i < c.length) (hl : (c[i]).length ≤ maxLen) (hm : maxLen < m) :
    ref12_isCondition_L2 k b t c (i : Int) (fun _ => K) m 0 = bif (c[i]).any (fun g => !termOk x g) then some false else K := by
  refine Eq.trans (loop0 (L := fun m x => ref12_isCondition_L2 k b t c (i : Int) (fun _ => K) m x) (n := (c[i]).length) (g := at' c[i] (fun g => !termOk x g)) (r := fun _ => some false) (z := K) ?_ ?_ (by omega)) ?_
  rotate_left 2
  · rw [scan_const, anyB_any]
  · intro m j hj _
    simp only [ref12_isCondition_L2, idx_at hi, idx_at hj, at'_eq hj, Option.bind_some, wrap_next hj hl, show decide ((j : Int) < ((c[i]).length : Int)) = true by simp; exact hj, cond_true, ref12_isTerm_ok hk hw h hx]
  · intro m _
    simp only [ref12_isCondition_L2, idx_at hi, Option.bind_some, show decide (((c[i]).length : Int) < ((c[i]).length : Int)) = false by simp, cond_false]
theorem ref12_isCondition_ok {k : Nat} {b : T_api_Base} {t : Int} {x : T_api_Type} {c : Cond} (hk : maxLen + 13 ≤ k) (hw : wf_T_api_Base b) (hc : wfL (wfL wf_T_api_Term) c) (h : asked b [t] = 0) (hx : idx b.fTypes t = some x) : ref12_isCondition k b t c = some (condOk x c) := by
  obtain ⟨k, rfl, hq⟩ := succ_of hk
  simp only [ref12_isCondition]
  refine Eq.trans (loop0 (L := fun m x => ref12_isCondition_L1 k b t c _ m x) (n := c.length) (g := at' c (groupBad x)) (r := fun _ => some false) (z := some (decide ((c.length : Int) ≤ 4))) ?_ ?_ (by have := hc.1; omega)) ?_
  rotate_left 2
  · rw [scan_const, anyB_any, condOk]
    cases c.any (groupBad x) <;> cases decide ((c.length : Int) ≤ 4) <;> rfl
  · intro m i hi _
    simp only [ref12_isCondition_L1, idx_at hi, at'_eq hi, Option.bind_some, wrap_next hi hc.1, show decide ((i : Int) < (c.length : Int)) = true by simp; exact hi, cond_true, isCondition_L2 (m := k) hq hw h hx hi (hc.2 _ (List.getElem_mem hi)).1 (by omega), groupBad]
    cases decide (((c[i]).length : Int) < 1) <;> cases decide (((c[i]).length : Int) > 4) <;> rfl
  · intro m _
    simp only [ref12_isCondition_L1, show decide ((c.length : Int) < (c.length : Int)) = false by simp, cond_false]
end Go.Sh

namespace Go.Sh
open Go.AE
set_option linter.unusedVariables false
set_option linter.unusedSimpArgs false
/-- A loop that goes through the places of a list and may stop comes to something. -/
theorem total_loop {S β : Type} {n : Nat} {L : Nat → Int → S → Option β}
    (hs : ∀ m i s, i < n → (∃ r, L (m + 1) (i : Int) s = some r) ∨ ∃ s', L (m + 1) (i : Int) s = L m ((i + 1 : Nat) : Int) s')
    (he : ∀ m s, ∃ r, L (m + 1) (n : Int) s = some r) : ∀ d i m, i + d = n → d < m → ∀ s, ∃ r, L m (i : Int) s = some r
  | 0, i, m, hd, hm, s => by
    obtain ⟨m, rfl⟩ : ∃ q, m = q + 1 := ⟨m - 1, by omega⟩
    obtain rfl : i = n := by omega
    exact he m s
  | d + 1, i, m, hd, hm, s => by
    obtain ⟨m, rfl⟩ : ∃ q, m = q + 1 := ⟨m - 1, by omega⟩
    rcases hs m i s (by omega) with h | ⟨s', h⟩
    · exact h
    · rw [h]
      exact total_loop hs he d (i + 1) m (by omega) (by omega) s'
theorem bif3 {b1 b2 b3 : Bool} {β : Type} {f : Bool → Option β} : ((bif b1 then some true else (bif b2 then some true else some b3)).bind f) = f (b1 || (b2 || b3)) := by
  cases b1 <;> cases b2 <;> rfl
theorem loopT {β : Type} {n : Nat} {L : Nat → Int → Option β} (hs : ∀ m i, i < n → (∃ r, L (m + 1) (i : Int) = some r) ∨ L (m + 1) (i : Int) = L m ((i + 1 : Nat) : Int)) (he : ∀ m, ∃ r, L (m + 1) (n : Int) = some r) {m : Nat} (hm : n < m) : ∃ r, L m 0 = some r :=
  total_loop (S := Unit) (L := fun m x _ => L m x) (fun m i _ hi => (hs m i hi).imp id (fun h => ⟨(), h⟩)) (fun m _ => he m) n 0 m (by omega) hm ()
/-- A loop inside, of which it is known that it stops or goes on. -/
theorem loopI {β : Type} {n : Nat} {L : Nat → Int → Option β} {K : Option β} (hs : ∀ m i, i < n → (∃ r, L (m + 1) (i : Int) = some r) ∨ L (m + 1) (i : Int) = L m ((i + 1 : Nat) : Int)) (he : ∀ m, (∃ r, L (m + 1) (n : Int) = some r) ∨ L (m + 1) (n : Int) = K) {m : Nat} (hm : n < m) : (∃ r, L m 0 = some r) ∨ L m 0 = K := by
  have : ∀ d i m, i + d = n → d < m → (∃ r, L m (i : Int) = some r) ∨ L m (i : Int) = K := by
    intro d
    induction d with
    | zero =>
      intro i m hd hm
      obtain ⟨m, rfl⟩ : ∃ q, m = q + 1 := ⟨m - 1, by omega⟩
      obtain rfl : i = n := by omega
      exact he m
    | succ d ih =>
      intro i m hd hm
      obtain ⟨m, rfl⟩ : ∃ q, m = q + 1 := ⟨m - 1, by omega⟩
      rcases hs m i (by omega) with h | h
      · exact .inl h
      · rw [h]; exact ih (i + 1) m (by omega) (by omega)
  exact this n 0 m (by omega) hm
theorem bif2 {b1 b2 : Bool} {β : Type} {f : Bool → Option β} : ((bif b1 then some true else some b2).bind f) = f (b1 || b2) := by
  cases b1 <;> rfl
theorem stop_or {β : Type} {b : Bool} {r : β} {x : Option β} : (∃ q, (bif b then some r else x) = some q) ∨ (bif b then some r else x) = x := by
  cases b
  · exact .inr rfl
  · exact .inl ⟨_, rfl⟩
theorem large_total {k : Nat} {b : T_api_Base} (hk : maxLen + 2 ≤ k) (hw : wf_T_api_Base b) : ∃ r, law12_Large k b = some r := by
  obtain ⟨k, rfl, hq⟩ := succ_of (c := maxLen + 1) hk
  have hl := hw.2.2.1.1
  have hl3 := hw.2.2.2.1.1
  simp only [law12_Large, bif3]
  cases decide ((b.fTypes.length : Int) > 20) || (decide ((b.fIndexes.length : Int) > 20) || decide ((b.fName.length : Int) > 40)) with
  | true => exact ⟨_, rfl⟩
  | false =>
    simp only [cond_false]
    refine loopT (L := fun m x => law12_Large_L1 k b _ m x) (n := b.fTypes.length) ?_ ?_ (by omega)
    · intro m i hi
      simp only [law12_Large_L1, idx_at hi, Option.bind_some, wrap_next hi hl, show decide ((i : Int) < (b.fTypes.length : Int)) = true by simp; exact hi, cond_true, bif2]
      cases decide (((b.fTypes[i]).fFields.length : Int) > 20) || decide (((b.fTypes[i]).fName.length : Int) > 40) with
      | true => exact .inl ⟨_, rfl⟩
      | false =>
        simp only [cond_false]
        have hlf := (hw.2.2.1.2 _ (List.getElem_mem hi)).2.2.2.2.1.1
        refine loopI (L := fun m x => law12_Large_L2 b (i : Int) _ m x) (n := (b.fTypes[i]).fFields.length) ?_ ?_ (by omega)
        · intro m j hj
          simp only [law12_Large_L2, idx_at hi, idx_at hj, Option.bind_some, wrap_next hj hlf, show decide ((j : Int) < ((b.fTypes[i]).fFields.length : Int)) = true by simp; exact hj, cond_true]
          exact stop_or
        · intro m
          simp only [law12_Large_L2, idx_at hi, Option.bind_some, show decide (((b.fTypes[i]).fFields.length : Int) < ((b.fTypes[i]).fFields.length : Int)) = false by simp, cond_false]
          exact .inr trivial
    · intro m
      simp only [law12_Large_L1, show decide ((b.fTypes.length : Int) < (b.fTypes.length : Int)) = false by simp, cond_false]
      refine loopT (L := fun m x => law12_Large_L3 b _ m x) (n := b.fIndexes.length) ?_ ?_ (by omega)
      · intro m i hi
        simp only [law12_Large_L3, idx_at hi, Option.bind_some, wrap_next hi hl3, show decide ((i : Int) < (b.fIndexes.length : Int)) = true by simp; exact hi, cond_true, bif2]
        exact stop_or
      · intro m
        simp only [law12_Large_L3, show decide ((b.fIndexes.length : Int) < (b.fIndexes.length : Int)) = false by simp, cond_false]
        exact ⟨_, rfl⟩
theorem long_total {k : Nat} {c : Cond} (hk : maxLen + 2 ≤ k) (hc : wfL (wfL wf_T_api_Term) c) : ∃ r, law12_Long k c = some r := by
  obtain ⟨k, rfl, hq⟩ := succ_of (c := maxLen + 1) hk
  simp only [law12_Long]
  refine loopT (L := fun m x => law12_Long_L1 k c _ m x) (n := c.length) ?_ ?_ (by have := hc.1; omega)
  · intro m i hi
    simp only [law12_Long_L1, idx_at hi, Option.bind_some, wrap_next hi hc.1, show decide ((i : Int) < (c.length : Int)) = true by simp; exact hi, cond_true]
    cases decide (((c[i]).length : Int) > 20) with
    | true => exact .inl ⟨_, rfl⟩
    | false =>
      simp only [cond_false]
      have hlf := (hc.2 _ (List.getElem_mem hi)).1
      refine loopI (L := fun m x => law12_Long_L2 c (i : Int) _ m x) (n := (c[i]).length) ?_ ?_ (by omega)
      · intro m j hj
        simp only [law12_Long_L2, idx_at hi, idx_at hj, Option.bind_some, wrap_next hj hlf, show decide ((j : Int) < ((c[i]).length : Int)) = true by simp; exact hj, cond_true, bif2]
        exact stop_or
      · intro m
        simp only [law12_Long_L2, idx_at hi, Option.bind_some, show decide (((c[i]).length : Int) < ((c[i]).length : Int)) = false by simp, cond_false]
        exact .inr trivial
  · intro m
    simp only [law12_Long_L1, show decide ((c.length : Int) < (c.length : Int)) = false by simp, cond_false]
    exact ⟨_, rfl⟩
def shop12 : T_api_Base := { fName := [83, 72, 79, 80], fKind := 4, fTypes := [{ fName := [67, 85, 83, 84], fParent := (-1), fMin := 4, fSize := 10, fFields := [{ fName := [67, 85, 83, 84, 78, 79], fAt := 0, fBytes := 4 }], fKey := 0, fUnique := true, fLast := false }], fIndexes := [] }
def term6 : T_api_Term := { fField := [67, 85, 83, 84, 78, 79], fOp := 6, fValue := [48, 49, 48, 48] }
def term4 : T_api_Term := { fField := [67, 85, 83, 84, 78, 79], fOp := 4, fValue := [48, 49, 57, 57] }
theorem wfS_short {l : Str} (h : l.length ≤ 1000) : wfS l := by
  have e63 := maxLen_eq
  show l.length ≤ maxLen
  omega
theorem wfI_small {n : Int} (h : -1000 ≤ n) (h' : n ≤ 1000) : wfI .i64 n := by
  unfold wfI Lit.wf
  have e1 : IntKind.i64.min = -9223372036854775808 := by decide
  have e2 : IntKind.i64.max = 9223372036854775807 := by decide
  simp only [e1, e2, Bool.and_eq_true, decide_eq_true_eq]
  omega
theorem shop12_wf : wf_T_api_Base shop12 := by
  have e63 := maxLen_eq
  refine ⟨wfS_short (by decide), wfI_small (by decide) (by decide), ⟨by simp [shop12]; omega, fun t ht => ?_⟩, ⟨by simp [shop12], fun x hx => by cases hx⟩, trivial⟩
  have ht' : t = { fName := [67, 85, 83, 84], fParent := (-1), fMin := 4, fSize := 10, fFields := [{ fName := [67, 85, 83, 84, 78, 79], fAt := 0, fBytes := 4 }], fKey := 0, fUnique := true, fLast := false } := by simpa [shop12] using ht
  subst ht'
  refine ⟨wfS_short (by decide), wfI_small (by decide) (by decide), wfI_small (by decide) (by decide), wfI_small (by decide) (by decide), ⟨by simp; omega, fun f hf => ?_⟩, wfI_small (by decide) (by decide), trivial, trivial, trivial⟩
  have hf' : f = { fName := [67, 85, 83, 84, 78, 79], fAt := 0, fBytes := 4 } := by simpa using hf
  subst hf'
  exact ⟨wfS_short (by decide), wfI_small (by decide) (by decide), wfI_small (by decide) (by decide), trivial⟩
theorem cond12_wf : wfL (wfL wf_T_api_Term) [[term6, term4]] := by
  have e63 := maxLen_eq
  refine ⟨by simp; omega, fun g hg => ?_⟩
  obtain rfl : g = [term6, term4] := by simpa using hg
  refine ⟨by simp; omega, fun t ht => ?_⟩
  rcases (by simpa using ht : t = term6 ∨ t = term4) with rfl | rfl
  · exact ⟨wfS_short (by decide), wfI_small (by decide) (by decide), wfS_short (by decide), trivial⟩
  · exact ⟨wfS_short (by decide), wfI_small (by decide) (by decide), wfS_short (by decide), trivial⟩
theorem conds12 : condsOf shop12 0 [[[term6, term4]]] = ((shop12.fTypes[0]'(by decide)), 0) := by
  have : (condsOf shop12 0 [[[term6, term4]]] == ((shop12.fTypes[0]'(by decide)), (0 : Int))) = true := by decide +kernel
  exact eq_of_beq this
theorem awake12 {k : Nat} (hk : maxLen + 21 ≤ k) : law12_Awake k = some true := by
  have e63 := maxLen_eq
  obtain ⟨k, rfl, hq⟩ := succ_of (c := maxLen + 20) hk
  obtain ⟨k, rfl, hq2⟩ := succ_of (c := maxLen + 19) hq
  have hs : law12_shop (k + 1) = some shop12 := rfl
  have hc : match_conditions k shop12 0 [[[term6, term4]]] = some (shop12.fTypes[0]'(by decide), 0) := by
    have e1 : ∀ c ∈ [[[term6, term4]]], wfL (wfL wf_T_api_Term) c := by
      intro c hc
      have e : c = [[term6, term4]] := by simpa using hc
      rw [e]; exact cond12_wf
    rw [match_conditions_ok (by omega) shop12_wf (by simp) e1, conds12]
  obtain ⟨k, rfl⟩ : ∃ q, k = q + 8 := ⟨k - 8, by omega⟩
  have hf : match_Format (k + 8 + 1) shop12 0 [[term6, term4]] = some ([67, 85, 83, 84, 78, 79, 32, 32, 62, 61, 48, 49, 48, 48, 38, 67, 85, 83, 84, 78, 79, 32, 32, 60, 61, 48, 49, 57, 57], 0) := by
    simp only [match_Format, hc, Option.bind_some]
    rfl
  have hr : match_Range (k + 8 + 1) shop12 0 [[term6, term4]] = some ([48, 49, 48, 48], [48, 49, 57, 57], 0) := by
    simp only [match_Range, hc, Option.bind_some]
    rfl
  unfold term6 term4 at hf hr
  simp only [law12_Awake, hs, hf, hr, Option.bind_some]
  rfl
end Go.Sh

namespace Go.Sh
open Go.AE
set_option linter.unusedVariables false
set_option linter.unusedSimpArgs false
def standsS (v : Str) (op : Int) (w : Str) : Bool :=
  bif op == 1 then v == w else bif op == 2 then !(v == w) else bif op == 3 then bytesLt v w else bif op == 4 then bytesLt v w || v == w else bif op == 5 then !(bytesLt v w || v == w) else !bytesLt v w
theorem cmp_cases : ∀ a b : Str, (cmpB a b = -1 ∧ bytesLt a b = true ∧ (a == b) = false) ∨ (cmpB a b = 0 ∧ bytesLt a b = false ∧ (a == b) = true) ∨ (cmpB a b = 1 ∧ bytesLt a b = false ∧ (a == b) = false)
  | [], [] => .inr (.inl ⟨rfl, rfl, rfl⟩)
  | [], _ :: _ => .inl ⟨rfl, rfl, rfl⟩
  | _ :: _, [] => .inr (.inr ⟨rfl, rfl, rfl⟩)
  | x :: a, y :: b => by
    unfold cmpB bytesLt
    by_cases h1 : x < y
    · have hne : x ≠ y := fun e => by subst e; exact UInt8.lt_irrefl x h1
      rw [if_pos h1, decide_eq_true h1]
      refine .inl ⟨rfl, rfl, ?_⟩
      rw [beq_eq_false_iff_ne]
      intro e
      injection e with e1 e2
      exact hne e1
    · rw [if_neg h1, decide_eq_false h1]
      by_cases h2 : y < x
      · have hne : x ≠ y := fun e => by subst e; exact UInt8.lt_irrefl x h2
        rw [if_pos h2, beq_eq_false_iff_ne.2 hne]
        refine .inr (.inr ⟨rfl, rfl, ?_⟩)
        rw [beq_eq_false_iff_ne]
        intro e
        injection e with e1 e2
        exact hne e1
      · rw [if_neg h2]
        have e : x = y := by
          have h1' : y ≤ x := UInt8.not_lt.1 h1
          have h2' : x ≤ y := UInt8.not_lt.1 h2
          exact UInt8.le_antisymm h2' h1'
        subst e
        simp only [beq_self_eq_true, Bool.false_or, Bool.true_and]
        rcases cmp_cases a b with ⟨c1, c2, c3⟩ | ⟨c1, c2, c3⟩ | ⟨c1, c2, c3⟩
        · exact .inl ⟨c1, c2, by rw [beq_eq_false_iff_ne] at c3 ⊢; intro e; injection e with e1 e2; exact c3 e2⟩
        · exact .inr (.inl ⟨c1, c2, by rw [eq_of_beq c3]; exact beq_self_eq_true _⟩)
        · exact .inr (.inr ⟨c1, c2, by rw [beq_eq_false_iff_ne] at c3 ⊢; intro e; injection e with e1 e2; exact c3 e2⟩)
theorem match_holds_ok {k : Nat} (hk : 2 ≤ k) (op : Int) (v w : Str) : match_holds k op v w = some (standsS v op w) := by
  obtain ⟨k, rfl, hq⟩ := succ_of (c := 1) hk
  obtain ⟨k, rfl, _⟩ := succ_of (c := 0) hq
  have e : strings_Compare (k + 1) v w = some (cmpB v w) := rfl
  simp only [match_holds, e, Option.bind_some, standsS]
  rcases cmp_cases v w with ⟨c1, c2, c3⟩ | ⟨c1, c2, c3⟩ | ⟨c1, c2, c3⟩ <;> rw [c1, c2, c3] <;> cases op == 1 <;> cases op == 2 <;> cases op == 3 <;> cases op == 4 <;> cases op == 5 <;> rfl
theorem ref12_stands_ok {k : Nat} (hk : 1 ≤ k) (op : Int) (v w : Str) : ref12_stands k v op w = some (standsS v op w) := by
  obtain ⟨k, rfl, _⟩ := succ_of (c := 0) hk
  simp only [ref12_stands, standsS]
  cases op == 1 <;> cases op == 2 <;> cases op == 3 <;> cases op == 4 <;> cases op == 5 <;> rfl
def holdsT (x : T_api_Type) (s : Str) (g : T_api_Term) : Bool := match idx x.fFields (fieldAt x g.fField) with
  | some f => (valueF f s).2 && standsS (valueF f s).1 g.fOp g.fValue
  | none => false
theorem term_field {x : T_api_Type} (hok : typeOk x = true) {g : T_api_Term} (hg : termOk x g = true) : ∃ f, idx x.fFields (fieldAt x g.fField) = some f ∧ 0 ≤ fieldAt x g.fField ∧ 0 ≤ f.fAt ∧ 1 ≤ f.fBytes ∧ f.fAt + f.fBytes ≤ 40 := by
  unfold termOk at hg
  simp only [Bool.and_eq_true, decide_eq_true_eq] at hg
  have h0 := hg.1
  have hlt := fieldAt_lt x g.fField
  have hf := field_ok hok (show (fieldAt x g.fField).toNat < x.fFields.length by omega)
  exact ⟨_, idx_of h0 hlt, h0, hf.1, hf.2.1, hf.2.2⟩
theorem match_Holds_1_ok {k : Nat} {x : T_api_Type} {s : Str} {g : T_api_Term} (hk : maxLen + 5 ≤ k) (hx : x.fFields.length ≤ maxLen) (hok : typeOk x = true) (hg : termOk x g = true) : match_Holds_1 k g x s = some (holdsT x s g) := by
  obtain ⟨k, rfl, hq⟩ := succ_of (c := maxLen + 4) hk
  obtain ⟨f, hf, h0, f0, f1, f2⟩ := term_field hok hg
  simp only [match_Holds_1, match_field_ok hq hx, Option.bind_some, hf, holdsT, wrap_in (show -9223372036854775808 ≤ f.fAt + f.fBytes by omega) (by omega), valueF]
  by_cases hs : f.fAt + f.fBytes ≤ (s.length : Int)
  · rw [decide_eq_true hs, decide_eq_false (show ¬ (f.fAt + f.fBytes > (s.length : Int)) by omega)]
    simp only [cond_true, cond_false, cut]
    rw [if_pos ⟨f0, by omega, hs⟩]
    simp only [Option.bind_some, match_holds_ok (show 2 ≤ k by omega), Bool.true_and]
  · rw [decide_eq_false hs, decide_eq_true (show f.fAt + f.fBytes > (s.length : Int) by omega)]
    rfl
theorem ref12_holds_ok {k : Nat} {b : T_api_Base} {t : Int} {x : T_api_Type} {s : Str} {g : T_api_Term} (hk : maxLen + 13 ≤ k) (hw : wf_T_api_Base b) (h : asked b [t] = 0) (hx : idx b.fTypes t = some x) (hok : typeOk x = true) (hfit : fitsT x s = true) (hg : termOk x g = true) : ref12_holds k b t g s = some (holdsT x s g) := by
  obtain ⟨k, rfl, hq⟩ := succ_of (c := maxLen + 12) hk
  obtain ⟨f, hf, h0, f0, f1, f2⟩ := term_field hok hg
  have e1 : fieldOf b t g.fField = (fieldAt x g.fField, 0) := by
    unfold fieldOf
    simp only [h, hx, bne_self_eq_false, cond_false]
    show found (fieldAt x g.fField) = _
    unfold found
    rw [decide_eq_false (show ¬ fieldAt x g.fField < 0 by omega)]
    rfl
  have e2 : valueOf b t s (fieldAt x g.fField) = ((valueF f s).1, (valueF f s).2, 0) := by
    unfold valueOf
    have hlt := fieldAt_lt x g.fField
    simp only [h, hx, hf, hfit, bne_self_eq_false, cond_false, Bool.not_true, Bool.false_or, decide_eq_false (show ¬ fieldAt x g.fField < 0 by omega), decide_eq_false (show ¬ fieldAt x g.fField ≥ (x.fFields.length : Int) by omega)]
  simp only [ref12_holds, ref11_Field_spec (show maxLen + 11 ≤ k by omega) hw, e1, Option.bind_some, ref11_Value_spec hq hw, e2, holdsT, hf, beq_self_eq_true, cond_true, ref12_stands_ok (show 1 ≤ k by omega)]
  cases (valueF f s).2 <;> rfl
def holdsC (x : T_api_Type) (s : Str) (c : Cond) : Bool := c.isEmpty || c.any (fun g => g.all (holdsT x s))
theorem condOk_terms {x : T_api_Type} {c : Cond} (h : condOk x c = true) : ∀ g ∈ c, ∀ t ∈ g, termOk x t = true := by
  intro g hg t ht
  unfold condOk at h
  simp only [Bool.and_eq_true, Bool.not_eq_true'] at h
  have h2 := h.2
  rw [List.any_eq_false] at h2
  have h3 := h2 g hg
  unfold groupBad at h3
  simp only [Bool.or_eq_true, not_or, Bool.not_eq_true] at h3
  have h4 := h3.2.2
  rw [List.any_eq_false] at h4
  have := h4 t ht
  simpa using this
theorem match_Holds_2_ok {k : Nat} {x : T_api_Type} {s : Str} {g : List T_api_Term} {f : Nat → T_api_Term → Option Bool} (hk : maxLen + 12 ≤ k) (hg : g.length ≤ maxLen) (hf : ∀ k', maxLen + 5 ≤ k' → ∀ t ∈ g, f k' t = some (holdsT x s t)) : match_Holds_2_v12 k g f = some (g.all (holdsT x s)) := by
  obtain ⟨k, rfl, hq⟩ := succ_of (c := maxLen + 11) hk
  have : slices_ContainsFunc_Term k g (fun j x0 => match_Holds_2_1_v12 j x0 f) = some (g.any (fun t => !holdsT x s t)) := by
    refine containsFunc_Term (by omega) hg (fun k' e t ht => ?_)
    obtain ⟨k', rfl, hq'⟩ := succ_of (show maxLen + 5 + 1 ≤ k' by omega)
    simp only [match_Holds_2_1_v12, hf k' hq' t ht, Option.bind_some]
  simp only [match_Holds_2_v12, this, Option.bind_some, List.not_any_eq_all_not, Bool.not_not]
theorem Holds_L2 {k : Nat} {b : T_api_Base} {t : Int} {x : T_api_Type} {c : Cond} {s : Str} {i : Nat} {K : Bool → Int → Option (Bool × Int)} {K' : Bool → Option (Bool × Int)} (hK : ∀ y z, K y z = K' y) (hk : maxLen + 13 ≤ k) (hw : wf_T_api_Base b) (h : asked b [t] = 0) (hx : idx b.fTypes t = some x) (hok : typeOk x = true) (hfit : fitsT x s = true) (hi : i < c.length) (hl : (c[i]).length ≤ maxLen)
    (hg : ∀ g ∈ c[i], termOk x g = true) : ∀ (d j m : Nat) (v : Bool), j + d = (c[i]).length → d < m → ref12_Holds_L2 k b t c s (i : Int) K m v (j : Int) = K' (v && ((c[i]).drop j).all (holdsT x s))
  | 0, j, m, v, hd, hm => by
    obtain ⟨m, rfl⟩ : ∃ q, m = q + 1 := ⟨m - 1, by omega⟩
    obtain rfl : j = (c[i]).length := by omega
    simp only [ref12_Holds_L2, idx_at hi, Option.bind_some, show decide (((c[i]).length : Int) < ((c[i]).length : Int)) = false by simp, cond_false, hK, List.drop_length, List.all_nil, Bool.and_true]
  | d + 1, j, m, v, hd, hm => by
    obtain ⟨m, rfl⟩ : ∃ q, m = q + 1 := ⟨m - 1, by omega⟩
    have hj : j < (c[i]).length := by omega
    simp only [ref12_Holds_L2, idx_at hi, idx_at hj, Option.bind_some, wrap_next hj hl, show decide ((j : Int) < ((c[i]).length : Int)) = true by simp; exact hj, cond_true, ref12_holds_ok hk hw h hx hok hfit (hg _ (List.getElem_mem hj))]
    have e : ((bif v then some (holdsT x s (c[i])[j]) else some false).bind fun o39 => ref12_Holds_L2 k b t c s (i : Int) K m o39 ((j + 1 : Nat) : Int)) = ref12_Holds_L2 k b t c s (i : Int) K m (v && holdsT x s (c[i])[j]) ((j + 1 : Nat) : Int) := by cases v <;> rfl
    refine e.trans ?_
    rw [Holds_L2 hK hk hw h hx hok hfit hi hl hg d (j + 1) m _ (by omega) (by omega), List.drop_eq_getElem_cons hj, List.all_cons, Bool.and_assoc]
theorem Holds_L1 {k : Nat} {b : T_api_Base} {t : Int} {x : T_api_Type} {c : Cond} {s : Str} (hk : maxLen + 13 ≤ k) (hw : wf_T_api_Base b) (hc : wfL (wfL wf_T_api_Term) c) (h : asked b [t] = 0) (hx : idx b.fTypes t = some x) (hok : typeOk x = true) (hfit : fitsT x s = true)
    (hg : ∀ g ∈ c, ∀ t ∈ g, termOk x t = true) : ∀ (d i m : Nat) (v : Bool), i + d = c.length → d < m → ref12_Holds_L1 k b t c s (fun y43 _ => some (y43, 0)) m v (i : Int) = some (v || (c.drop i).any (fun g => g.all (holdsT x s)), 0)
  | 0, i, m, v, hd, hm => by
    obtain ⟨m, rfl⟩ : ∃ q, m = q + 1 := ⟨m - 1, by omega⟩
    obtain rfl : i = c.length := by omega
    simp only [ref12_Holds_L1, show decide ((c.length : Int) < (c.length : Int)) = false by simp, cond_false, List.drop_length, List.any_nil, Bool.or_false]
  | d + 1, i, m, v, hd, hm => by
    obtain ⟨m, rfl⟩ : ∃ q, m = q + 1 := ⟨m - 1, by omega⟩
    have hi : i < c.length := by omega
    have hl := (hc.2 _ (List.getElem_mem hi)).1
    simp only [ref12_Holds_L1, wrap_next hi hc.1, show decide ((i : Int) < (c.length : Int)) = true by simp; exact hi, cond_true]
    have e := Holds_L2 (i := i) (s := s) (K := fun y40 y41 => ((bif v then (some (true)) else (some (y40))).bind fun o42 => ref12_Holds_L1 k b t c s (fun y43 _ => some (y43, 0)) m o42 ((i + 1 : Nat) : Int))) (K' := fun y => ref12_Holds_L1 k b t c s (fun y43 _ => some (y43, 0)) m (v || y) ((i + 1 : Nat) : Int)) (by intro y z; cases v <;> rfl) hk hw h hx hok hfit hi hl (hg _ (List.getElem_mem hi)) (c[i]).length 0 k true (by omega) (by omega)
    refine e.trans ?_
    rw [Holds_L1 hk hw hc h hx hok hfit hg d (i + 1) m _ (by omega) (by omega), List.drop_eq_getElem_cons hi, List.any_cons, Bool.or_assoc, List.drop_zero, Bool.true_and]
theorem match_Holds_ok {k : Nat} {b : T_api_Base} {t : Int} {c : Cond} {s : Str} (hk : maxLen + 20 ≤ k) (hw : wf_T_api_Base b) (hc : wfL (wfL wf_T_api_Term) c) : ∃ r, match_Holds k b t c s = some r ∧ ref12_Holds k b t c s = some r := by
  have e63 := maxLen_eq
  obtain ⟨k, rfl, hq⟩ := succ_of (c := maxLen + 19) hk
  simp only [match_Holds, ref12_Holds, dbd_Fits_spec (show maxLen + 11 ≤ k by omega) hw, ref11_Fits_spec (show maxLen + 11 ≤ k by omega) hw, ref12_isType_ok (show maxLen + 10 ≤ k by omega) hw, match_conditions_ok (cs := [c]) (show maxLen + 18 ≤ k by omega) hw (by simp) (fun d hd => by simp at hd; subst hd; exact hc), Option.bind_some, fitsOf]
  by_cases h : asked b [t] = 0
  · obtain ⟨x, hx, hwx, hok, _, _, _⟩ := asked_type hw h
    simp only [h, hx, bne_self_eq_false, cond_false, condsOf, List.any_cons, List.any_nil, Bool.or_false, ref12_isCondition_ok (show maxLen + 13 ≤ k by omega) hw hc h hx, Option.bind_some]
    cases hfit : fitsT x s with
    | false => exact ⟨_, rfl, rfl⟩
    | true =>
      cases hcok : condOk x c with
      | false => exact ⟨_, rfl, rfl⟩
      | true =>
        have hterms := condOk_terms hcok
        simp only [Bool.not_true, cond_false, bne_self_eq_false]
        have e1 := Holds_L1 (s := s) (k := k) (by omega) hw hc h hx hok hfit hterms c.length 0 k ((c.length : Int) == 0) (by omega) (by have := hc.1; omega)
        have e2 : slices_ContainsFunc_TermL k c (fun j x0 => match_Holds_2_v12 j x0 (fun j x0 => match_Holds_1 j x0 x s)) = some (c.any (fun g => g.all (holdsT x s))) :=
          containsFunc_TermL (by have := hc.1; omega) hc.1 (fun k' e g hg => match_Holds_2_ok (by omega) (hc.2 g hg).1 (fun k'' hk'' t' ht => match_Holds_1_ok hk'' hwx.2.2.2.2.1.1 hok (hterms g hg t' ht)))
        refine ⟨_, ?_, e1⟩
        simp only [e2, Option.bind_some, List.drop_zero]
        cases ((c.length : Int) == 0) <;> rfl
  · have : (asked b [t] != 0) = true := by simpa using h
    simp only [this, cond_true]
    exact ⟨_, rfl, rfl⟩
end Go.Sh

namespace Go.Sh
open Go.AE
set_option linter.unusedVariables false
set_option linter.unusedSimpArgs false
theorem clone_ok {k : Nat} {g : List T_api_Term} (hk : 2 ≤ k) (hg : g.length ≤ 1000) : slices_Clone_Term k g = some g := by
  obtain ⟨k, rfl, _⟩ := succ_of (c := 1) hk
  cases g with
  | nil => rfl
  | cons y l =>
    show slices_Clone_Term_c (k + 1) y l = _
    simp only [slices_Clone_Term_c]
    rw [app_ok (by simp only [List.length_nil, maxList]; omega)]
    rfl
theorem copied_L1 {k : Nat} {c : Cond} (hk : 2 ≤ k) (hc : c.length ≤ 1000) (hg : ∀ g ∈ c, g.length ≤ 1000) : ∀ (d i m : Nat), i + d = c.length → d < m → match_copied_L1 k c (fun y13 _ => some y13) m (c.take i) (i : Int) = some c
  | 0, i, m, hd, hm => by
    obtain ⟨m, rfl⟩ : ∃ q, m = q + 1 := ⟨m - 1, by omega⟩
    obtain rfl : i = c.length := by omega
    simp only [match_copied_L1, show decide ((c.length : Int) < (c.length : Int)) = false by simp, cond_false, List.take_length]
  | d + 1, i, m, hd, hm => by
    obtain ⟨m, rfl⟩ : ∃ q, m = q + 1 := ⟨m - 1, by omega⟩
    have hi : i < c.length := by omega
    simp only [match_copied_L1, show decide ((i : Int) < (c.length : Int)) = true by simp; exact hi, cond_true, idx_at hi, Option.bind_some, clone_ok hk (hg _ (List.getElem_mem hi)), wrap_next hi (show c.length ≤ maxLen by rw [maxLen_eq]; omega)]
    rw [app_ok (by simp only [List.length_take, List.length_cons, List.length_nil, maxList]; omega), Option.bind_some, ← List.take_succ_eq_append_getElem hi]
    exact copied_L1 hk hc hg d (i + 1) m (by omega) (by omega)
theorem match_copied_ok {k : Nat} {c : Cond} (hk : 2000 ≤ k) (hc : c.length ≤ 1000) (hg : ∀ g ∈ c, g.length ≤ 1000) : match_copied k c = some c := by
  obtain ⟨k, rfl, hq⟩ := succ_of (c := 1999) hk
  exact copied_L1 (k := k) (by omega) hc hg c.length 0 k (by omega) (by omega)
def prods (c d : Cond) : Cond := c.flatMap fun l => d.map (l ++ ·)
theorem concat2_ok {k : Nat} {l m : List T_api_Term} (hk : 1 ≤ k) (h : l.length + m.length ≤ 1000) : slices_Concat_Term k [l, m] = some (l ++ m) := by
  obtain ⟨k, rfl, _⟩ := succ_of (c := 0) hk
  show (if ([l, m] : List (List T_api_Term)).length ≤ 1000 ∧ ([l, m] : List (List T_api_Term)).flatten.length ≤ 4294967296 then some ([l, m] : List (List T_api_Term)).flatten else none) = _
  rw [if_pos ⟨by simp, by simp; omega⟩]
  simp
theorem and_L2 {k : Nat} {d : Cond} {l : List T_api_Term} {out : Cond} {K : Cond → Int → Option (Cond × Int)} {K' : Cond → Option (Cond × Int)} (hK : ∀ y z, K y z = K' y) (hk : 1 ≤ k) (hd : d.length ≤ 4) (hl : l.length ≤ 4) (hg : ∀ g ∈ d, g.length ≤ 4) (ho : out.length ≤ 1000) : ∀ (n i m : Nat), i + n = d.length → n < m →
    match_And_L2 k d l K m (out ++ (d.take i).map (l ++ ·)) (i : Int) = K' (out ++ d.map (l ++ ·))
  | 0, i, m, hn, hm => by
    obtain ⟨m, rfl⟩ : ∃ q, m = q + 1 := ⟨m - 1, by omega⟩
    obtain rfl : i = d.length := by omega
    simp only [match_And_L2, show decide ((d.length : Int) < (d.length : Int)) = false by simp, cond_false, List.take_length, hK]
  | n + 1, i, m, hn, hm => by
    obtain ⟨m, rfl⟩ : ∃ q, m = q + 1 := ⟨m - 1, by omega⟩
    have hi : i < d.length := by omega
    have hgi := hg _ (List.getElem_mem hi)
    simp only [match_And_L2, show decide ((i : Int) < (d.length : Int)) = true by simp; exact hi, cond_true, idx_at hi, Option.bind_some, concat2_ok hk (show l.length + (d[i]).length ≤ 1000 by omega), wrap_next hi (show d.length ≤ maxLen by rw [maxLen_eq]; omega)]
    rw [app_ok (by simp only [List.length_append, List.length_map, List.length_take, List.length_cons, List.length_nil, maxList]; omega), Option.bind_some]
    have e : out ++ (d.take i).map (l ++ ·) ++ [l ++ d[i]] = out ++ (d.take (i + 1)).map (l ++ ·) := by rw [List.take_succ_eq_append_getElem hi, List.map_append, List.append_assoc]; rfl
    rw [e]
    exact and_L2 hK hk hd hl hg ho n (i + 1) m (by omega) (by omega)
theorem prods_len (c d : Cond) : (prods c d).length = c.length * d.length := by
  unfold prods
  induction c with
  | nil => simp
  | cons x c ih => rw [List.flatMap_cons, List.length_append, ih, List.length_map, List.length_cons, Nat.succ_mul, Nat.add_comm]
theorem prods_take {c d : Cond} {i : Nat} (hi : i < c.length) : prods (c.take (i + 1)) d = prods (c.take i) d ++ d.map (c[i] ++ ·) := by
  rw [List.take_succ_eq_append_getElem hi]
  unfold prods
  rw [List.flatMap_append]
  simp
theorem and_L1 {k : Nat} {c d : Cond} {K : Cond → Int → Option (Cond × Int)} {K' : Cond → Option (Cond × Int)} (hK : ∀ y z, K y z = K' y) (hk : 10 ≤ k) (hc : c.length ≤ 4) (hd : d.length ≤ 4) (hgc : ∀ g ∈ c, g.length ≤ 4) (hgd : ∀ g ∈ d, g.length ≤ 4) : ∀ (n i m : Nat), i + n = c.length → n < m →
    match_And_L1 k c d K m (prods (c.take i) d) (i : Int) = K' (prods c d)
  | 0, i, m, hn, hm => by
    obtain ⟨m, rfl⟩ : ∃ q, m = q + 1 := ⟨m - 1, by omega⟩
    obtain rfl : i = c.length := by omega
    simp only [match_And_L1, show decide ((c.length : Int) < (c.length : Int)) = false by simp, cond_false, List.take_length, hK]
  | n + 1, i, m, hn, hm => by
    obtain ⟨m, rfl⟩ : ∃ q, m = q + 1 := ⟨m - 1, by omega⟩
    have hi : i < c.length := by omega
    simp only [match_And_L1, show decide ((i : Int) < (c.length : Int)) = true by simp; exact hi, cond_true, idx_at hi, Option.bind_some, wrap_next hi (show c.length ≤ maxLen by rw [maxLen_eq]; omega)]
    have hout : (prods (c.take i) d).length ≤ 1000 := by
      rw [prods_len, List.length_take]
      have : min i c.length * d.length ≤ 4 * 4 := Nat.mul_le_mul (by omega) hd
      omega
    have := and_L2 (k := k) (K := fun y39 y40 => match_And_L1 k c d K m y39 ((i + 1 : Nat) : Int)) (K' := fun y => match_And_L1 k c d K m y ((i + 1 : Nat) : Int)) (fun _ _ => rfl) (by omega) hd (hgc _ (List.getElem_mem hi)) hgd hout d.length 0 k (by omega) (by omega)
    simp only [List.take_zero, List.map_nil, List.append_nil] at this
    refine Eq.trans this ?_
    rw [← prods_take hi]
    exact and_L1 hK hk hc hd hgc hgd n (i + 1) m (by omega) (by omega)
theorem condOk_len' {x : T_api_Type} {c : Cond} (h : condOk x c = true) : c.length ≤ 4 ∧ ∀ g ∈ c, g.length ≤ 4 := by
  unfold condOk at h
  simp only [Bool.and_eq_true, Bool.not_eq_true', decide_eq_true_eq] at h
  refine ⟨by omega, fun g hg => ?_⟩
  have h2 := h.2
  rw [List.any_eq_false] at h2
  have h3 := h2 g hg
  unfold groupBad at h3
  simp only [Bool.or_eq_true, not_or, Bool.not_eq_true, decide_eq_false_iff_not] at h3
  omega
theorem short_wf {c : Cond} (hc : c.length ≤ 1000) (h : ∀ g ∈ c, g.length ≤ 1000 ∧ ∀ t ∈ g, wf_T_api_Term t) : wfL (wfL wf_T_api_Term) c := by
  have e63 := maxLen_eq
  exact ⟨by omega, fun g hg => ⟨by have := (h g hg).1; omega, (h g hg).2⟩⟩
theorem prods_wf {c d : Cond} (hc : c.length ≤ 4) (hd : d.length ≤ 4) (hgc : ∀ g ∈ c, g.length ≤ 4) (hgd : ∀ g ∈ d, g.length ≤ 4) (wc : wfL (wfL wf_T_api_Term) c) (wd : wfL (wfL wf_T_api_Term) d) : wfL (wfL wf_T_api_Term) (prods c d) := by
  refine short_wf ?_ (fun g hg => ?_)
  · rw [prods_len]
    have : c.length * d.length ≤ 4 * 4 := Nat.mul_le_mul hc hd
    omega
  · unfold prods at hg
    rw [List.mem_flatMap] at hg
    obtain ⟨l, hl, hg⟩ := hg
    rw [List.mem_map] at hg
    obtain ⟨m, hm, rfl⟩ := hg
    refine ⟨by have := hgc l hl; have := hgd m hm; simp only [List.length_append]; omega, fun t ht => ?_⟩
    rcases List.mem_append.1 ht with ht | ht
    · exact (wc.2 l hl).2 t ht
    · exact (wd.2 m hm).2 t ht
theorem two_mem {α : Type} {p : α → Prop} {a b : α} (ha : p a) (hb : p b) : ∀ x ∈ [a, b], p x := fun x hx => by
  rcases (by simpa using hx : x = a ∨ x = b) with rfl | rfl
  · exact ha
  · exact hb
theorem conds_two {b : T_api_Base} {t : Int} {c d : Cond} (hw : wf_T_api_Base b) : (∃ e, condsOf b t [c, d] = (zeroT, e) ∧ (e != 0) = true) ∨ ∃ x, condsOf b t [c, d] = (x, 0) ∧ idx b.fTypes t = some x ∧ asked b [t] = 0 ∧ wf_T_api_Type x ∧ condOk x c = true ∧ condOk x d = true := by
  unfold condsOf
  by_cases h : asked b [t] = 0
  · obtain ⟨x, hx, hwx, _⟩ := asked_type hw h
    simp only [h, hx, bne_self_eq_false, cond_false, List.any_cons, List.any_nil, Bool.or_false]
    cases h1 : condOk x c with
    | false => exact .inl ⟨110, rfl, rfl⟩
    | true =>
      cases h2 : condOk x d with
      | false => exact .inl ⟨110, rfl, rfl⟩
      | true => refine .inr ⟨x, ?_, ?_, ?_, hwx, ?_, ?_⟩ <;> first | rfl | trivial | assumption
  · have : (asked b [t] != 0) = true := by simpa using h
    simp only [this, cond_true]
    exact .inl ⟨_, rfl, this⟩
end Go.Sh

namespace Go.Sh
open Go.AE
set_option linter.unusedVariables false
set_option linter.unusedSimpArgs false
end Go.Sh

namespace Go.Sh
open Go.AE
set_option linter.unusedVariables false
set_option linter.unusedSimpArgs false
def holdsOf (b : T_api_Base) (t : Int) (c : Cond) (s : Str) : Bool × Int := bif asked b [t] != 0 then (false, asked b [t]) else match idx b.fTypes t with
  | some x => bif !fitsT x s then (false, 2) else bif !condOk x c then (false, 110) else (holdsC x s c, 0)
  | none => (false, 0)
theorem match_Holds_spec {k : Nat} {b : T_api_Base} {t : Int} {c : Cond} {s : Str} (hk : maxLen + 20 ≤ k) (hw : wf_T_api_Base b) (hc : wfL (wfL wf_T_api_Term) c) : match_Holds k b t c s = some (holdsOf b t c s) := by
  have e63 := maxLen_eq
  obtain ⟨k, rfl, hq⟩ := succ_of (c := maxLen + 19) hk
  have hone : ∀ d ∈ [c], wfL (wfL wf_T_api_Term) d := fun d hd => by
    rw [List.mem_singleton] at hd
    rw [hd]; exact hc
  simp only [match_Holds, dbd_Fits_spec (show maxLen + 11 ≤ k by omega) hw, match_conditions_ok (cs := [c]) (show maxLen + 18 ≤ k by omega) hw (by simp) hone, Option.bind_some, fitsOf, holdsOf]
  by_cases h : asked b [t] = 0
  · obtain ⟨x, hx, hwx, hok, _, _, _⟩ := asked_type hw h
    simp only [h, hx, bne_self_eq_false, cond_false, condsOf, List.any_cons, List.any_nil, Bool.or_false]
    cases hfit : fitsT x s with
    | false => rfl
    | true =>
      cases hcok : condOk x c with
      | false => rfl
      | true =>
        have hterms := condOk_terms hcok
        have e2 : slices_ContainsFunc_TermL k c (fun j x0 => match_Holds_2_v12 j x0 (fun j x0 => match_Holds_1 j x0 x s)) = some (c.any (fun g => g.all (holdsT x s))) :=
          containsFunc_TermL (by have := hc.1; omega) hc.1 (fun k' e g hg => match_Holds_2_ok (by omega) (hc.2 g hg).1 (fun k'' hk'' t' ht => match_Holds_1_ok hk'' hwx.2.2.2.2.1.1 hok (hterms g hg t' ht)))
        simp only [Bool.not_true, cond_false, bne_self_eq_false, e2, Option.bind_some, holdsC]
        cases c <;> rfl
  · have : (asked b [t] != 0) = true := by simpa using h
    simp only [this, cond_true]
def joinOf (b : T_api_Base) (t : Int) (c d out : Cond) : Cond × Int := bif !condOk (condsOf b t [c, d]).1 out then ([], 4) else (out, 0)
def andOf (b : T_api_Base) (t : Int) (c d : Cond) : Cond × Int := bif (condsOf b t [c, d]).2 != 0 then ([], (condsOf b t [c, d]).2) else bif ((c.length : Int) == 0) then (d, 0) else bif ((d.length : Int) == 0) then (c, 0) else joinOf b t c d (prods c d)
def orOf (b : T_api_Base) (t : Int) (c d : Cond) : Cond × Int := bif (condsOf b t [c, d]).2 != 0 then ([], (condsOf b t [c, d]).2) else bif ((c.length : Int) == 0) || ((d.length : Int) == 0) then ([], 0) else joinOf b t c d (c ++ d)
theorem limited_ok {k : Nat} {x : T_api_Type} {out : Cond} (hk : maxLen + 14 ≤ k) (hx : x.fFields.length ≤ maxLen) (ho : wfL (wfL wf_T_api_Term) out) : match_limited k x out = some (bif !condOk x out then ([], 4) else (out, 0)) := by
  obtain ⟨k, rfl, hq⟩ := succ_of (c := maxLen + 13) hk
  simp only [match_limited, match_valid_ok hq hx ho, Option.bind_some]
  cases condOk x out <;> rfl
theorem match_And_spec {k : Nat} {b : T_api_Base} {t : Int} {c d : Cond} (hk : maxLen + 20 ≤ k) (hw : wf_T_api_Base b) (hc : wfL (wfL wf_T_api_Term) c) (hd : wfL (wfL wf_T_api_Term) d) : match_And k b t c d = some (andOf b t c d) := by
  have e63 := maxLen_eq
  obtain ⟨k, rfl, hq⟩ := succ_of (c := maxLen + 19) hk
  simp only [match_And, andOf, joinOf, match_conditions_ok (cs := [c, d]) (show maxLen + 18 ≤ k by omega) hw (by simp) (two_mem hc hd), Option.bind_some]
  rcases conds_two (t := t) (c := c) (d := d) hw with ⟨e, h1, h2⟩ | ⟨x, h1, hx, ha, hwx, oc, od⟩
  · rw [h1]
    simp only [h2, cond_true]
  · obtain ⟨lc, gc⟩ := condOk_len' oc
    obtain ⟨ld, gd⟩ := condOk_len' od
    rw [h1]
    simp only [bne_self_eq_false, cond_false]
    cases ((c.length : Int) == 0) with
    | true => simp only [cond_true, match_copied_ok (show 2000 ≤ k by omega) (show d.length ≤ 1000 by omega) (fun g hg => by have := gd g hg; omega), Option.bind_some]
    | false =>
      cases ((d.length : Int) == 0) with
      | true => simp only [cond_true, cond_false, match_copied_ok (show 2000 ≤ k by omega) (show c.length ≤ 1000 by omega) (fun g hg => by have := gc g hg; omega), Option.bind_some]
      | false =>
        simp only [cond_false]
        have wp := prods_wf lc ld gc gd hc hd
        have e1 := and_L1 (k := k) (c := c) (d := d) (K := fun y41 y42 => ((match_limited k x y41).bind fun v43 => some (v43.1, v43.2)).bind fun o44 => some (o44.1, o44.2)) (K' := fun y41 => ((match_limited k x y41).bind fun v43 => some (v43.1, v43.2)).bind fun o44 => some (o44.1, o44.2)) (fun _ _ => rfl) (by omega) lc ld gc gd c.length 0 k (by omega) (by omega)
        refine Eq.trans e1 ?_
        simp only [limited_ok (show maxLen + 14 ≤ k by omega) hwx.2.2.2.2.1.1 wp, Option.bind_some]
theorem match_Or_spec {k : Nat} {b : T_api_Base} {t : Int} {c d : Cond} (hk : maxLen + 20 ≤ k) (hw : wf_T_api_Base b) (hc : wfL (wfL wf_T_api_Term) c) (hd : wfL (wfL wf_T_api_Term) d) : match_Or k b t c d = some (orOf b t c d) := by
  have e63 := maxLen_eq
  obtain ⟨k, rfl, hq⟩ := succ_of (c := maxLen + 19) hk
  simp only [match_Or, orOf, joinOf, match_conditions_ok (cs := [c, d]) (show maxLen + 18 ≤ k by omega) hw (by simp) (two_mem hc hd), Option.bind_some]
  rcases conds_two (t := t) (c := c) (d := d) hw with ⟨e, h1, h2⟩ | ⟨x, h1, hx, ha, hwx, oc, od⟩
  · rw [h1]
    simp only [h2, cond_true]
  · obtain ⟨lc, gc⟩ := condOk_len' oc
    obtain ⟨ld, gd⟩ := condOk_len' od
    rw [h1]
    simp only [bne_self_eq_false, cond_false, bif2]
    cases ((c.length : Int) == 0) || ((d.length : Int) == 0) with
    | true => rfl
    | false =>
      simp only [cond_false]
      have hcat : slices_Concat_TermL k [c, d] = some (c ++ d) := by
        obtain ⟨k, rfl, _⟩ := succ_of (c := maxLen + 18) hq
        show (if ([c, d] : List Cond).length ≤ 1000 ∧ ([c, d] : List Cond).flatten.length ≤ 4294967296 then some ([c, d] : List Cond).flatten else none) = _
        rw [if_pos ⟨by simp, by simp; omega⟩]
        simp
      have hgg : ∀ g ∈ c ++ d, g.length ≤ 4 := fun g hg => by
        rcases List.mem_append.1 hg with hg | hg
        · exact gc g hg
        · exact gd g hg
      have wp : wfL (wfL wf_T_api_Term) (c ++ d) := short_wf (by simp only [List.length_append]; omega) (fun g hg => ⟨by have := hgg g hg; omega, by
        rcases List.mem_append.1 hg with hg | hg
        · exact (hc.2 g hg).2
        · exact (hd.2 g hg).2⟩)
      simp only [hcat, Option.bind_some, match_copied_ok (show 2000 ≤ k by omega) (show (c ++ d).length ≤ 1000 by simp only [List.length_append]; omega) (fun g hg => by have := hgg g hg; omega), limited_ok (show maxLen + 14 ≤ k by omega) hwx.2.2.2.2.1.1 wp]
theorem holds_prods (x : T_api_Type) (s : Str) (c d : Cond) : (prods c d).any (fun g => g.all (holdsT x s)) = (c.any (fun g => g.all (holdsT x s)) && d.any (fun g => g.all (holdsT x s))) := by
  unfold prods
  induction c with
  | nil => rfl
  | cons l c ih =>
    rw [List.flatMap_cons, List.any_append, ih, List.any_cons]
    clear ih
    have : (d.map (l ++ ·)).any (fun g => g.all (holdsT x s)) = (l.all (holdsT x s) && d.any (fun g => g.all (holdsT x s))) := by
      rw [List.any_map]
      induction d with
      | nil => simp
      | cons m d ih2 =>
        rw [List.any_cons, List.any_cons, ih2]
        simp only [Function.comp, List.all_append]
        cases l.all (holdsT x s) <;> simp
    rw [this]
    cases l.all (holdsT x s) <;> cases c.any (fun g => g.all (holdsT x s)) <;> cases d.any (fun g => g.all (holdsT x s)) <;> rfl
end Go.Sh

namespace Go.Sh
open Go.AE
set_option linter.unusedVariables false
set_option linter.unusedSimpArgs false
end Go.Sh

namespace Go.Sh
open Go.AE
set_option linter.unusedVariables false
set_option linter.unusedSimpArgs false
end Go.Sh

namespace Go.Sh
open Go.AE
set_option linter.unusedVariables false
set_option linter.unusedSimpArgs false
end Go.Sh

namespace Go.Sh
open Go.AE
set_option linter.unusedVariables false
set_option linter.unusedSimpArgs false
end Go.Sh

namespace Go.Sh
open Go.AE
set_option linter.unusedVariables false
set_option linter.unusedSimpArgs false
end Go.Sh

namespace Go.Sh
open Go.AE
set_option linter.unusedVariables false
set_option linter.unusedSimpArgs false
theorem holdsOf_zero {b : T_api_Base} {t : Int} {c : Cond} {s : Str} (hw : wf_T_api_Base b) (h : ((holdsOf b t c s).2 == 0) = true) : ∃ x, asked b [t] = 0 ∧ idx b.fTypes t = some x ∧ wf_T_api_Type x ∧ typeOk x = true ∧ fitsT x s = true ∧ condOk x c = true := by
  unfold holdsOf at h
  by_cases ha : asked b [t] = 0
  · obtain ⟨x, hx, hwx, hok, _, _, _⟩ := asked_type hw ha
    simp only [ha, hx, bne_self_eq_false, cond_false] at h
    refine ⟨x, ha, hx, hwx, hok, ?_⟩
    cases hf : fitsT x s with
    | false => rw [hf] at h; cases h
    | true =>
      rw [hf] at h
      cases hc : condOk x c with
      | false => rw [hc] at h; cases h
      | true => exact ⟨rfl, rfl⟩
  · have hb : (asked b [t] != 0) = true := by simpa using ha
    simp only [hb, cond_true] at h
    exact absurd (eq_of_beq h) ha
theorem holdsOf_of {b : T_api_Base} {t : Int} {x : T_api_Type} {c : Cond} {s : Str} (ha : asked b [t] = 0) (hx : idx b.fTypes t = some x) (hf : fitsT x s = true) (hc : condOk x c = true) : holdsOf b t c s = (holdsC x s c, 0) := by
  unfold holdsOf
  simp only [ha, hx, hf, hc, bne_self_eq_false, Bool.not_true, cond_false]
theorem condsOf_of {b : T_api_Base} {t : Int} {x : T_api_Type} {c d : Cond} (ha : asked b [t] = 0) (hx : idx b.fTypes t = some x) (hc : condOk x c = true) (hd : condOk x d = true) : condsOf b t [c, d] = (x, 0) := by
  unfold condsOf
  rw [ha, hx]
  simp [hc, hd]
theorem holdsC_cons {x : T_api_Type} {s : Str} {c : Cond} (h : ((c.length : Int) == 0) = false) : holdsC x s c = c.any (fun g => g.all (holdsT x s)) := by
  cases c with
  | nil => cases h
  | cons g r => rfl
theorem and_logic {b : T_api_Base} {t : Int} {x : T_api_Type} {c d : Cond} {s : Str} (ha : asked b [t] = 0) (hx : idx b.fTypes t = some x) (hf : fitsT x s = true) (hc : condOk x c = true) (hd : condOk x d = true) (h : ((andOf b t c d).2 == 0) = true) :
    holdsOf b t (andOf b t c d).1 s = (holdsC x s c && holdsC x s d, 0) := by
  unfold andOf joinOf at h ⊢
  simp only [condsOf_of ha hx hc hd, bne_self_eq_false, cond_false] at h ⊢
  cases e1 : ((c.length : Int) == 0) with
  | true =>
    cases c with
    | nil => exact holdsOf_of ha hx hf hd
    | cons g r => exact absurd (eq_of_beq e1) (by simp only [List.length_cons]; omega)
  | false =>
    cases e2 : ((d.length : Int) == 0) with
    | true =>
      cases d with
      | nil =>
        refine (holdsOf_of ha hx hf hc).trans ?_
        show _ = (holdsC x s c && true, (0 : Int))
        rw [Bool.and_true]
      | cons g r => exact absurd (eq_of_beq e2) (by simp only [List.length_cons]; omega)
    | false =>
      simp only [e1, e2, cond_false] at h ⊢
      cases hp : condOk x (prods c d) with
      | false => rw [hp] at h; cases h
      | true =>
        refine (holdsOf_of ha hx hf hp).trans ?_
        have e3 : (((prods c d).length : Int) == 0) = false := by
          rw [prods_len]
          have h1 : c.length ≠ 0 := fun h => by rw [h] at e1; cases e1
          have h2 : d.length ≠ 0 := fun h => by rw [h] at e2; cases e2
          have h3 : c.length * d.length ≠ 0 := Nat.mul_ne_zero h1 h2
          cases e : ((((c.length * d.length : Nat)) : Int) == 0) with
          | false => rfl
          | true => exact absurd (Int.ofNat.inj (eq_of_beq e)) h3
        rw [holdsC_cons e1, holdsC_cons e2, holdsC_cons e3, holds_prods]
theorem or_logic {b : T_api_Base} {t : Int} {x : T_api_Type} {c d : Cond} {s : Str} (ha : asked b [t] = 0) (hx : idx b.fTypes t = some x) (hf : fitsT x s = true) (hc : condOk x c = true) (hd : condOk x d = true) (h : ((orOf b t c d).2 == 0) = true) :
    holdsOf b t (orOf b t c d).1 s = (holdsC x s c || holdsC x s d, 0) := by
  have hnil : condOk x [] = true := rfl
  unfold orOf joinOf at h ⊢
  simp only [condsOf_of ha hx hc hd, bne_self_eq_false, cond_false] at h ⊢
  cases e1 : ((c.length : Int) == 0) with
  | true =>
    cases c with
    | nil => exact holdsOf_of ha hx hf hnil
    | cons g r => exact absurd (eq_of_beq e1) (by simp only [List.length_cons]; omega)
  | false =>
    cases e2 : ((d.length : Int) == 0) with
    | true =>
      cases d with
      | nil =>
        refine (holdsOf_of ha hx hf hnil).trans ?_
        show _ = (holdsC x s c || true, (0 : Int))
        rw [Bool.or_true]
        rfl
      | cons g r => exact absurd (eq_of_beq e2) (by simp only [List.length_cons]; omega)
    | false =>
      simp only [e1, e2, Bool.or_false, cond_false] at h ⊢
      cases hp : condOk x (c ++ d) with
      | false => rw [hp] at h; cases h
      | true =>
        refine (holdsOf_of ha hx hf hp).trans ?_
        have e3 : (((c ++ d).length : Int) == 0) = false := by
          rw [List.length_append]
          have h1 : c.length ≠ 0 := fun h => by rw [h] at e1; cases e1
          cases e : (((c.length + d.length : Nat) : Int) == 0) with
          | false => rfl
          | true =>
            have := eq_of_beq e
            omega
        rw [holdsC_cons e1, holdsC_cons e2, holdsC_cons e3, List.any_append]
theorem wfL_append {c d : Cond} (hc : c.length ≤ 4) (hd : d.length ≤ 4) (hgc : ∀ g ∈ c, g.length ≤ 4) (hgd : ∀ g ∈ d, g.length ≤ 4) (wc : wfL (wfL wf_T_api_Term) c) (wd : wfL (wfL wf_T_api_Term) d) : wfL (wfL wf_T_api_Term) (c ++ d) := by
  refine short_wf (by rw [List.length_append]; omega) (fun g hg => ?_)
  rcases List.mem_append.1 hg with hg | hg
  · exact ⟨by have := hgc g hg; omega, (wc.2 g hg).2⟩
  · exact ⟨by have := hgd g hg; omega, (wd.2 g hg).2⟩
theorem wf_nil : wfL (wfL wf_T_api_Term) [] := ⟨Nat.zero_le _, fun g hg => by cases hg⟩
theorem andOf_wf {b : T_api_Base} {t : Int} {x : T_api_Type} {c d : Cond} (ha : asked b [t] = 0) (hx : idx b.fTypes t = some x) (hc : condOk x c = true) (hd : condOk x d = true) (wc : wfL (wfL wf_T_api_Term) c) (wd : wfL (wfL wf_T_api_Term) d) : wfL (wfL wf_T_api_Term) (andOf b t c d).1 := by
  obtain ⟨c1, c2⟩ := condOk_len' hc
  obtain ⟨d1, d2⟩ := condOk_len' hd
  unfold andOf joinOf
  simp only [condsOf_of ha hx hc hd, bne_self_eq_false, cond_false]
  cases ((c.length : Int) == 0)
  · cases ((d.length : Int) == 0)
    · cases condOk x (prods c d)
      · exact wf_nil
      · exact prods_wf c1 d1 c2 d2 wc wd
    · exact wc
  · exact wd
theorem orOf_wf {b : T_api_Base} {t : Int} {x : T_api_Type} {c d : Cond} (ha : asked b [t] = 0) (hx : idx b.fTypes t = some x) (hc : condOk x c = true) (hd : condOk x d = true) (wc : wfL (wfL wf_T_api_Term) c) (wd : wfL (wfL wf_T_api_Term) d) : wfL (wfL wf_T_api_Term) (orOf b t c d).1 := by
  obtain ⟨c1, c2⟩ := condOk_len' hc
  obtain ⟨d1, d2⟩ := condOk_len' hd
  unfold orOf joinOf
  simp only [condsOf_of ha hx hc hd, bne_self_eq_false, cond_false]
  cases ((c.length : Int) == 0)
  · cases ((d.length : Int) == 0)
    · cases condOk x (c ++ d)
      · exact wf_nil
      · exact wfL_append c1 d1 c2 d2 wc wd
    · exact wf_nil
  · exact wf_nil
theorem ne_zero_of {e : Int} (h : (e == 0) = false) : (e != 0) = true := by
  cases hb : e != 0 with
  | true => rfl
  | false =>
    have : e = 0 := by simpa using hb
    subst this
    cases h
theorem ne_zero_not {e : Int} (h : (e == 0) = true) : (e != 0) = false := by
  rw [eq_of_beq h]; rfl
end Go.Sh

namespace Go.Sh
open Go.AE
set_option linter.unusedVariables false
set_option linter.unusedSimpArgs false
theorem ref12_Valid_spec {k : Nat} {b : T_api_Base} {t : Int} {c : Cond} (hk : maxLen + 16 ≤ k) (hw : wf_T_api_Base b) (hc : wfL (wfL wf_T_api_Term) c) : (∃ i e, ref12_Valid k b t c = some (i, e) ∧ (e != 0) = true) ∨ ∃ x, asked b [t] = 0 ∧ idx b.fTypes t = some x ∧ ref12_Valid k b t c = some (condOk x c, 0) := by
  obtain ⟨k, rfl, hq⟩ := succ_of (c := maxLen + 15) hk
  simp only [ref12_Valid, ref12_isType_ok (show maxLen + 10 ≤ k by omega) hw, Option.bind_some]
  by_cases h : asked b [t] = 0
  · obtain ⟨x, hx, hwx, _⟩ := asked_type hw h
    simp only [h, hx, bne_self_eq_false, cond_false, ref12_isCondition_ok (show maxLen + 13 ≤ k by omega) hw hc h hx, Option.bind_some]
    exact .inr ⟨x, by first | rfl | trivial, by first | rfl | trivial, rfl⟩
  · have : (asked b [t] != 0) = true := by simpa using h
    simp only [this, cond_true]
    exact .inl ⟨_, _, rfl, this⟩
theorem ref12_Holds_spec {k : Nat} {b : T_api_Base} {t : Int} {c : Cond} {s : Str} (hk : maxLen + 20 ≤ k) (hw : wf_T_api_Base b) (hc : wfL (wfL wf_T_api_Term) c) : ref12_Holds k b t c s = some (holdsOf b t c s) := by
  obtain ⟨r, h1, h2⟩ := match_Holds_ok (s := s) (t := t) hk hw hc
  rw [match_Holds_spec hk hw hc] at h1
  rw [h2, ← h1]
theorem groupBad_comm (x : T_api_Type) (l m : List T_api_Term) : groupBad x (l ++ m) = groupBad x (m ++ l) := by
  unfold groupBad
  rw [List.any_append, List.any_append, Bool.or_comm (l.any _), List.length_append, List.length_append, Nat.add_comm]
theorem any_swap {α β : Type} (l : List α) (m : List β) (p : α → β → Bool) : l.any (fun a => m.any (fun b => p a b)) = m.any (fun b => l.any (fun a => p a b)) := by
  rw [Bool.eq_iff_iff]
  simp only [List.any_eq_true]
  exact ⟨fun ⟨a, h1, b, h2, h3⟩ => ⟨b, h2, a, h1, h3⟩, fun ⟨b, h2, a, h1, h3⟩ => ⟨a, h1, b, h2, h3⟩⟩
theorem any_prods (c d : Cond) (p : List T_api_Term → Bool) : (prods c d).any p = c.any (fun l => d.any (fun m => p (l ++ m))) := by
  unfold prods
  rw [List.any_flatMap]
  congr 1
  funext l
  rw [List.any_map]
  rfl
theorem condOk_prods (x : T_api_Type) (c d : Cond) : condOk x (prods c d) = condOk x (prods d c) := by
  unfold condOk
  rw [any_prods, any_prods, any_swap, prods_len, prods_len, Nat.mul_comm]
  simp only [groupBad_comm]
theorem condOk_append (x : T_api_Type) (c d : Cond) : condOk x (c ++ d) = condOk x (d ++ c) := by
  unfold condOk
  rw [List.any_append, List.any_append, Bool.or_comm, List.length_append, List.length_append, Nat.add_comm]
theorem and_sym {b : T_api_Base} {t : Int} {x : T_api_Type} {c d : Cond} (ha : asked b [t] = 0) (hx : idx b.fTypes t = some x) (hc : condOk x c = true) (hd : condOk x d = true) : ((andOf b t d c).2 == 0) = ((andOf b t c d).2 == 0) := by
  unfold andOf joinOf
  simp only [condsOf_of ha hx hc hd, condsOf_of ha hx hd hc, bne_self_eq_false, cond_false, condOk_prods x d c]
  cases ((c.length : Int) == 0) <;> cases ((d.length : Int) == 0) <;> simp only [cond_true, cond_false] <;> cases condOk x (prods c d) <;> rfl
theorem or_sym {b : T_api_Base} {t : Int} {x : T_api_Type} {c d : Cond} (ha : asked b [t] = 0) (hx : idx b.fTypes t = some x) (hc : condOk x c = true) (hd : condOk x d = true) : ((orOf b t d c).2 == 0) = ((orOf b t c d).2 == 0) := by
  unfold orOf joinOf
  simp only [condsOf_of ha hx hc hd, condsOf_of ha hx hd hc, bne_self_eq_false, cond_false, condOk_append x d c]
  cases ((c.length : Int) == 0) <;> cases ((d.length : Int) == 0) <;> simp only [Bool.or_true, Bool.or_false, cond_true, cond_false] <;> cases condOk x (c ++ d) <;> rfl
theorem held_ok {k : Nat} {a : T_progenylaw12_Case} {c : Cond} {s : Str} {v : Bool} (hk : maxLen + 22 ≤ k) (hw : wf_T_api_Base a.fBase) (hc : wfL (wfL wf_T_api_Term) c) (h : holdsOf a.fBase a.fType c s = (v, 0)) : law12_held k a c s = some v := by
  obtain ⟨k, rfl, hq⟩ := succ_of (c := maxLen + 21) hk
  simp only [law12_held, match_Holds_spec (show maxLen + 20 ≤ k by omega) hw hc, h, Option.bind_some, beq_self_eq_true, cond_true]
def joinB (p : Bool) (b : T_api_Base) (t : Int) (c d : Cond) : Cond × Int := bif p then andOf b t c d else orOf b t c d
theorem joined_ok {k : Nat} {a : T_progenylaw12_Case} {c d : Cond} {p : Bool} (hk : maxLen + 22 ≤ k) (hw : wf_T_api_Base a.fBase) (hc : wfL (wfL wf_T_api_Term) c) (hd : wfL (wfL wf_T_api_Term) d) : law12_joined k a c d p = some (joinB p a.fBase a.fType c d) := by
  obtain ⟨k, rfl, hq⟩ := succ_of (c := maxLen + 21) hk
  simp only [law12_joined, match_And_spec (show maxLen + 20 ≤ k by omega) hw hc hd, match_Or_spec (show maxLen + 20 ≤ k by omega) hw hc hd, Option.bind_some]
  cases p <;> rfl
theorem joinB_sym {b : T_api_Base} {t : Int} {x : T_api_Type} {c d : Cond} (p : Bool) (ha : asked b [t] = 0) (hx : idx b.fTypes t = some x) (hc : condOk x c = true) (hd : condOk x d = true) : ((joinB p b t d c).2 == 0) = ((joinB p b t c d).2 == 0) := by
  cases p
  · exact or_sym ha hx hc hd
  · exact and_sym ha hx hc hd
theorem joinB_wf {b : T_api_Base} {t : Int} {x : T_api_Type} {c d : Cond} (p : Bool) (ha : asked b [t] = 0) (hx : idx b.fTypes t = some x) (hc : condOk x c = true) (hd : condOk x d = true) (wc : wfL (wfL wf_T_api_Term) c) (wd : wfL (wfL wf_T_api_Term) d) : wfL (wfL wf_T_api_Term) (joinB p b t c d).1 := by
  cases p
  · exact orOf_wf ha hx hc hd wc wd
  · exact andOf_wf ha hx hc hd wc wd
def bothB (p v w : Bool) : Bool := bif p then v && w else v || w
theorem joinB_holds {b : T_api_Base} {t : Int} {x : T_api_Type} {c d : Cond} {s : Str} {p : Bool} (ha : asked b [t] = 0) (hx : idx b.fTypes t = some x) (hf : fitsT x s = true) (hc : condOk x c = true) (hd : condOk x d = true) (h : ((joinB p b t c d).2 == 0) = true) :
    holdsOf b t (joinB p b t c d).1 s = (bothB p (holdsC x s c) (holdsC x s d), 0) := by
  cases p
  · exact or_logic ha hx hf hc hd h
  · exact and_logic ha hx hf hc hd h
theorem orders_step {k m : Nat} {a : T_progenylaw12_Case} {x : T_api_Type} {d : Cond} {s : Str} {K : Int → Option Bool} {i : Int} {p : Bool} (hk : maxLen + 22 ≤ k) (hw : wf_T_api_Base a.fBase) (wc : wfL (wfL wf_T_api_Term) a.fWhen) (wd : wfL (wfL wf_T_api_Term) d)
    (ha : asked a.fBase [a.fType] = 0) (hx : idx a.fBase.fTypes a.fType = some x) (hf : fitsT x s = true) (hc : condOk x a.fWhen = true) (hd : condOk x d = true) (hi : decide (i < 2) = true) (hp : (i == 0) = p) :
    law12_MatchOrders_L1 k a d s K (m + 1) i = law12_MatchOrders_L1 k a d s K m (Go.IntKind.wrap .i64 (i + 1)) := by
  have w1 := joinB_wf p ha hx hc hd wc wd
  have w2 := joinB_wf p ha hx hd hc wd wc
  have w3 := joinB_wf p ha hx hc hc wc wc
  have q1 := fun h => held_ok (k := k) hk hw w1 (joinB_holds (p := p) ha hx hf hc hd h)
  have q2 := fun h => held_ok (k := k) hk hw w2 (joinB_holds (p := p) ha hx hf hd hc h)
  have q3 := fun h => held_ok (k := k) hk hw w3 (joinB_holds (p := p) ha hx hf hc hc h)
  have q4 := held_ok (k := k) hk hw wc (holdsOf_of ha hx hf hc)
  simp only [law12_MatchOrders_L1, hi, hp, cond_true, joined_ok hk hw wc wd, joined_ok hk hw wd wc, joined_ok hk hw wc wc, Option.bind_some, joinB_sym p ha hx hc hd, q4]
  rw [joinB_sym p ha hx hc hd] at q2
  cases h1 : (joinB p a.fBase a.fType a.fWhen d).2 == 0 <;> cases h3 : (joinB p a.fBase a.fType a.fWhen a.fWhen).2 == 0
  · simp only [beq_self_eq_true, Bool.not_true, cond_false, Option.bind_some]
  · simp only [beq_self_eq_true, Bool.not_true, cond_false, cond_true, Option.bind_some, q3 h3]
    cases p <;> cases holdsC x s a.fWhen <;> rfl
  · simp only [beq_self_eq_true, Bool.not_true, cond_false, cond_true, Option.bind_some, q1 h1, q2 h1]
    cases p <;> cases holdsC x s a.fWhen <;> cases holdsC x s d <;> rfl
  · simp only [beq_self_eq_true, Bool.not_true, cond_false, cond_true, Option.bind_some, q1 h1, q2 h1, q3 h3]
    cases p <;> cases holdsC x s a.fWhen <;> cases holdsC x s d <;> rfl
theorem law_law12_MatchOrders (a : T_progenylaw12_Case) (d : Cond) (s : Str) (ha : wf_T_progenylaw12_Case a) (hd : wfL (wfL wf_T_api_Term) d) (hs : wfS s) : ∃ k, law12_MatchOrders k a d s = some true := by
  obtain ⟨k, hk⟩ : ∃ k, maxLen + 39 ≤ k := ⟨_, Nat.le_refl _⟩
  refine ⟨k + 1, ?_⟩
  obtain ⟨r1, h1⟩ := large_total (k := k) (by omega) ha.1
  obtain ⟨r2, h2⟩ := long_total (k := k) (by omega) ha.2.2.1
  obtain ⟨r3, h3⟩ := long_total (k := k) (by omega) hd
  have h5 := awake12 (k := k) (by omega)
  have hw := ha.1
  have hc := ha.2.2.1
  simp only [law12_MatchOrders, h1, h2, h3, h5, Option.bind_some, ref12_Holds_spec (show maxLen + 20 ≤ k by omega) hw hc]
  generalize hg : (bif r1 then some true else bif r2 then some true else bif r3 then some true else some (decide ((s.length : Int) > 200))) = g
  have : ∃ q, g = some q := by rw [← hg]; cases r1 <;> cases r2 <;> cases r3 <;> exact ⟨_, rfl⟩
  obtain ⟨q, rfl⟩ := this
  cases q with
  | true => rfl
  | false =>
  simp only [Option.bind_some, cond_false]
  cases hz1 : (holdsOf a.fBase a.fType a.fWhen s).2 == 0 with
  | false =>
    simp only [ne_zero_of hz1, cond_true, Option.bind_some]
  | true =>
  obtain ⟨x, hx1, hx2, hx3, hx4, hx5, hx6⟩ := holdsOf_zero hw hz1
  rcases ref12_Valid_spec (k := k) (t := a.fType) (show maxLen + 16 ≤ k by omega) hw hd with ⟨i, e, hv, he⟩ | ⟨x', hy1, hy2, hv⟩
  · simp only [ne_zero_not hz1, hv, he, cond_true, cond_false, Option.bind_some]
  · obtain rfl : x = x' := Option.some.inj (hx2.symm.trans hy2)
    simp only [ne_zero_not hz1, hv, bne_self_eq_false, cond_true, cond_false, Option.bind_some]
    cases hc2 : condOk x d with
    | false => rfl
    | true =>
      obtain ⟨m, rfl⟩ : ∃ m, k = m + 3 := ⟨k - 3, by omega⟩
      simp only [Bool.not_true, cond_false]
      rw [orders_step (p := true) (by omega) hw hc hd hx1 hx2 hx5 hx6 hc2 rfl rfl, show Go.IntKind.wrap .i64 ((0 : Int) + 1) = 1 from by decide]
      rw [orders_step (p := false) (by omega) hw hc hd hx1 hx2 hx5 hx6 hc2 rfl rfl, show Go.IntKind.wrap .i64 ((1 : Int) + 1) = 2 from by decide]
      simp only [law12_MatchOrders_L1, show decide ((2 : Int) < 2) = false from by decide, cond_false]
end Go.Sh

