/- The functions as functions on lists, and what they come to: no program in sight. Conditions: those that each theorem names. -/
import Derived.Test.YtgpblbjceghpjaaA3
import Derived.IntWalk
namespace Go.Sh
open Go.AE (idx idxS cut cat app upTo inB sameLen revInt wfI wfS wfL wfT mkN repS repL joinS cmpB idxB quoI remE shlI shrI andI orI xorI catL bytesB itoaA repG trimR fdS runeS)
set_option linter.unusedVariables false
abbrev Str := List UInt8
structure T_api_Term where
 fField : Str
 fOp : Int
 fValue : Str
 deriving DecidableEq
structure T_api_Field where
 fName : Str
 fAt : Int
 fBytes : Int
 deriving DecidableEq
structure T_api_Type where
 fName : Str
 fParent : Int
 fMin : Int
 fSize : Int
 fFields : (List T_api_Field)
 fKey : Int
 fUnique : Bool
 fLast : Bool
 deriving DecidableEq
structure T_api_Search where
 fName : Str
 fType : Int
 fField : Int
 fSparse : Str
 deriving DecidableEq
structure T_api_Base where
 fName : Str
 fKind : Int
 fTypes : (List T_api_Type)
 fIndexes : (List T_api_Search)
 deriving DecidableEq
structure T_arr6_Str where
 e0 : Str
 e1 : Str
 e2 : Str
 e3 : Str
 e4 : Str
 e5 : Str
 deriving DecidableEq
def wf_T_api_Term (a : T_api_Term) : Prop := wfS a.fField ∧ (wfI .i64) a.fOp ∧ wfS a.fValue ∧ wfT ()
def wf_T_api_Field (a : T_api_Field) : Prop := wfS a.fName ∧ (wfI .i64) a.fAt ∧ (wfI .i64) a.fBytes ∧ wfT ()
def wf_T_api_Type (a : T_api_Type) : Prop := wfS a.fName ∧ (wfI .i64) a.fParent ∧ (wfI .i64) a.fMin ∧ (wfI .i64) a.fSize ∧ (wfL wf_T_api_Field) a.fFields ∧ (wfI .i64) a.fKey ∧ wfT a.fUnique ∧ wfT a.fLast ∧ wfT ()
def wf_T_api_Search (a : T_api_Search) : Prop := wfS a.fName ∧ (wfI .i64) a.fType ∧ (wfI .i64) a.fField ∧ wfS a.fSparse ∧ wfT ()
def wf_T_api_Base (a : T_api_Base) : Prop := wfS a.fName ∧ (wfI .i64) a.fKind ∧ (wfL wf_T_api_Type) a.fTypes ∧ (wfL wf_T_api_Search) a.fIndexes ∧ wfT ()
def wf_T_arr6_Str (a : T_arr6_Str) : Prop := wfS a.e0 ∧ wfS a.e1 ∧ wfS a.e2 ∧ wfS a.e3 ∧ wfS a.e4 ∧ wfS a.e5 ∧ wfT ()
def law12_shop_v : T_api_Base := ({ fName := ([83, 72, 79, 80] : Str), fKind := 4, fTypes := ([({ fName := ([67, 85, 83, 84] : Str), fParent := (-1), fMin := 4, fSize := 10, fFields := ([({ fName := ([67, 85, 83, 84, 78, 79] : Str), fAt := 0, fBytes := 4 } : T_api_Field)] : List T_api_Field), fKey := 0, fUnique := true, fLast := false } : T_api_Type)] : List T_api_Type), fIndexes := ([] : List T_api_Search) } : T_api_Base)
def law12_shop : Nat → Option T_api_Base
 | 0 => none
 | _ + 1 => some law12_shop_v
def dbd_IsName_L1 (a0 : Str)  (K0 : Int → Option Bool) : Nat → Int → Option Bool
 | 0, _ => none
 | m + 1, x7 =>
  (bif (decide (x7 < (a0.length : Int))) then (((idxS a0 x7).bind fun v8 => (bif (decide (v8 ≥ 65)) then ((idxS a0 x7).bind fun v9 => (some ((decide (v9 ≤ 90))))) else (some (false)))).bind fun o10 =>
        ((bif (!o10) then (bif (x7 == 0) then (some (true)) else ((idxS a0 x7).bind fun v11 => (bif (decide (v11 < 48)) then (some (true)) else ((idxS a0 x7).bind fun v12 => (some ((decide (v12 > 57)))))))) else (some (false))).bind fun o13 =>
        (bif o13 then (some false) else
        (dbd_IsName_L1 a0 K0 m (Go.IntKind.wrap .i64 (x7 + 1)))))) else
    (K0 x7))
def dbd_IsName : Nat → (Str) → Option Bool
 | 0, _ => none
 | k + 1, a0 =>
  (dbd_IsName_L1 a0 (fun y14 =>
   ((bif (decide ((a0.length : Int) ≥ 1)) then (some ((decide ((a0.length : Int) ≤ 8)))) else (some (false))).bind fun o15 =>
    (some o15))) k 0)
def slices_IndexFunc_Field_L1 (k : Nat) (a0 : (List T_api_Field)) (a1 : Nat → T_api_Field → Option Bool) (K0 : Int → Option Int) : Nat → Int → Option Int
 | 0, _ => none
 | m + 1, x4 =>
  (bif (decide (x4 < (a0.length : Int))) then (((idx a0 x4).bind fun v5 => (a1 k v5)).bind fun o7 =>
        (bif o7 then (some x4) else
        (slices_IndexFunc_Field_L1 k a0 a1 K0 m (Go.IntKind.wrap .i64 (x4 + 1))))) else
    (K0 x4))
def slices_IndexFunc_Field : Nat → ((List T_api_Field)) → (Nat → T_api_Field → Option Bool) → Option Int
 | 0, _, _ => none
 | k + 1, a0, a1 =>
  (slices_IndexFunc_Field_L1 k a0 a1 (fun y8 =>
   (some (-1))) k 0)
def slices_ContainsFunc_Field : Nat → ((List T_api_Field)) → (Nat → T_api_Field → Option Bool) → Option Bool
 | 0, _, _ => none
 | k + 1, a0, a1 =>
  (((slices_IndexFunc_Field k a0 a1).bind fun v1 => (some ((decide (v1 ≥ 0))))).bind fun o2 =>
   (some o2))
def dbd_areFields_1 : Nat → (T_api_Field) → (T_api_Field) → Option Bool
 | 0, _, _ => none
 | k + 1, a0, a1 =>
  (some (a0.fName == a1.fName))
def dbd_areFields_L1 (k : Nat) (a0 : (List T_api_Field)) (a1 : Int)  (K0 : Int → Option Bool) : Nat → Int → Option Bool
 | 0, _ => none
 | m + 1, x8 =>
  (bif (decide (x8 < (a0.length : Int))) then (((idx a0 x8).bind fun v9 => (some (x8, v9))).bind fun o10 =>
        (((dbd_IsName k o10.2.fName).bind fun v11 => (bif (!v11) then (some (true)) else (bif (decide (o10.2.fAt < 0)) then (some (true)) else (bif (decide (o10.2.fAt ≥ a1)) then (some (true)) else (bif (decide (o10.2.fBytes < 1)) then (some (true)) else (some ((decide (o10.2.fBytes > (Go.IntKind.wrap .i64 (a1 - o10.2.fAt))))))))))).bind fun o12 =>
        (bif o12 then (some false) else
        (((cut a0 0 o10.1).bind fun v13 => (slices_ContainsFunc_Field k v13 (fun j x0 => (dbd_areFields_1 j x0 o10.2)))).bind fun o15 =>
         (bif o15 then (some false) else
         (dbd_areFields_L1 k a0 a1 K0 m (Go.IntKind.wrap .i64 (x8 + 1)))))))) else
    (K0 x8))
def dbd_areFields : Nat → ((List T_api_Field)) → (Int) → Option Bool
 | 0, _, _ => none
 | k + 1, a0, a1 =>
  (dbd_areFields_L1 k a0 a1 (fun y16 =>
   (some (decide ((a0.length : Int) ≤ 5)))) k 0)
def dbd_isType : Nat → (T_api_Type) → Option Bool
 | 0, _ => none
 | k + 1, a0 =>
  (((dbd_IsName k a0.fName).bind fun v1 => (bif (!v1) then (some (true)) else (bif (decide (a0.fMin < 1)) then (some (true)) else (bif (decide (a0.fMin > a0.fSize)) then (some (true)) else (bif (decide (a0.fSize > 40)) then (some (true)) else ((dbd_areFields k a0.fFields a0.fSize).bind fun v2 => (some ((!v2))))))))).bind fun o3 =>
   (bif o3 then (some false) else
   (bif (a0.fKey == (-1)) then (some (!a0.fUnique)) else
    ((bif (decide (a0.fKey < 0)) then (some (true)) else (some ((decide (a0.fKey ≥ (a0.fFields.length : Int)))))).bind fun o4 =>
     (bif o4 then (some false) else
     (((idx a0.fFields a0.fKey).bind fun v5 => ((idx a0.fFields a0.fKey).bind fun v6 => (some ((decide ((Go.IntKind.wrap .i64 (v5.fAt + v6.fBytes)) ≤ a0.fMin)))))).bind fun o7 =>
      (some o7)))))))
def slices_IndexFunc_Type_L1 (k : Nat) (a0 : (List T_api_Type)) (a1 : Nat → T_api_Type → Option Bool) (K0 : Int → Option Int) : Nat → Int → Option Int
 | 0, _ => none
 | m + 1, x4 =>
  (bif (decide (x4 < (a0.length : Int))) then (((idx a0 x4).bind fun v5 => (a1 k v5)).bind fun o7 =>
        (bif o7 then (some x4) else
        (slices_IndexFunc_Type_L1 k a0 a1 K0 m (Go.IntKind.wrap .i64 (x4 + 1))))) else
    (K0 x4))
def slices_IndexFunc_Type : Nat → ((List T_api_Type)) → (Nat → T_api_Type → Option Bool) → Option Int
 | 0, _, _ => none
 | k + 1, a0, a1 =>
  (slices_IndexFunc_Type_L1 k a0 a1 (fun y8 =>
   (some (-1))) k 0)
def slices_ContainsFunc_Type : Nat → ((List T_api_Type)) → (Nat → T_api_Type → Option Bool) → Option Bool
 | 0, _, _ => none
 | k + 1, a0, a1 =>
  (((slices_IndexFunc_Type k a0 a1).bind fun v1 => (some ((decide (v1 ≥ 0))))).bind fun o2 =>
   (some o2))
def dbd_areTypes_1 : Nat → (T_api_Type) → (T_api_Type) → Option Bool
 | 0, _, _ => none
 | k + 1, a0, a1 =>
  (some (a0.fName == a1.fName))
def slices_Index_int_L1 (a0 : (List Int)) (a1 : Int)  (K0 : Int → Option Int) : Nat → Int → Option Int
 | 0, _ => none
 | m + 1, x3 =>
  (bif (decide (x3 < (a0.length : Int))) then (((idx a0 x3).bind fun v4 => (some ((a1 == v4)))).bind fun o5 =>
        (bif o5 then (some x3) else
        (slices_Index_int_L1 a0 a1 K0 m (Go.IntKind.wrap .i64 (x3 + 1))))) else
    (K0 x3))
def slices_Index_int : Nat → ((List Int)) → (Int) → Option Int
 | 0, _, _ => none
 | k + 1, a0, a1 =>
  (slices_Index_int_L1 a0 a1 (fun y6 =>
   (some (-1))) k 0)
def dbd_areTypes_L1 (k : Nat) (a0 : (List T_api_Type))  (K0 : Int → (List Int) → Option Bool) : Nat → Int → (List Int) → Option Bool
 | 0, _, _ => none
 | m + 1, x15, x16 =>
  (bif (decide (x15 < (a0.length : Int))) then (((idx a0 x15).bind fun v17 => (some (x15, v17))).bind fun o18 =>
        (((dbd_isType k o18.2).bind fun v19 => (bif (!v19) then (some (true)) else ((cut a0 0 o18.1).bind fun v20 => (slices_ContainsFunc_Type k v20 (fun j x0 => (dbd_areTypes_1 j x0 o18.2)))))).bind fun o22 =>
        (bif o22 then (some false) else
        ((slices_Index_int k x16 o18.2.fParent).bind fun o24 =>
         ((bif (o18.1 == 0) then (bif (o18.2.fParent != (-1)) then (some (true)) else (bif (decide (o18.2.fKey < 0)) then (some (true)) else (bif (!o18.2.fUnique) then (some (true)) else ((idx o18.2.fFields o18.2.fKey).bind fun v25 => (bif (decide (v25.fBytes > 24)) then (some (true)) else (bif (decide (o18.1 > 0)) then (some ((decide (o24 < 0)))) else (some (false)))))))) else (bif (decide (o18.1 > 0)) then (some ((decide (o24 < 0)))) else (some (false)))).bind fun o26 =>
         (bif o26 then (some false) else
         (((upTo x16 (Go.IntKind.wrap .i64 (o24 + 1))).bind fun v27 => (app (List.take v27 x16) ([o18.1] : List Int))).bind fun o29 =>
          (bif (decide ((o29.length : Int) > 5)) then (some false) else
          (dbd_areTypes_L1 k a0 K0 m (Go.IntKind.wrap .i64 (x15 + 1)) o29))))))))) else
    (K0 x15 x16))
def dbd_areTypes : Nat → ((List T_api_Type)) → Option Bool
 | 0, _ => none
 | k + 1, a0 =>
  ((bif (decide ((a0.length : Int) < 1)) then (some (true)) else (some ((decide ((a0.length : Int) > 8))))).bind fun o1 =>
   (bif o1 then (some false) else
   (dbd_areTypes_L1 k a0 (fun y30 y31 =>
    (some true)) k 0 ([] : List Int))))
def slices_IndexFunc_Search_L1 (k : Nat) (a0 : (List T_api_Search)) (a1 : Nat → T_api_Search → Option Bool) (K0 : Int → Option Int) : Nat → Int → Option Int
 | 0, _ => none
 | m + 1, x4 =>
  (bif (decide (x4 < (a0.length : Int))) then (((idx a0 x4).bind fun v5 => (a1 k v5)).bind fun o7 =>
        (bif o7 then (some x4) else
        (slices_IndexFunc_Search_L1 k a0 a1 K0 m (Go.IntKind.wrap .i64 (x4 + 1))))) else
    (K0 x4))
def slices_IndexFunc_Search : Nat → ((List T_api_Search)) → (Nat → T_api_Search → Option Bool) → Option Int
 | 0, _, _ => none
 | k + 1, a0, a1 =>
  (slices_IndexFunc_Search_L1 k a0 a1 (fun y8 =>
   (some (-1))) k 0)
def slices_ContainsFunc_Search : Nat → ((List T_api_Search)) → (Nat → T_api_Search → Option Bool) → Option Bool
 | 0, _, _ => none
 | k + 1, a0, a1 =>
  (((slices_IndexFunc_Search k a0 a1).bind fun v1 => (some ((decide (v1 ≥ 0))))).bind fun o2 =>
   (some o2))
def dbd_areIndexes_1 : Nat → (T_api_Search) → (T_api_Search) → Option Bool
 | 0, _, _ => none
 | k + 1, a0, a1 =>
  (some (a0.fName == a1.fName))
def dbd_areIndexes_L1 (k : Nat) (a0 : (List T_api_Search)) (a1 : (List T_api_Type))  (K0 : Int → Option Bool) : Nat → Int → Option Bool
 | 0, _ => none
 | m + 1, x11 =>
  (bif (decide (x11 < (a0.length : Int))) then (((idx a0 x11).bind fun v12 => (some (x11, v12))).bind fun o13 =>
        (((dbd_IsName k o13.2.fName).bind fun v14 => (bif (!v14) then (some (true)) else (bif (decide (o13.2.fType < 0)) then (some (true)) else (bif (decide (o13.2.fType ≥ (a1.length : Int))) then (some (true)) else (bif (decide ((o13.2.fSparse.length : Int) > 1)) then (some (true)) else ((cut a0 0 o13.1).bind fun v15 => (slices_ContainsFunc_Search k v15 (fun j x0 => (dbd_areIndexes_1 j x0 o13.2))))))))).bind fun o17 =>
        (bif o17 then (some false) else
        (((idx a1 o13.2.fType).bind fun v18 => (some (v18.fFields))).bind fun o19 =>
         ((bif (decide (o13.2.fField < 0)) then (some (true)) else (bif (decide (o13.2.fField ≥ (o19.length : Int))) then (some (true)) else ((idx o19 o13.2.fField).bind fun v20 => (some ((decide (v20.fBytes > 20))))))).bind fun o21 =>
         (bif o21 then (some false) else
         (dbd_areIndexes_L1 k a0 a1 K0 m (Go.IntKind.wrap .i64 (x11 + 1))))))))) else
    (K0 x11))
def dbd_areIndexes : Nat → ((List T_api_Search)) → ((List T_api_Type)) → Option Bool
 | 0, _, _ => none
 | k + 1, a0, a1 =>
  (dbd_areIndexes_L1 k a0 a1 (fun y22 =>
   (some (decide ((a0.length : Int) ≤ 3)))) k 0)
def dbd_Valid : Nat → (T_api_Base) → Option Bool
 | 0, _ => none
 | k + 1, a0 =>
  (((dbd_IsName k a0.fName).bind fun v1 => (bif v1 then (bif (decide (a0.fKind ≥ 1)) then (bif (decide (a0.fKind ≤ 4)) then ((dbd_areTypes k a0.fTypes).bind fun v2 => (bif v2 then (dbd_areIndexes k a0.fIndexes a0.fTypes) else (some (false)))) else (some (false))) else (some (false))) else (some (false)))).bind fun o4 =>
   (some o4))
def slices_IndexFunc_int_L1 (k : Nat) (a0 : (List Int)) (a1 : Nat → Int → Option Bool) (K0 : Int → Option Int) : Nat → Int → Option Int
 | 0, _ => none
 | m + 1, x4 =>
  (bif (decide (x4 < (a0.length : Int))) then (((idx a0 x4).bind fun v5 => (a1 k v5)).bind fun o7 =>
        (bif o7 then (some x4) else
        (slices_IndexFunc_int_L1 k a0 a1 K0 m (Go.IntKind.wrap .i64 (x4 + 1))))) else
    (K0 x4))
def slices_IndexFunc_int : Nat → ((List Int)) → (Nat → Int → Option Bool) → Option Int
 | 0, _, _ => none
 | k + 1, a0, a1 =>
  (slices_IndexFunc_int_L1 k a0 a1 (fun y8 =>
   (some (-1))) k 0)
def slices_ContainsFunc_int : Nat → ((List Int)) → (Nat → Int → Option Bool) → Option Bool
 | 0, _, _ => none
 | k + 1, a0, a1 =>
  (((slices_IndexFunc_int k a0 a1).bind fun v1 => (some ((decide (v1 ≥ 0))))).bind fun o2 =>
   (some o2))
def dbd_asked_1 : Nat → (Int) → (T_api_Base) → Option Bool
 | 0, _, _ => none
 | k + 1, a0, a1 =>
  ((bif (decide (a0 < 0)) then (some (true)) else (some ((decide (a0 ≥ (a1.fTypes.length : Int)))))).bind fun o1 =>
   (some o1))
def dbd_asked : Nat → (T_api_Base) → ((List Int)) → Option Int
 | 0, _, _ => none
 | k + 1, a0, a1 =>
  (((dbd_Valid k a0).bind fun v1 => (some ((!v1)))).bind fun o2 =>
   (bif o2 then (some 100) else
   ((slices_ContainsFunc_int k a1 (fun j x0 => (dbd_asked_1 j x0 a0))).bind fun o4 =>
    (bif o4 then (some 2) else
    (some 0)))))
def slices_Reverse_int : Nat → List Int → Option (List Int)
 | 0, _ => none
 | _ + 1, l => revInt l
def dbd_way_L1 (a0 : T_api_Base)  (K0 : Int → (List Int) → Option (List Int)) : Nat → Int → (List Int) → Option (List Int)
 | 0, _, _ => none
 | m + 1, x5, x6 =>
  (bif (decide (x5 ≥ 0)) then ((app x6 ([x5] : List Int)).bind fun o8 =>
        (((idx a0.fTypes x5).bind fun v9 => (some (v9.fParent))).bind fun o10 =>
        (dbd_way_L1 a0 K0 m o10 o8))) else
    (K0 x5 x6))
def dbd_way : Nat → (T_api_Base) → (Int) → Option (List Int)
 | 0, _, _ => none
 | k + 1, a0, a1 =>
  (dbd_way_L1 a0 (fun y11 y12 =>
   (((slices_Reverse_int k y12).bind (sameLen y12)).bind fun o14 =>
    (some o14))) k a1 ([] : List Int))
def dbd_Way : Nat → (T_api_Base) → (Int) → Option ((List Int) × Int)
 | 0, _, _ => none
 | k + 1, a0, a1 =>
  ((dbd_asked k a0 ([a1] : List Int)).bind fun o2 =>
   (bif (o2 != 0) then (some (([] : List Int), o2)) else
   (((dbd_way k a0 a1).bind fun v3 => (some (v3, 0))).bind fun o4 =>
    (some (o4.1, o4.2)))))
def dbd_Depth : Nat → (T_api_Base) → (Int) → Option (Int × Int)
 | 0, _, _ => none
 | k + 1, a0, a1 =>
  (((dbd_Way k a0 a1).bind fun v1 => (some (v1.1, v1.2))).bind fun o2 =>
   (some ((o2.1.length : Int), o2.2)))
def match_asked : Nat → (T_api_Base) → (Int) → Option Int
 | 0, _, _ => none
 | k + 1, a0, a1 =>
  (((dbd_Depth k a0 a1).bind fun v1 => (some (v1.2))).bind fun o2 =>
   (some o2))
def slices_IndexFunc_TermLL_L1 (k : Nat) (a0 : (List (List (List T_api_Term)))) (a1 : Nat → (List (List T_api_Term)) → Option Bool) (K0 : Int → Option Int) : Nat → Int → Option Int
 | 0, _ => none
 | m + 1, x4 =>
  (bif (decide (x4 < (a0.length : Int))) then (((idx a0 x4).bind fun v5 => (a1 k v5)).bind fun o7 =>
        (bif o7 then (some x4) else
        (slices_IndexFunc_TermLL_L1 k a0 a1 K0 m (Go.IntKind.wrap .i64 (x4 + 1))))) else
    (K0 x4))
def slices_IndexFunc_TermLL : Nat → ((List (List (List T_api_Term)))) → (Nat → (List (List T_api_Term)) → Option Bool) → Option Int
 | 0, _, _ => none
 | k + 1, a0, a1 =>
  (slices_IndexFunc_TermLL_L1 k a0 a1 (fun y8 =>
   (some (-1))) k 0)
def slices_ContainsFunc_TermLL : Nat → ((List (List (List T_api_Term)))) → (Nat → (List (List T_api_Term)) → Option Bool) → Option Bool
 | 0, _, _ => none
 | k + 1, a0, a1 =>
  (((slices_IndexFunc_TermLL k a0 a1).bind fun v1 => (some ((decide (v1 ≥ 0))))).bind fun o2 =>
   (some o2))
def slices_IndexFunc_TermL_L1 (k : Nat) (a0 : (List (List T_api_Term))) (a1 : Nat → (List T_api_Term) → Option Bool) (K0 : Int → Option Int) : Nat → Int → Option Int
 | 0, _ => none
 | m + 1, x4 =>
  (bif (decide (x4 < (a0.length : Int))) then (((idx a0 x4).bind fun v5 => (a1 k v5)).bind fun o7 =>
        (bif o7 then (some x4) else
        (slices_IndexFunc_TermL_L1 k a0 a1 K0 m (Go.IntKind.wrap .i64 (x4 + 1))))) else
    (K0 x4))
def slices_IndexFunc_TermL : Nat → ((List (List T_api_Term))) → (Nat → (List T_api_Term) → Option Bool) → Option Int
 | 0, _, _ => none
 | k + 1, a0, a1 =>
  (slices_IndexFunc_TermL_L1 k a0 a1 (fun y8 =>
   (some (-1))) k 0)
def slices_ContainsFunc_TermL : Nat → ((List (List T_api_Term))) → (Nat → (List T_api_Term) → Option Bool) → Option Bool
 | 0, _, _ => none
 | k + 1, a0, a1 =>
  (((slices_IndexFunc_TermL k a0 a1).bind fun v1 => (some ((decide (v1 ≥ 0))))).bind fun o2 =>
   (some o2))
def slices_IndexFunc_Term_L1 (k : Nat) (a0 : (List T_api_Term)) (a1 : Nat → T_api_Term → Option Bool) (K0 : Int → Option Int) : Nat → Int → Option Int
 | 0, _ => none
 | m + 1, x4 =>
  (bif (decide (x4 < (a0.length : Int))) then (((idx a0 x4).bind fun v5 => (a1 k v5)).bind fun o7 =>
        (bif o7 then (some x4) else
        (slices_IndexFunc_Term_L1 k a0 a1 K0 m (Go.IntKind.wrap .i64 (x4 + 1))))) else
    (K0 x4))
def slices_IndexFunc_Term : Nat → ((List T_api_Term)) → (Nat → T_api_Term → Option Bool) → Option Int
 | 0, _, _ => none
 | k + 1, a0, a1 =>
  (slices_IndexFunc_Term_L1 k a0 a1 (fun y8 =>
   (some (-1))) k 0)
def slices_ContainsFunc_Term : Nat → ((List T_api_Term)) → (Nat → T_api_Term → Option Bool) → Option Bool
 | 0, _, _ => none
 | k + 1, a0, a1 =>
  (((slices_IndexFunc_Term k a0 a1).bind fun v1 => (some ((decide (v1 ≥ 0))))).bind fun o2 =>
   (some o2))
def match_field_1 : Nat → (T_api_Field) → (Str) → Option Bool
 | 0, _, _ => none
 | k + 1, a0, a1 =>
  (some (a0.fName == a1))
def match_field : Nat → (T_api_Type) → (Str) → Option (Int × Bool)
 | 0, _, _ => none
 | k + 1, a0, a1 =>
  ((slices_IndexFunc_Field k a0.fFields (fun j x0 => (match_field_1 j x0 a1))).bind fun o2 =>
   (some (o2, (decide (o2 ≥ 0)))))
def match_isTerm : Nat → (T_api_Type) → (T_api_Term) → Option Bool
 | 0, _, _ => none
 | k + 1, a0, a1 =>
  (((match_field k a0 a1.fField).bind fun v1 => (some (v1.1, v1.2))).bind fun o2 =>
   ((bif o2.2 then (bif (decide (a1.fOp ≥ 1)) then (bif (decide (a1.fOp ≤ 6)) then ((idx a0.fFields o2.1).bind fun v3 => (some (((a1.fValue.length : Int) == v3.fBytes)))) else (some (false))) else (some (false))) else (some (false))).bind fun o4 =>
   (some o4)))
def match_valid_1_1 : Nat → (T_api_Term) → (T_api_Type) → Option Bool
 | 0, _, _ => none
 | k + 1, a0, a1 =>
  (((match_isTerm k a1 a0).bind fun v1 => (some ((!v1)))).bind fun o2 =>
   (some o2))
def match_valid_1 : Nat → ((List T_api_Term)) → (T_api_Type) → Option Bool
 | 0, _, _ => none
 | k + 1, a0, a1 =>
  ((bif (decide ((a0.length : Int) < 1)) then (some (true)) else (bif (decide ((a0.length : Int) > 4)) then (some (true)) else (slices_ContainsFunc_Term k a0 (fun j x0 => (match_valid_1_1 j x0 a1))))).bind fun o2 =>
   (some o2))
def match_valid : Nat → (T_api_Type) → ((List (List T_api_Term))) → Option Bool
 | 0, _, _ => none
 | k + 1, a0, a1 =>
  ((bif (decide ((a1.length : Int) ≤ 4)) then ((slices_ContainsFunc_TermL k a1 (fun j x0 => (match_valid_1 j x0 a0))).bind fun v1 => (some ((!v1)))) else (some (false))).bind fun o2 =>
   (some o2))
def match_conditions_1 : Nat → ((List (List T_api_Term))) → (T_api_Type) → Option Bool
 | 0, _, _ => none
 | k + 1, a0, a1 =>
  (((match_valid k a1 a0).bind fun v1 => (some ((!v1)))).bind fun o2 =>
   (some o2))
def match_conditions : Nat → (T_api_Base) → (Int) → ((List (List (List T_api_Term)))) → Option (T_api_Type × Int)
 | 0, _, _, _ => none
 | k + 1, a0, a1, a2 =>
  ((match_asked k a0 a1).bind fun o2 =>
   (bif (o2 != 0) then (some (({ fName := [], fParent := 0, fMin := 0, fSize := 0, fFields := ([] : List T_api_Field), fKey := 0, fUnique := false, fLast := false } : T_api_Type), o2)) else
   ((idx a0.fTypes a1).bind fun o4 =>
    ((slices_ContainsFunc_TermLL k a2 (fun j x0 => (match_conditions_1 j x0 o4))).bind fun o6 =>
    (bif o6 then (some (({ fName := [], fParent := 0, fMin := 0, fSize := 0, fFields := ([] : List T_api_Field), fKey := 0, fUnique := false, fLast := false } : T_api_Type), 110)) else
    (some (o4, 0)))))))
def strings_Repeat : Nat → Str → Int → Option Str
 | 0, _, _ => none
 | _ + 1, s, n => repS s n
def match_sign : Nat → (Int) → Option Str
 | 0, _ => none
 | k + 1, a0 =>
  ((idx ([({ e0 := ([61, 32] : Str), e1 := ([60, 62] : Str), e2 := ([60, 32] : Str), e3 := ([60, 61] : Str), e4 := ([62, 32] : Str), e5 := ([62, 61] : Str) } : T_arr6_Str).e0, ({ e0 := ([61, 32] : Str), e1 := ([60, 62] : Str), e2 := ([60, 32] : Str), e3 := ([60, 61] : Str), e4 := ([62, 32] : Str), e5 := ([62, 61] : Str) } : T_arr6_Str).e1, ({ e0 := ([61, 32] : Str), e1 := ([60, 62] : Str), e2 := ([60, 32] : Str), e3 := ([60, 61] : Str), e4 := ([62, 32] : Str), e5 := ([62, 61] : Str) } : T_arr6_Str).e2, ({ e0 := ([61, 32] : Str), e1 := ([60, 62] : Str), e2 := ([60, 32] : Str), e3 := ([60, 61] : Str), e4 := ([62, 32] : Str), e5 := ([62, 61] : Str) } : T_arr6_Str).e3, ({ e0 := ([61, 32] : Str), e1 := ([60, 62] : Str), e2 := ([60, 32] : Str), e3 := ([60, 61] : Str), e4 := ([62, 32] : Str), e5 := ([62, 61] : Str) } : T_arr6_Str).e4, ({ e0 := ([61, 32] : Str), e1 := ([60, 62] : Str), e2 := ([60, 32] : Str), e3 := ([60, 61] : Str), e4 := ([62, 32] : Str), e5 := ([62, 61] : Str) } : T_arr6_Str).e5] : List Str) (Go.IntKind.wrap .i64 (a0 - 1))).bind fun o2 =>
   (some o2))
def strings_Join : Nat → List Str → Str → Option Str
 | 0, _, _ => none
 | _ + 1, s, n => joinS s n
def match_Format_L2 (k : Nat) (o33 : (List T_api_Term))  (K0 : Int → (List Str) → Option (Str × Int)) : Nat → Int → (List Str) → Option (Str × Int)
 | 0, _, _ => none
 | m + 1, x43, x44 =>
  (bif (decide (x43 < (o33.length : Int))) then ((idx o33 x43).bind fun o46 =>
        (((strings_Repeat k ([32] : Str) (Go.IntKind.wrap .i64 (8 - (o46.fField.length : Int)))).bind fun v47 => ((cat o46.fField v47).bind fun v48 => ((match_sign k o46.fOp).bind fun v49 => ((cat v48 v49).bind fun v50 => ((cat v50 o46.fValue).bind fun v51 => (app x44 ([v51] : List Str))))))).bind fun o53 =>
        (match_Format_L2 k o33 K0 m (Go.IntKind.wrap .i64 (x43 + 1)) o53))) else
    (K0 x43 x44))
def match_Format_L1 (k : Nat) (a2 : (List (List T_api_Term)))  (K0 : (List Str) → Int → Option (Str × Int)) : Nat → (List Str) → Int → Option (Str × Int)
 | 0, _, _ => none
 | m + 1, x30, x31 =>
  (bif (decide (x31 < (a2.length : Int))) then ((idx a2 x31).bind fun o33 =>
        (match_Format_L2 k o33 (fun y54 y55 =>
        (((strings_Join k y55 ([38] : Str)).bind fun v56 => (app x30 ([v56] : List Str))).bind fun o58 =>
         (match_Format_L1 k a2 K0 m o58 (Go.IntKind.wrap .i64 (x31 + 1))))) k 0 ([] : List Str))) else
    (K0 x30 x31))
def match_Format : Nat → (T_api_Base) → (Int) → ((List (List T_api_Term))) → Option (Str × Int)
 | 0, _, _, _ => none
 | k + 1, a0, a1, a2 =>
  (((match_conditions k a0 a1 ([a2] : List (List (List T_api_Term)))).bind fun v1 => (some (v1.2))).bind fun o2 =>
   (bif (o2 != 0) then (some (([] : Str), o2)) else
   (match_Format_L1 k a2 (fun y59 y60 =>
    (((strings_Join k y59 ([124] : Str)).bind fun v61 => (some (v61, 0))).bind fun o62 =>
     (some (o62.1, o62.2)))) k ([] : List Str) 0)))
def match_span_L1 (a0 : Str) (a2 : (List T_api_Term))  (K0 : Str → Str → Int → Option (Str × Str)) : Nat → Int → Str → Str → Option (Str × Str)
 | 0, _, _, _ => none
 | m + 1, x8, x9, x10 =>
  (bif (decide (x8 < (a2.length : Int))) then ((idx a2 x8).bind fun o12 =>
        (bif (!(o12.fField == a0)) then (match_span_L1 a0 a2 K0 m (Go.IntKind.wrap .i64 (x8 + 1)) x9 x10) else
        ((bif (o12.fOp == 1) then (some (true)) else (bif (o12.fOp == 5) then (some (true)) else (some ((o12.fOp == 6))))).bind fun o13 =>
         (bif o13 then ((bif (o12.fOp == 1) then (some (true)) else (bif (o12.fOp == 3) then (some (true)) else (some ((o12.fOp == 4))))).bind fun o14 =>
          (bif o14 then (match_span_L1 a0 a2 K0 m (Go.IntKind.wrap .i64 (x8 + 1)) (Go.AE.maxS x9 o12.fValue) (Go.AE.minS x10 o12.fValue)) else
          (match_span_L1 a0 a2 K0 m (Go.IntKind.wrap .i64 (x8 + 1)) (Go.AE.maxS x9 o12.fValue) x10))) else
         ((bif (o12.fOp == 1) then (some (true)) else (bif (o12.fOp == 3) then (some (true)) else (some ((o12.fOp == 4))))).bind fun o15 =>
          (bif o15 then (match_span_L1 a0 a2 K0 m (Go.IntKind.wrap .i64 (x8 + 1)) x9 (Go.AE.minS x10 o12.fValue)) else
          (match_span_L1 a0 a2 K0 m (Go.IntKind.wrap .i64 (x8 + 1)) x9 x10))))))) else
    (K0 x9 x10 x8))
def match_span : Nat → (Str) → (Int) → ((List T_api_Term)) → Option (Str × Str)
 | 0, _, _, _ => none
 | k + 1, a0, a1, a2 =>
  ((strings_Repeat k ([255] : Str) a1).bind fun o2 =>
   (match_span_L1 a0 a2 (fun y16 y17 y18 =>
   (some (y16, y17))) k 0 ([] : Str) o2))
def match_Range_L1 (k : Nat) (a2 : (List (List T_api_Term))) (o4 : T_api_Field)  (K0 : Str → Str → Int → Option (Str × Str × Int)) : Nat → Str → Str → Int → Option (Str × Str × Int)
 | 0, _, _, _ => none
 | m + 1, x9, x10, x11 =>
  (bif (decide (x11 < (a2.length : Int))) then (((idx a2 x11).bind fun v12 => (some (x11, v12))).bind fun o13 =>
        (((match_span k o4.fName o4.fBytes o13.2).bind fun v14 => (some (v14.1, v14.2))).bind fun o15 =>
        (bif (o13.1 == 0) then (match_Range_L1 k a2 o4 K0 m (Go.AE.minS o15.1 o15.1) (Go.AE.maxS o15.2 o15.2) (Go.IntKind.wrap .i64 (x11 + 1))) else
        (match_Range_L1 k a2 o4 K0 m (Go.AE.minS x9 o15.1) (Go.AE.maxS x10 o15.2) (Go.IntKind.wrap .i64 (x11 + 1)))))) else
    (K0 x9 x10 x11))
def match_Range : Nat → (T_api_Base) → (Int) → ((List (List T_api_Term))) → Option (Str × Str × Int)
 | 0, _, _, _ => none
 | k + 1, a0, a1, a2 =>
  (((match_conditions k a0 a1 ([a2] : List (List (List T_api_Term)))).bind fun v1 => (some (v1.2, v1.1))).bind fun o2 =>
   (bif (o2.1 != 0) then (some (([] : Str), ([] : Str), o2.1)) else
   (bif (decide (o2.2.fKey < 0)) then (some (([] : Str), ([] : Str), 5)) else
    ((idx o2.2.fFields o2.2.fKey).bind fun o4 =>
     (match_Range_L1 k a2 o4 (fun y16 y17 y18 =>
     (bif ((a2.length : Int) == 0) then (((match_span k o4.fName o4.fBytes ([] : List T_api_Term)).bind fun v19 => (some (v19.1, v19.2))).bind fun o20 =>
       (some (o20.1, o20.2, 0))) else
      (some (y16, y17, 0)))) k ([] : Str) ([] : Str) 0)))))
def law12_Awake : Nat → Option Bool
 | 0 => none
 | k + 1 =>
  (((law12_shop k).bind fun v1 => ((match_Format k v1 0 ([([({ fField := ([67, 85, 83, 84, 78, 79] : Str), fOp := 6, fValue := ([48, 49, 48, 48] : Str) } : T_api_Term), ({ fField := ([67, 85, 83, 84, 78, 79] : Str), fOp := 4, fValue := ([48, 49, 57, 57] : Str) } : T_api_Term)] : List T_api_Term)] : List (List T_api_Term))).bind fun v2 => (some (v2.1, v2.2)))).bind fun o3 =>
   (((law12_shop k).bind fun v4 => ((match_Range k v4 0 ([([({ fField := ([67, 85, 83, 84, 78, 79] : Str), fOp := 6, fValue := ([48, 49, 48, 48] : Str) } : T_api_Term), ({ fField := ([67, 85, 83, 84, 78, 79] : Str), fOp := 4, fValue := ([48, 49, 57, 57] : Str) } : T_api_Term)] : List T_api_Term)] : List (List T_api_Term))).bind fun v5 => (some (v5.1, v5.2.1, v5.2.2)))).bind fun o6 =>
   ((bif (o3.2 == 0) then (bif (o6.2.2 == 0) then (bif (o3.1 == ([67, 85, 83, 84, 78, 79, 32, 32, 62, 61, 48, 49, 48, 48, 38, 67, 85, 83, 84, 78, 79, 32, 32, 60, 61, 48, 49, 57, 57] : Str)) then (bif (o6.1 == ([48, 49, 48, 48] : Str)) then (some ((o6.2.1 == ([48, 49, 57, 57] : Str)))) else (some (false))) else (some (false))) else (some (false))) else (some (false))).bind fun o7 =>
   (some o7))))
def match_Turned : Nat → (Int) → Option (Int × Int)
 | 0, _ => none
 | k + 1, a0 =>
  (bif (a0 == 1) then (some (a0, 0)) else
   (bif (a0 == 2) then (some (a0, 0)) else
    (bif (a0 == 3) then (some ((Go.IntKind.wrap .i64 ((Go.IntKind.wrap .i64 (a0 + 5)) - 3)), 0)) else
     (bif (a0 == 4) then (some ((Go.IntKind.wrap .i64 ((Go.IntKind.wrap .i64 (a0 + 5)) - 3)), 0)) else
      (bif (a0 == 5) then (some ((Go.IntKind.wrap .i64 ((Go.IntKind.wrap .i64 (a0 + 3)) - 5)), 0)) else
       (bif (a0 == 6) then (some ((Go.IntKind.wrap .i64 ((Go.IntKind.wrap .i64 (a0 + 3)) - 5)), 0)) else
        (some (0, 2))))))))
def dbd_fits : Nat → (T_api_Type) → (Str) → Option Bool
 | 0, _, _ => none
 | k + 1, a0, a1 =>
  ((bif (decide ((a1.length : Int) ≥ a0.fMin)) then (some ((decide ((a1.length : Int) ≤ a0.fSize)))) else (some (false))).bind fun o1 =>
   (some o1))
def dbd_Fits : Nat → (T_api_Base) → (Int) → (Str) → Option (Bool × Int)
 | 0, _, _, _ => none
 | k + 1, a0, a1, a2 =>
  ((dbd_asked k a0 ([a1] : List Int)).bind fun o2 =>
   (bif (o2 != 0) then (some (false, o2)) else
   (((idx a0.fTypes a1).bind fun v3 => ((dbd_fits k v3 a2).bind fun v4 => (some (v4, 0)))).bind fun o5 =>
    (some (o5.1, o5.2)))))
def match_Holds_2_1_v12 : Nat → (T_api_Term) → (Nat → T_api_Term → Option Bool) → Option Bool
 | 0, _, _ => none
 | k + 1, a0, a1 =>
  (((a1 k a0).bind fun v1 => (some ((!v1)))).bind fun o2 =>
   (some o2))
def match_Holds_2_v12 : Nat → ((List T_api_Term)) → (Nat → T_api_Term → Option Bool) → Option Bool
 | 0, _, _ => none
 | k + 1, a0, a1 =>
  (((slices_ContainsFunc_Term k a0 (fun j x0 => (match_Holds_2_1_v12 j x0 a1))).bind fun v1 => (some ((!v1)))).bind fun o2 =>
   (some o2))
def strings_Compare : Nat → Str → Str → Option Int
 | 0, _, _ => none
 | _ + 1, s, n => some (cmpB s n)
def match_holds : Nat → (Int) → (Str) → (Str) → Option Bool
 | 0, _, _, _ => none
 | k + 1, a0, a1, a2 =>
  ((strings_Compare k a1 a2).bind fun o2 =>
   (bif (a0 == 1) then (some (o2 == 0)) else
   (bif (a0 == 2) then (some (o2 != 0)) else
    (bif (a0 == 3) then (some (decide (o2 < 0))) else
     (bif (a0 == 4) then (some (decide (o2 ≤ 0))) else
      (bif (a0 == 5) then (some (decide (o2 > 0))) else
       (some (decide (o2 ≥ 0)))))))))
def match_Holds_1 : Nat → (T_api_Term) → (T_api_Type) → (Str) → Option Bool
 | 0, _, _, _ => none
 | k + 1, a0, a1, a2 =>
  (((match_field k a1 a0.fField).bind fun v1 => (some (v1.1))).bind fun o2 =>
   ((idx a1.fFields o2).bind fun o4 =>
   ((bif (decide ((Go.IntKind.wrap .i64 (o4.fAt + o4.fBytes)) ≤ (a2.length : Int))) then ((cut a2 o4.fAt (Go.IntKind.wrap .i64 (o4.fAt + o4.fBytes))).bind fun v5 => (match_holds k a0.fOp v5 a0.fValue)) else (some (false))).bind fun o7 =>
   (some o7))))
def match_Holds : Nat → (T_api_Base) → (Int) → ((List (List T_api_Term))) → (Str) → Option (Bool × Int)
 | 0, _, _, _, _ => none
 | k + 1, a0, a1, a2, a3 =>
  (((dbd_Fits k a0 a1 a3).bind fun v1 => (some (v1.1, v1.2))).bind fun o2 =>
   (bif (o2.2 != 0) then (some (false, o2.2)) else
   (bif (!o2.1) then (some (false, 2)) else
    (((match_conditions k a0 a1 ([a2] : List (List (List T_api_Term)))).bind fun v3 => (some (v3.2, v3.1))).bind fun o4 =>
     (bif (o4.1 != 0) then (some (false, o4.1)) else
     ((bif ((a2.length : Int) == 0) then (some (true, 0)) else ((slices_ContainsFunc_TermL k a2 (fun j x0 => (match_Holds_2_v12 j x0 (fun j x0 => (match_Holds_1 j x0 o4.2 a3))))).bind fun v5 => (some (v5, 0)))).bind fun o6 =>
      (some (o6.1, o6.2))))))))
def law12_MatchTurns : Nat → (Str) → (Str) → (Int) → Option Bool
 | 0, _, _, _ => none
 | k + 1, a0, a1, a2 =>
  ((bif (decide ((a0.length : Int) < 1)) then (some (true)) else (bif (decide ((a0.length : Int) > 20)) then (some (true)) else (some (((a0.length : Int) != (a1.length : Int)))))).bind fun o1 =>
   (bif o1 then ((law12_Awake k).bind fun o3 =>
    (some o3)) else
   (((law12_shop k).bind fun v4 => (some (v4.fName, v4.fKind, v4.fIndexes, v4.fName, v4.fKind, v4.fIndexes, v4.fTypes))).bind fun o5 =>
    (((inB o5.2.2.2.2.2.2.length 0).bind fun v6 => ((o5.2.2.2.2.2.2[0 + (0 : Int).toNat]?).bind fun v7 => ((inB (o5.2.2.2.2.2.2.set (0 + (0 : Int).toNat) { v7 with fMin := (a0.length : Int) }).length 0).bind fun v8 => (((o5.2.2.2.2.2.2.set (0 + (0 : Int).toNat) { v7 with fMin := (a0.length : Int) })[0 + (0 : Int).toNat]?).bind fun v9 => (some (((o5.2.2.2.2.2.2.set (0 + (0 : Int).toNat) { v7 with fMin := (a0.length : Int) }).set (0 + (0 : Int).toNat) { v9 with fSize := (a0.length : Int) }))))))).bind fun o10 =>
    (((inB o10.length 0).bind fun v11 => ((o10[0 + (0 : Int).toNat]?).bind fun v12 => (some ((o10.set (0 + (0 : Int).toNat) { v12 with fFields := ([({ fName := ([75, 69, 89] : Str), fAt := 0, fBytes := (a0.length : Int) } : T_api_Field)] : List T_api_Field) }))))).bind fun o13 =>
    (((match_Turned k a2).bind fun v14 => (some (v14.1, v14.2))).bind fun o15 =>
    (bif (o15.2 != 0) then ((bif (o15.2 == 2) then (bif (decide (a2 < 1)) then (law12_Awake k) else (bif (decide (a2 > 6)) then (law12_Awake k) else (some (false)))) else (some (false))).bind fun o18 =>
     (some o18)) else
    (((match_Holds k ({ fName := o5.2.2.2.1, fKind := o5.2.2.2.2.1, fTypes := o13, fIndexes := o5.2.2.2.2.2.1 } : T_api_Base) 0 ([([({ fField := ([75, 69, 89] : Str), fOp := a2, fValue := a1 } : T_api_Term)] : List T_api_Term)] : List (List T_api_Term)) a0).bind fun v19 => (some (v19.2, v19.1))).bind fun o20 =>
     (((match_Holds k ({ fName := o5.2.2.2.1, fKind := o5.2.2.2.2.1, fTypes := o13, fIndexes := o5.2.2.2.2.2.1 } : T_api_Base) 0 ([([({ fField := ([75, 69, 89] : Str), fOp := o15.1, fValue := a0 } : T_api_Term)] : List T_api_Term)] : List (List T_api_Term)) a1).bind fun v21 => (some (v21.1, v21.2))).bind fun o22 =>
     (((match_Turned k o15.1).bind fun v23 => (some (v23.1, v23.2))).bind fun o24 =>
     ((bif (o20.1 == 0) then (bif (o22.2 == 0) then (bif (o24.2 == 0) then (bif (o20.2 == o22.1) then (bif (o24.1 == a2) then (law12_Awake k) else (some (false))) else (some (false))) else (some (false))) else (some (false))) else (some (false))).bind fun o26 =>
     (some o26))))))))))))
end Go.Sh
namespace Go.Sh
open Go.AE
set_option linter.unusedVariables false
theorem maxLen_eq : maxLen = 9223372036854775807 := rfl
theorem wrap_in {x : Int} (h : -9223372036854775808 ≤ x) (h' : x ≤ 9223372036854775807) : Go.IntKind.wrap .i64 x = x := IntWalk.i64_in x ⟨h, h'⟩
theorem wrap_next {i n : Nat} (h : i < n) (hn : n ≤ maxLen) : Go.IntKind.wrap .i64 ((i : Int) + 1) = ((i + 1 : Nat) : Int) := by
 rw [wrap_in] <;> (try rw [maxLen_eq] at hn) <;> omega
theorem idx_at {α : Type} {l : List α} {i : Nat} (h : i < l.length) : idx l (i : Int) = some l[i] := by
 unfold idx
 rw [if_pos (by omega), Int.toNat_natCast, List.getElem?_eq_getElem h]
theorem idx_of {α : Type} {l : List α} {x : Int} (h0 : 0 ≤ x) (h : x < (l.length : Int)) : idx l x = some (l[x.toNat]'(by omega)) := by
 unfold idx
 rw [if_pos h0, List.getElem?_eq_getElem (by omega)]
theorem idxS_at {l : List UInt8} {i : Nat} (h : i < l.length) : idxS l (i : Int) = some (l[i].toNat : Int) := by
 unfold idxS
 rw [if_pos (by omega), Int.toNat_natCast, List.getElem?_eq_getElem h]
 rfl
theorem cut_take {α : Type} {l : List α} {i : Nat} (h : i ≤ l.length) : cut l 0 (i : Int) = some (l.take i) := by
 unfold cut
 rw [if_pos ⟨by omega, by omega, by omega⟩]
 simp
theorem app_ok {α : Type} {l m : List α} (h : l.length + m.length ≤ maxList) : app l m = some (l ++ m) := by
 unfold app; rw [if_pos h]
def scan {β : Type} (g : Nat → Bool) (r : Nat → β) (z : β) : Nat → Nat → β
 | 0, _ => z
 | d + 1, i => bif g i then r i else scan g r z d (i + 1)
theorem loop_scan {S β : Type} {n : Nat} {L : Nat → Int → S → β} {σ : Nat → S} {g : Nat → Bool} {r : Nat → β} {z : β}
  (hs : ∀ m i, i < n → (∀ j, j < i → g j = false) → L (m + 1) (i : Int) (σ i) = bif g i then r i else L m ((i + 1 : Nat) : Int) (σ (i + 1)))
  (he : ∀ m, (∀ j, j < n → g j = false) → L (m + 1) (n : Int) (σ n) = z) : ∀ d i m, i + d = n → (∀ j, j < i → g j = false) → d < m → L m (i : Int) (σ i) = scan g r z d i
 | 0, i, m, hd, hb, hm => by
  obtain ⟨m, rfl⟩ : ∃ q, m = q + 1 := ⟨m - 1, by omega⟩
  have : i = n := by omega
  subst this
  exact he m hb
 | d + 1, i, m, hd, hb, hm => by
  obtain ⟨m, rfl⟩ : ∃ q, m = q + 1 := ⟨m - 1, by omega⟩
  rw [hs m i (by omega) hb, scan]
  cases hg : g i with
  | true => rfl
  | false =>
   simp only [cond_false]
   refine loop_scan hs he d (i + 1) m (by omega) (fun j hj => ?_) (by omega)
   by_cases e : j = i
   ·subst e; exact hg
   ·exact hb j (by omega)
theorem loop0 {β : Type} {n : Nat} {L : Nat → Int → β} {g : Nat → Bool} {r : Nat → β} {z : β}
  (hs : ∀ m i, i < n → (∀ j, j < i → g j = false) → L (m + 1) (i : Int) = bif g i then r i else L m ((i + 1 : Nat) : Int))
  (he : ∀ m, (∀ j, j < n → g j = false) → L (m + 1) (n : Int) = z) {m : Nat} (hm : n < m) : L m 0 = scan g r z n 0 :=
 loop_scan (S := Unit) (L := fun m x _ => L m x) (σ := fun _ => ()) hs he n 0 m (by omega) (fun j hj => by omega) hm
theorem loopS {S β : Type} {n : Nat} {L : Nat → Int → S → β} {σ : Nat → S} {g : Nat → Bool} {r : Nat → β} {z : β}
  (hs : ∀ m i, i < n → (∀ j, j < i → g j = false) → L (m + 1) (i : Int) (σ i) = bif g i then r i else L m ((i + 1 : Nat) : Int) (σ (i + 1)))
  (he : ∀ m, (∀ j, j < n → g j = false) → L (m + 1) (n : Int) (σ n) = z) {m : Nat} (hm : n < m) {s0 : S} (h0 : σ 0 = s0) : L m 0 s0 = scan g r z n 0 := by
 subst h0
 exact loop_scan hs he n 0 m (by omega) (fun j hj => by omega) hm
def anyB (g : Nat → Bool) (n : Nat) : Bool := scan g (fun _ => true) false n 0
theorem scan_map {β γ : Type} (f : β → γ) {g : Nat → Bool} {r : Nat → β} {z : β} : ∀ d i, f (scan g r z d i) = scan g (fun i => f (r i)) (f z) d i
 | 0, _ => rfl
 | d + 1, i => by
  simp only [scan]
  cases g i with
  | true => rfl
  | false => exact scan_map f d (i + 1)
theorem scan_const {β : Type} {g : Nat → Bool} {r z : β} (n : Nat) : scan g (fun _ => r) z n 0 = bif anyB g n then r else z := by
 unfold anyB
 have : ∀ d i, scan g (fun _ => r) z d i = bif scan g (fun _ => true) false d i then r else z := by
  intro d
  induction d with
  | zero => intro i; rfl
  | succ d ih =>
   intro i
   simp only [scan]
   cases g i with
   | true => rfl
   | false => exact ih (i + 1)
 exact this n 0
/-- Either the first place where it holds, or nowhere. -/
theorem scan_cases {β : Type} (g : Nat → Bool) (r : Nat → β) (z : β) : ∀ d i, ((∀ q, i ≤ q → q < i + d → g q = false) ∧ scan g r z d i = z) ∨ ∃ j, i ≤ j ∧ j < i + d ∧ g j = true ∧ (∀ q, i ≤ q → q < j → g q = false) ∧ scan g r z d i = r j
 | 0, i => .inl ⟨fun q a b => by omega, rfl⟩
 | d + 1, i => by
  simp only [scan]
  cases hg : g i with
  | true => exact .inr ⟨i, Nat.le_refl i, by omega, hg, fun q a b => by omega, rfl⟩
  | false =>
   simp only [cond_false]
   rcases scan_cases g r z d (i + 1) with ⟨h1, h2⟩ | ⟨j, h1, h2, h3, h4, h5⟩
   ·exact .inl ⟨fun q a b => by
     by_cases e : q = i
     ·subst e; exact hg
     ·exact h1 q (by omega) (by omega), h2⟩
   ·exact .inr ⟨j, by omega, by omega, h3, fun q a b => by
     by_cases e : q = i
     ·subst e; exact hg
     ·exact h4 q (by omega) b, h5⟩
theorem anyB_iff {g : Nat → Bool} {n : Nat} : anyB g n = true ↔ ∃ i, i < n ∧ g i = true := by
 unfold anyB
 rcases scan_cases g (fun _ => true) false n 0 with ⟨h1, h2⟩ | ⟨j, h1, h2, h3, h4, h5⟩
 ·rw [h2]
  exact ⟨fun h => absurd h (by simp), fun ⟨i, hi, hg⟩ => absurd hg (by rw [h1 i (by omega) (by omega)]; simp)⟩
 ·rw [h5]
  exact ⟨fun _ => ⟨j, by omega, h3⟩, fun _ => rfl⟩
theorem anyB_false {g : Nat → Bool} {n : Nat} : anyB g n = false ↔ ∀ i, i < n → g i = false := by
 constructor
 ·intro h i hi
  cases hg : g i with
  | false => rfl
  | true => rw [anyB_iff.2 ⟨i, hi, hg⟩] at h; cases h
 ·intro h
  cases ha : anyB g n with
  | false => rfl
  | true =>
   obtain ⟨i, hi, hg⟩ := anyB_iff.1 ha
   rw [h i hi] at hg; cases hg
/-- Places of a list. -/
def at' {α : Type} (l : List α) (p : α → Bool) (i : Nat) : Bool := match l[i]? with | some x => p x | none => false
theorem at'_eq {α : Type} {l : List α} {p : α → Bool} {i : Nat} (h : i < l.length) : at' l p i = p l[i] := by
 unfold at'
 rw [List.getElem?_eq_getElem h]
/-- The first place where it holds, or -1. -/
def pos {α : Type} (l : List α) (p : α → Bool) : Int := scan (at' l p) (fun i => (i : Int)) (-1) l.length 0
theorem pos_cases {α : Type} (l : List α) (p : α → Bool) : ((∀ i (h : i < l.length), p l[i] = false) ∧ pos l p = -1) ∨ ∃ j, ∃ h : j < l.length, p l[j] = true ∧ (∀ i (h : i < l.length), i < j → p l[i] = false) ∧ pos l p = (j : Int) := by
 unfold pos
 rcases scan_cases (at' l p) (fun i => (i : Int)) (-1) l.length 0 with ⟨h1, h2⟩ | ⟨j, h1, h2, h3, h4, h5⟩
 ·exact .inl ⟨fun i hi => by rw [← at'_eq (p := p) hi]; exact h1 i (by omega) (by omega), h2⟩
 ·refine .inr ⟨j, by omega, ?_, fun i hi hij => ?_, h5⟩
  ·rw [← at'_eq (p := p) (show j < l.length by omega)]; exact h3
  ·rw [← at'_eq (p := p) hi]; exact h4 i (by omega) hij
theorem pos_any {α : Type} (l : List α) (p : α → Bool) : decide (pos l p ≥ 0) = l.any p := by
 rcases pos_cases l p with ⟨h1, h2⟩ | ⟨j, h1, h2, h3, h4⟩
 ·rw [h2]
  have : l.any p = false := by
   rw [List.any_eq_false]
   intro x hx
   obtain ⟨i, hi, rfl⟩ := List.getElem_of_mem hx
   rw [h1 i hi]; simp
  rw [this]; rfl
 ·rw [h4]
  have : l.any p = true := List.any_eq_true.2 ⟨l[j], List.getElem_mem h1, h2⟩
  rw [this]
  simp
end Go.Sh

namespace Go.Sh
open Go.AE
set_option linter.unusedVariables false
set_option linter.unusedSimpArgs false
theorem succ_of {k c : Nat} (h : c + 1 ≤ k) : ∃ q, k = q + 1 ∧ c ≤ q := ⟨k - 1, by omega, by omega⟩
def badL (s : Str) (i : Nat) : Bool := at' s (fun c => (!(decide ((c.toNat : Int) ≥ 65) && decide ((c.toNat : Int) ≤ 90))) && (((i : Int) == 0) || (decide ((c.toNat : Int) < 48) || decide ((c.toNat : Int) > 57)))) i
def nameOk (s : Str) : Bool := !anyB (badL s) s.length && (decide ((s.length : Int) ≥ 1) && decide ((s.length : Int) ≤ 8))
theorem dbd_isName {k : Nat} {s : Str} (hk : maxLen + 2 ≤ k) (hs : wfS s) : dbd_IsName k s = some (nameOk s) := by
 obtain ⟨k, rfl, hq⟩ := succ_of hk
 unfold dbd_IsName
 unfold wfS at hs
 refine Eq.trans (loop0 (L := fun m x => dbd_IsName_L1 s _ m x) (n := s.length) (g := badL s) (r := fun _ => some false) (z := some (decide ((s.length : Int) ≥ 1) && decide ((s.length : Int) ≤ 8))) ?_ ?_ (by omega)) ?_
 rotate_left 2
 ·rw [scan_const]
  unfold nameOk
  cases anyB (badL s) s.length <;> rfl
 ·intro m i hi _
  simp only [dbd_IsName_L1, badL, at'_eq hi, idxS_at hi, wrap_next hi hs, Option.bind_some, show decide ((i : Int) < (s.length : Int)) = true by simp; exact hi, cond_true]
  cases decide ((s[i].toNat : Int) ≥ 65) <;> cases decide ((s[i].toNat : Int) ≤ 90) <;> cases ((i : Int) == 0) <;> cases decide ((s[i].toNat : Int) < 48) <;> cases decide ((s[i].toNat : Int) > 57) <;> rfl
 ·intro m _
  simp only [dbd_IsName_L1, show decide ((s.length : Int) < (s.length : Int)) = false by simp, cond_false]
  cases decide ((s.length : Int) ≥ 1) <;> cases decide ((s.length : Int) ≤ 8) <;> rfl
theorem indexFunc_gen {α : Type} {l : List α} {p : α → Bool} {f : α → Option Bool} (hp : ∀ x ∈ l, f x = some (p x)) {L : Nat → Int → Option Int} {K0 : Int → Option Int}
  (hL : ∀ m x, L (m + 1) x = (bif decide (x < (l.length : Int)) then (((idx l x).bind f).bind fun o => (bif o then (some x) else L m (Go.IntKind.wrap .i64 (x + 1)))) else K0 x))
  (hK : K0 (l.length : Int) = some (-1)) (hn : l.length ≤ maxLen) {m : Nat} (hm : l.length < m) : L m 0 = some (pos l p) := by
 refine Eq.trans (loop0 (L := L) (n := l.length) (g := at' l p) (r := fun i => some (i : Int)) (z := some (-1)) ?_ ?_ hm) ?_
 rotate_left 2
 ·unfold pos
  rw [scan_map some]
 ·intro m i hi _
  rw [hL, at'_eq hi]
  simp only [show decide ((i : Int) < (l.length : Int)) = true by simp; exact hi, cond_true, idx_at hi, Option.bind_some, hp _ (List.getElem_mem hi), wrap_next hi hn]
 ·intro m _
  rw [hL]
  simp only [show decide ((l.length : Int) < (l.length : Int)) = false by simp, cond_false, hK]
theorem indexFunc_Field {k : Nat} {l : List T_api_Field} {p : T_api_Field → Bool} {f : Nat → T_api_Field → Option Bool} (hk : l.length + 2 ≤ k) (hn : l.length ≤ maxLen) (hp : ∀ k', k' + 1 = k → ∀ x ∈ l, f k' x = some (p x)) : slices_IndexFunc_Field k l f = some (pos l p) := by
 obtain ⟨k, rfl, hq⟩ := succ_of hk
 exact indexFunc_gen (hp k rfl) (L := fun m x => slices_IndexFunc_Field_L1 k l f _ m x) (fun m x => rfl) rfl hn (by omega)
theorem indexFunc_Type {k : Nat} {l : List T_api_Type} {p : T_api_Type → Bool} {f : Nat → T_api_Type → Option Bool} (hk : l.length + 2 ≤ k) (hn : l.length ≤ maxLen) (hp : ∀ k', k' + 1 = k → ∀ x ∈ l, f k' x = some (p x)) : slices_IndexFunc_Type k l f = some (pos l p) := by
 obtain ⟨k, rfl, hq⟩ := succ_of hk
 exact indexFunc_gen (hp k rfl) (L := fun m x => slices_IndexFunc_Type_L1 k l f _ m x) (fun m x => rfl) rfl hn (by omega)
theorem indexFunc_Search {k : Nat} {l : List T_api_Search} {p : T_api_Search → Bool} {f : Nat → T_api_Search → Option Bool} (hk : l.length + 2 ≤ k) (hn : l.length ≤ maxLen) (hp : ∀ k', k' + 1 = k → ∀ x ∈ l, f k' x = some (p x)) : slices_IndexFunc_Search k l f = some (pos l p) := by
 obtain ⟨k, rfl, hq⟩ := succ_of hk
 exact indexFunc_gen (hp k rfl) (L := fun m x => slices_IndexFunc_Search_L1 k l f _ m x) (fun m x => rfl) rfl hn (by omega)
theorem indexFunc_int {k : Nat} {l : List Int} {p : Int → Bool} {f : Nat → Int → Option Bool} (hk : l.length + 2 ≤ k) (hn : l.length ≤ maxLen) (hp : ∀ k', k' + 1 = k → ∀ x ∈ l, f k' x = some (p x)) : slices_IndexFunc_int k l f = some (pos l p) := by
 obtain ⟨k, rfl, hq⟩ := succ_of hk
 exact indexFunc_gen (hp k rfl) (L := fun m x => slices_IndexFunc_int_L1 k l f _ m x) (fun m x => rfl) rfl hn (by omega)
theorem index_int {k : Nat} {l : List Int} {y : Int} (hk : l.length + 2 ≤ k) (hn : l.length ≤ maxLen) : slices_Index_int k l y = some (pos l (fun x => y == x)) := by
 obtain ⟨k, rfl, hq⟩ := succ_of hk
 exact indexFunc_gen (f := fun x => some (y == x)) (fun x _ => rfl) (L := fun m x => slices_Index_int_L1 l y _ m x) (fun m x => rfl) rfl hn (by omega)
theorem containsFunc_Field {k : Nat} {l : List T_api_Field} {p : T_api_Field → Bool} {f : Nat → T_api_Field → Option Bool} (hk : l.length + 3 ≤ k) (hn : l.length ≤ maxLen) (hp : ∀ k', k' + 2 = k → ∀ x ∈ l, f k' x = some (p x)) : slices_ContainsFunc_Field k l f = some (l.any p) := by
 obtain ⟨k, rfl, hq⟩ := succ_of hk
 simp only [slices_ContainsFunc_Field, indexFunc_Field hq hn (fun k' e => hp k' (by omega)), Option.bind_some, pos_any]
theorem containsFunc_Type {k : Nat} {l : List T_api_Type} {p : T_api_Type → Bool} {f : Nat → T_api_Type → Option Bool} (hk : l.length + 3 ≤ k) (hn : l.length ≤ maxLen) (hp : ∀ k', k' + 2 = k → ∀ x ∈ l, f k' x = some (p x)) : slices_ContainsFunc_Type k l f = some (l.any p) := by
 obtain ⟨k, rfl, hq⟩ := succ_of hk
 simp only [slices_ContainsFunc_Type, indexFunc_Type hq hn (fun k' e => hp k' (by omega)), Option.bind_some, pos_any]
theorem containsFunc_Search {k : Nat} {l : List T_api_Search} {p : T_api_Search → Bool} {f : Nat → T_api_Search → Option Bool} (hk : l.length + 3 ≤ k) (hn : l.length ≤ maxLen) (hp : ∀ k', k' + 2 = k → ∀ x ∈ l, f k' x = some (p x)) : slices_ContainsFunc_Search k l f = some (l.any p) := by
 obtain ⟨k, rfl, hq⟩ := succ_of hk
 simp only [slices_ContainsFunc_Search, indexFunc_Search hq hn (fun k' e => hp k' (by omega)), Option.bind_some, pos_any]
theorem containsFunc_int {k : Nat} {l : List Int} {p : Int → Bool} {f : Nat → Int → Option Bool} (hk : l.length + 3 ≤ k) (hn : l.length ≤ maxLen) (hp : ∀ k', k' + 2 = k → ∀ x ∈ l, f k' x = some (p x)) : slices_ContainsFunc_int k l f = some (l.any p) := by
 obtain ⟨k, rfl, hq⟩ := succ_of hk
 simp only [slices_ContainsFunc_int, indexFunc_int hq hn (fun k' e => hp k' (by omega)), Option.bind_some, pos_any]
def badField (size : Int) (fs : List T_api_Field) (i : Nat) : Bool :=
 at' fs (fun f => ((!nameOk f.fName) || (decide (f.fAt < 0) || (decide (f.fAt ≥ size) || (decide (f.fBytes < 1) || decide (f.fBytes > Go.IntKind.wrap .i64 (size - f.fAt)))))) || (fs.take i).any (fun g => g.fName == f.fName)) i
theorem dbd_areFields_spec {k : Nat} {fs : List T_api_Field} {size : Int} (hk : maxLen + 5 ≤ k) (hw : wfL wf_T_api_Field fs) : dbd_areFields k fs size = some (!anyB (badField size fs) fs.length && decide ((fs.length : Int) ≤ 5)) := by
 obtain ⟨k, rfl, hq⟩ := succ_of hk
 unfold dbd_areFields
 obtain ⟨hl, hw⟩ := hw
 refine Eq.trans (loop0 (L := fun m x => dbd_areFields_L1 k fs size _ m x) (n := fs.length) (g := badField size fs) (r := fun _ => some false) (z := some (decide ((fs.length : Int) ≤ 5))) ?_ ?_ (by omega)) ?_
 rotate_left 2
 ·rw [scan_const]
  cases anyB (badField size fs) fs.length <;> rfl
 ·intro m i hi _
  have h1 := hw _ (List.getElem_mem hi)
  have hc : slices_ContainsFunc_Field k (fs.take i) (fun j x0 => dbd_areFields_1 j x0 fs[i]) = some ((fs.take i).any (fun g => g.fName == fs[i].fName)) := by
   refine containsFunc_Field (by rw [List.length_take]; omega) (by rw [List.length_take]; omega) (fun k' e x hx => ?_)
   obtain ⟨k', rfl, _⟩ := succ_of (show 0 + 1 ≤ k' by omega)
   rfl
  simp only [dbd_areFields_L1, badField, at'_eq hi, idx_at hi, wrap_next hi hl, Option.bind_some, show decide ((i : Int) < (fs.length : Int)) = true by simp; exact hi, cond_true, dbd_isName (show maxLen + 2 ≤ k by omega) h1.1, cut_take (show i ≤ fs.length by omega), hc]
  cases nameOk fs[i].fName <;> cases decide (fs[i].fAt < 0) <;> cases decide (fs[i].fAt ≥ size) <;> cases decide (fs[i].fBytes < 1) <;> cases decide (fs[i].fBytes > Go.IntKind.wrap .i64 (size - fs[i].fAt)) <;> cases (fs.take i).any (fun g => g.fName == fs[i].fName) <;> rfl
 ·intro m _
  simp only [dbd_areFields_L1, show decide ((fs.length : Int) < (fs.length : Int)) = false by simp, cond_false]
def keyFit (t : T_api_Type) : Bool := match idx t.fFields t.fKey with | some f => decide ((Go.IntKind.wrap .i64 (f.fAt + f.fBytes)) ≤ t.fMin) | none => false
def fieldsOk (t : T_api_Type) : Bool := !anyB (badField t.fSize t.fFields) t.fFields.length && decide ((t.fFields.length : Int) ≤ 5)
def keyOk (t : T_api_Type) : Bool := bif (t.fKey == (-1)) then !t.fUnique else !(decide (t.fKey < 0) || decide (t.fKey ≥ (t.fFields.length : Int))) && keyFit t
def typeOk (t : T_api_Type) : Bool := !((!nameOk t.fName) || (decide (t.fMin < 1) || (decide (t.fMin > t.fSize) || (decide (t.fSize > 40) || !fieldsOk t)))) && keyOk t
theorem dbd_isType_spec {k : Nat} {t : T_api_Type} (hk : maxLen + 6 ≤ k) (hw : wf_T_api_Type t) : dbd_isType k t = some (typeOk t) := by
 obtain ⟨k, rfl, hq⟩ := succ_of hk
 obtain ⟨h1, _, _, _, h5, _⟩ := hw
 simp only [dbd_isType, dbd_isName (show maxLen + 2 ≤ k by omega) h1, dbd_areFields_spec (show maxLen + 5 ≤ k by omega) h5, Option.bind_some]
 unfold typeOk fieldsOk keyOk keyFit
 generalize (!anyB (badField t.fSize t.fFields) t.fFields.length && decide ((t.fFields.length : Int) ≤ 5)) = fo
 cases hx : idx t.fFields t.fKey with
 | none =>
  -- then the key is out of range
  have : decide (t.fKey < 0) = true ∨ decide (t.fKey ≥ (t.fFields.length : Int)) = true := by
   simp only [decide_eq_true_eq]
   by_cases h0 : t.fKey < 0
   ·exact .inl h0
   ·by_cases h2 : t.fKey ≥ (t.fFields.length : Int)
    ·exact .inr h2
    ·rw [idx_of (by omega) (by omega)] at hx; cases hx
  cases nameOk t.fName <;> cases decide (t.fMin < 1) <;> cases decide (t.fMin > t.fSize) <;> cases decide (t.fSize > 40) <;> cases fo <;> try rfl
  rcases this with h | h
  ·rw [h]; cases (t.fKey == (-1)) <;> rfl
  ·rw [h]; cases (t.fKey == (-1)) <;> cases decide (t.fKey < 0) <;> rfl
 | some f =>
  simp only [Option.bind_some]
  cases nameOk t.fName <;> cases decide (t.fMin < 1) <;> cases decide (t.fMin > t.fSize) <;> cases decide (t.fSize > 40) <;> cases fo <;> cases (t.fKey == (-1)) <;> cases decide (t.fKey < 0) <;> cases decide (t.fKey ≥ (t.fFields.length : Int)) <;> rfl
end Go.Sh

namespace Go.Sh
open Go.AE
set_option linter.unusedVariables false
set_option linter.unusedSimpArgs false
/-- From the root to 'x'. -/
def chain (ts : List T_api_Type) : Nat → Int → List Int
 | 0, _ => []
 | d + 1, x => if 0 ≤ x then (match ts[x.toNat]? with | some t => chain ts d t.fParent ++ [x] | none => []) else []
def way (ts : List T_api_Type) (x : Nat) : List Int := chain ts (x + 1) (x : Int)
/-- Parents come first, below 'n'. -/
def Up (ts : List T_api_Type) (n : Nat) : Prop := ∀ j (h : j < ts.length), j < n → (ts[j]).fParent < (j : Int)
theorem Up.mono {ts : List T_api_Type} {n m : Nat} (h : Up ts n) (hm : m ≤ n) : Up ts m := fun j hj hjm => h j hj (by omega)
theorem chain_neg {ts : List T_api_Type} {d : Nat} {x : Int} (h : x < 0) : chain ts d x = [] := by
 cases d with
 | zero => rfl
 | succ d => rw [chain, if_neg (by omega)]
theorem chain_stable {ts : List T_api_Type} {n : Nat} (hu : Up ts n) : ∀ (d d' : Nat) (x : Int), x < (d : Int) → x < (d' : Int) → x < (n : Int) → chain ts d x = chain ts d' x
 | 0, d', x, h, h', hn => by rw [chain_neg (d := 0) (by omega), chain_neg (by omega)]
 | d + 1, 0, x, h, h', hn => by rw [chain_neg (by omega), chain_neg (by omega)]
 | d + 1, d' + 1, x, h, h', hn => by
  by_cases h0 : 0 ≤ x
  ·simp only [chain, if_pos h0]
   cases ht : ts[x.toNat]? with
   | none => rfl
   | some t =>
    have hlt : x.toNat < ts.length := by
     rcases Nat.lt_or_ge x.toNat ts.length with h1 | h1
     ·exact h1
     ·rw [List.getElem?_eq_none h1] at ht; cases ht
    have he : ts[x.toNat] = t := by rw [List.getElem?_eq_getElem hlt] at ht; exact Option.some.inj ht
    have := hu x.toNat hlt (by omega)
    rw [he] at this
    simp only
    rw [chain_stable hu d d' t.fParent (by omega) (by omega) (by omega)]
  ·rw [chain_neg (by omega), chain_neg (by omega)]
theorem chain_way {ts : List T_api_Type} {n d : Nat} (hu : Up ts n) {x : Int} (h0 : 0 ≤ x) (hd : x < (d : Int)) (hn : x < (n : Int)) : chain ts d x = way ts x.toNat := by
 unfold way
 rw [show ((x.toNat : Nat) : Int) = x by omega]
 exact chain_stable hu _ _ x hd (by omega) hn
theorem way_succ {ts : List T_api_Type} {n x : Nat} (hu : Up ts n) (hn : x < n) (hx : x < ts.length) : way ts x = chain ts n (ts[x]).fParent ++ [(x : Int)] := by
 unfold way
 rw [chain, if_pos (by omega), Int.toNat_natCast, List.getElem?_eq_getElem hx]
 simp only
 have := hu x hx hn
 rw [chain_stable hu x n _ this (by omega) (by omega)]
theorem chain_lt {ts : List T_api_Type} {n : Nat} (hu : Up ts n) : ∀ (d : Nat) (x : Int), x < (n : Int) → ∀ y ∈ chain ts d x, 0 ≤ y ∧ y ≤ x
 | 0, _, _, y, hy => by cases hy
 | d + 1, x, hn, y, hy => by
  by_cases h0 : 0 ≤ x
  ·simp only [chain, if_pos h0] at hy
   cases ht : ts[x.toNat]? with
   | none => rw [ht] at hy; cases hy
   | some t =>
    rw [ht] at hy
    have hlt : x.toNat < ts.length := by
     rcases Nat.lt_or_ge x.toNat ts.length with h1 | h1
     ·exact h1
     ·rw [List.getElem?_eq_none h1] at ht; cases ht
    have he : ts[x.toNat] = t := by rw [List.getElem?_eq_getElem hlt] at ht; exact Option.some.inj ht
    have hp := hu x.toNat hlt (by omega)
    rw [he] at hp
    simp only [List.mem_append, List.mem_singleton] at hy
    rcases hy with hy | hy
    ·have := chain_lt hu d t.fParent (by omega) y hy
     omega
    ·omega
  ·rw [chain_neg (by omega)] at hy; cases hy
theorem chain_len {ts : List T_api_Type} : ∀ (d : Nat) (x : Int), (chain ts d x).length ≤ d
 | 0, _ => Nat.le_refl 0
 | d + 1, x => by
  rw [chain]
  split
  ·split
   ·have := chain_len (ts := ts) d (by assumption : T_api_Type).fParent
    simp
    omega
   ·exact Nat.zero_le _
  ·exact Nat.zero_le _
theorem pos_eq {α : Type} {l : List α} {p : α → Bool} {j : Nat} (h : j < l.length) (hp : p l[j] = true) (hb : ∀ i (h : i < l.length), i < j → p l[i] = false) : pos l p = (j : Int) := by
 rcases pos_cases l p with ⟨h1, _⟩ | ⟨q, h1, h2, h3, h4⟩
 ·rw [h1 j h] at hp; cases hp
 ·rw [h4]
  rcases Nat.lt_trichotomy q j with h5 | h5 | h5
  ·rw [hb q h1 h5] at h2; cases h2
  ·rw [h5]
  ·rw [h3 j h h5] at hp; cases hp
theorem pos_none {α : Type} {l : List α} {p : α → Bool} (h : l.any p = false) : pos l p = -1 := by
 rcases pos_cases l p with ⟨_, h2⟩ | ⟨j, h1, h2, _, _⟩
 ·exact h2
 ·rw [List.any_eq_false] at h
  have := h _ (List.getElem_mem h1)
  rw [h2] at this; simp at this
/-- Up to one that is on the way: its own way. -/
theorem way_cut {ts : List T_api_Type} {n : Nat} (hu : Up ts n) : ∀ (d : Nat) (x : Int), x < (d : Int) → x < (n : Int) → ∀ y : Int, y ∈ chain ts d x → (chain ts d x).take ((pos (chain ts d x) (fun z => y == z)) + 1).toNat = way ts y.toNat
 | 0, _, _, _, y, hy => by cases hy
 | d + 1, x, hd, hn, y, hy => by
  by_cases h0 : 0 ≤ x
  ·have hy1 := hy
   simp only [chain, if_pos h0] at hy1 ⊢
   cases ht : ts[x.toNat]? with
   | none => rw [ht] at hy1; cases hy1
   | some t =>
    rw [ht] at hy1
    simp only at hy1 ⊢
    have hlt : x.toNat < ts.length := by
     rcases Nat.lt_or_ge x.toNat ts.length with h1 | h1
     ·exact h1
     ·rw [List.getElem?_eq_none h1] at ht; cases ht
    have he : ts[x.toNat] = t := by rw [List.getElem?_eq_getElem hlt] at ht; exact Option.some.inj ht
    have hp := hu x.toNat hlt (by omega)
    rw [he] at hp
    have hlow := chain_lt hu d t.fParent (by omega)
    by_cases hyx : y = x
    ·subst hyx
     have hps : pos (chain ts d t.fParent ++ [y]) (fun z => y == z) = ((chain ts d t.fParent).length : Int) := by
      refine pos_eq (by simp) (by simp) (fun i hi hij => ?_)
      rw [List.getElem_append_left hij]
      have := hlow _ (List.getElem_mem hij)
      simp only [beq_eq_false_iff_ne, ne_eq]
      omega
     rw [hps]
     have e1 : (((chain ts d t.fParent).length : Int) + 1).toNat = (chain ts d t.fParent).length + 1 := by omega
     rw [e1, List.take_of_length_le (by simp)]
     rw [way_succ hu (show y.toNat < n by omega) hlt, he]
     rw [chain_stable hu d n t.fParent (by omega) (by omega) (by omega)]
     rw [show ((y.toNat : Nat) : Int) = y by omega]
    ·have hy2 : y ∈ chain ts d t.fParent := by
      simp only [List.mem_append, List.mem_singleton] at hy1
      rcases hy1 with h | h
      ·exact h
      ·exact absurd h hyx
     rcases pos_cases (chain ts d t.fParent) (fun z => y == z) with ⟨g1, _⟩ | ⟨j, g1, g2, g3, g4⟩
     ·obtain ⟨i, hi, he2⟩ := List.getElem_of_mem hy2
      have := g1 i hi
      rw [he2] at this; simp at this
     ·have hps : pos (chain ts d t.fParent ++ [x]) (fun z => y == z) = (j : Int) := by
       refine pos_eq (by simp; omega) (by rw [List.getElem_append_left g1]; exact g2) (fun i hi hij => ?_)
       rw [List.getElem_append_left (by omega)]
       exact g3 i (by omega) hij
      have ih := way_cut hu d t.fParent (by omega) (by omega) y hy2
      rw [g4] at ih
      rw [hps, List.take_append_of_le_length (by omega)]
      exact ih
  ·rw [chain_neg (by omega)] at hy; cases hy
def dupType (ts : List T_api_Type) (i : Nat) : Bool := at' ts (fun t => (ts.take i).any (fun g => g.fName == t.fName)) i
def rootBad (t : T_api_Type) : Bool := (t.fParent != (-1)) || (decide (t.fKey < 0) || (!t.fUnique || (match idx t.fFields t.fKey with | some f => decide (f.fBytes > 24) | none => true)))
def before (ts : List T_api_Type) : Nat → List Int
 | 0 => []
 | i + 1 => way ts i
def badType (ts : List T_api_Type) (i : Nat) : Bool := at' ts (fun t => (!typeOk t || dupType ts i) || ((bif Nat.beq i 0 then rootBad t else !(before ts i).any (fun z => t.fParent == z)) || decide (((way ts i).length : Int) > 5))) i
def typesOk (ts : List T_api_Type) : Bool := !(decide ((ts.length : Int) < 1) || decide ((ts.length : Int) > 8)) && !anyB (badType ts) ts.length
/-- As long as no type is bad, parents come first. -/
theorem up_of {ts : List T_api_Type} : ∀ (n : Nat), (∀ j, j < n → badType ts j = false) → Up ts n
 | 0, _ => fun j _ h => by omega
 | n + 1, h => by
  have ih := up_of n (fun j hj => h j (by omega))
  intro j hj hjn
  by_cases e : j < n
  ·exact ih j hj e
  ·have hjn' : j = n := by omega
   subst hjn'
   have hb := h j (by omega)
   rw [badType, at'_eq hj] at hb
   cases j with
   | zero =>
    simp only [Bool.or_eq_false_iff, show Nat.beq 0 0 = true from rfl, cond_true, rootBad] at hb
    have := hb.2.1.1
    simp at this
    omega
   | succ q =>
    simp only [Bool.or_eq_false_iff, show Nat.beq (q + 1) 0 = false from rfl, cond_false] at hb
    have h2 := hb.2.1
    simp only [Bool.not_eq_false', List.any_eq_true] at h2
    obtain ⟨z, hz, he⟩ := h2
    have hz' : z ∈ way ts q := hz
    have := chain_lt ih (q + 1) q (by omega) z hz'
    have he' : (ts[q + 1]).fParent = z := by simpa using he
    omega
theorem dbd_areTypes_spec {k : Nat} {ts : List T_api_Type} (hk : maxLen + 8 ≤ k) (hw : wfL wf_T_api_Type ts) : dbd_areTypes k ts = some (typesOk ts) := by
 obtain ⟨k, rfl, hq⟩ := succ_of hk
 obtain ⟨hl, hw⟩ := hw
 have e63 := maxLen_eq
 unfold dbd_areTypes typesOk
 by_cases hlen : 1 ≤ ts.length ∧ ts.length ≤ 8
 ·obtain ⟨hlen1, hlen2⟩ := hlen
  simp only [show decide ((ts.length : Int) < 1) = false by simp; omega, show decide ((ts.length : Int) > 8) = false by simp; omega, cond_false, Option.bind_some, Bool.or_false, Bool.not_false, Bool.true_and]
  refine Eq.trans (loopS (L := fun m x s => dbd_areTypes_L1 k ts _ m x s) (n := ts.length) (σ := before ts) (g := badType ts) (r := fun _ => some false) (z := some true) ?_ ?_ (by omega) rfl) ?_
  rotate_left 2
  ·rw [scan_const]
   cases anyB (badType ts) ts.length <;> rfl
  ·intro m i hi hb
   have h1 := hw _ (List.getElem_mem hi)
   have hup := up_of i hb
   have hc : slices_ContainsFunc_Type k (ts.take i) (fun j x0 => dbd_areTypes_1 j x0 ts[i]) = some (dupType ts i) := by
    rw [dupType, at'_eq hi]
    refine containsFunc_Type (by rw [List.length_take]; omega) (by rw [List.length_take]; omega) (fun k' e x hx => ?_)
    obtain ⟨k', rfl, _⟩ := succ_of (show 0 + 1 ≤ k' by omega)
    rfl
   have hbl : (before ts i).length ≤ 8 := by
    cases i with
    | zero => exact Nat.zero_le _
    | succ q => have := chain_len (ts := ts) (q + 1) q; show (way ts q).length ≤ 8; unfold way; omega
   simp only [dbd_areTypes_L1, idx_at hi, wrap_next hi hl, Option.bind_some, show decide ((i : Int) < (ts.length : Int)) = true by simp; exact hi, cond_true, dbd_isType_spec (show maxLen + 6 ≤ k by omega) h1, cut_take (show i ≤ ts.length by omega), hc,
    index_int (show (before ts i).length + 2 ≤ k by omega) (show (before ts i).length ≤ maxLen by omega)]
   rw [badType, at'_eq hi]
   cases hto : typeOk ts[i] with
   | false => rfl
   | true =>
    cases hdt : dupType ts i with
    | true => rfl
    | false =>
     simp only [Bool.not_true, cond_false, Option.bind_some, Bool.or_false, Bool.false_or]
     cases i with
     | zero =>
      simp only [show (((0 : Nat) : Int) == 0) = true from rfl, cond_true, show Nat.beq 0 0 = true from rfl, show decide (((0 : Nat) : Int) > 0) = false from rfl, cond_false]
      have hroot : (bif ((ts[0]).fParent != (-1)) then (some (true)) else (bif (decide ((ts[0]).fKey < 0)) then (some (true)) else (bif (!(ts[0]).fUnique) then (some (true)) else ((idx (ts[0]).fFields (ts[0]).fKey).bind fun v25 => (bif (decide (v25.fBytes > 24)) then (some (true)) else some false))))) = some (rootBad ts[0]) := by
       unfold rootBad
       cases hx : idx (ts[0]).fFields (ts[0]).fKey with
       | none =>
        -- the key of a type that is right is there, or negative
        have hneg : decide ((ts[0]).fKey < 0) = true := by
         simp only [decide_eq_true_eq]
         by_cases h0 : (ts[0]).fKey < 0
         ·exact h0
         ·exfalso
          have hko : keyOk ts[0] = true := by
           unfold typeOk at hto
           simp only [Bool.and_eq_true] at hto
           exact hto.2
          unfold keyOk at hko
          have : ((ts[0]).fKey == (-1)) = false := by simp; omega
          rw [this, cond_false] at hko
          unfold keyFit at hko
          rw [hx] at hko
          simp at hko
        rw [hneg]
        cases ((ts[0]).fParent != (-1)) <;> rfl
       | some f =>
        simp only [Option.bind_some]
        cases ((ts[0]).fParent != (-1)) <;> cases decide ((ts[0]).fKey < 0) <;> cases (ts[0]).fUnique <;> cases decide (f.fBytes > 24) <;> rfl
      rw [hroot]
      cases hrb : rootBad ts[0] with
      | true => simp
      | false =>
       have hpar : (ts[0]).fParent = -1 := by
        unfold rootBad at hrb
        simp only [Bool.or_eq_false_iff] at hrb
        simpa using hrb.1
       have hway : way ts 0 = [0] := by
        unfold way
        rw [chain, if_pos (by omega), Int.toNat_natCast, List.getElem?_eq_getElem hi]
        simp [chain]
       have hpn : pos (before ts 0) (fun x => (ts[0]).fParent == x) = -1 := rfl
       rw [hpn]
       have hup0 : upTo (before ts 0) (Go.IntKind.wrap .i64 (-1 + 1)) = some 0 := rfl
       simp only [Option.bind_some, cond_false, hup0]
       rw [app_ok (by simp [before, maxList])]
       simp only [Option.bind_some, before, List.take_nil, List.nil_append, hway]
       rfl
     | succ q =>
      simp only [show ((((q + 1 : Nat)) : Int) == 0) = false by simp; omega, cond_false, show Nat.beq (q + 1) 0 = false from rfl, show decide ((((q + 1 : Nat)) : Int) > 0) = true by simp, cond_true, Option.bind_some]
      have hbe : before ts (q + 1) = chain ts (q + 1) q := rfl
      cases hany : (before ts (q + 1)).any (fun z => (ts[q + 1]).fParent == z) with
      | false =>
       rw [pos_none hany]
       rfl
      | true =>
       obtain ⟨y, hy, he⟩ := List.any_eq_true.1 hany
       have he' : (ts[q + 1]).fParent = y := by simpa using he
       have hylt := chain_lt hup (q + 1) q (by omega) y (by rw [← hbe]; exact hy)
       have hcut := way_cut hup (q + 1) q (by omega) (by omega) y (by rw [← hbe]; exact hy)
       rw [← hbe] at hcut
       rcases pos_cases (before ts (q + 1)) (fun z => (ts[q + 1]).fParent == z) with ⟨g1, _⟩ | ⟨j, g1, g2, g3, g4⟩
       ·exfalso
        obtain ⟨ii, hii, hee⟩ := List.getElem_of_mem hy
        have := g1 ii hii
        rw [hee] at this
        rw [this] at he; cases he
       ·have hcut' : (before ts (q + 1)).take ((pos (before ts (q + 1)) (fun z => (ts[q + 1]).fParent == z)) + 1).toNat = way ts y.toNat := by
         rw [he']; exact hcut
        rw [g4] at hcut' ⊢
        have hdn : decide ((j : Int) < 0) = false := by simp
        have hwr : Go.IntKind.wrap .i64 ((j : Int) + 1) = ((j + 1 : Nat) : Int) := wrap_next (n := (before ts (q + 1)).length) g1 (by omega)
        have hut : upTo (before ts (q + 1)) ((j + 1 : Nat) : Int) = some (j + 1) := by
         unfold upTo
         rw [if_pos ⟨by omega, by omega⟩]
         simp
        have hcut2 : (before ts (q + 1)).take (j + 1) = way ts y.toNat := by
         rw [← hcut']; congr 1
        have hwl : (way ts y.toNat).length ≤ 8 := by
         have := chain_len (ts := ts) (y.toNat + 1) (y.toNat : Int)
         show (chain ts (y.toNat + 1) (y.toNat : Int)).length ≤ 8
         omega
        have hnext : way ts (q + 1) = way ts y.toNat ++ [((q + 1 : Nat) : Int)] := by
         have hup2 : Up ts (q + 2) := by
          intro jj hjj hjn
          by_cases e : jj < q + 1
          ·exact hup jj hjj e
          ·have : jj = q + 1 := by omega
           subst this
           omega
         rw [way_succ hup2 (by omega) hi, he', chain_way hup2 hylt.1 (by omega) (by omega)]
        simp only [hdn, hwr, hut, cond_false, Option.bind_some, hcut2]
        rw [app_ok (by simp only [List.length_cons, List.length_nil, maxList]; omega)]
        simp only [Option.bind_some, ← hnext, Bool.not_true, Bool.false_or]
        rfl
  ·intro m _
   simp only [dbd_areTypes_L1, show decide ((ts.length : Int) < (ts.length : Int)) = false by simp, cond_false]
 ·by_cases h1 : ts.length < 1
  ·simp only [show decide ((ts.length : Int) < 1) = true by simp; omega, cond_true, Option.bind_some, Bool.true_or, Bool.not_true, Bool.false_and]
  ·have h2 : ts.length > 8 := by omega
   simp only [show decide ((ts.length : Int) < 1) = false by simp; omega, show decide ((ts.length : Int) > 8) = true by simp; omega, cond_true, cond_false, Option.bind_some, Bool.or_true, Bool.not_true, Bool.false_and]
end Go.Sh

namespace Go.Sh
open Go.AE
set_option linter.unusedVariables false
set_option linter.unusedSimpArgs false
def dupIndex (xs : List T_api_Search) (i : Nat) : Bool := at' xs (fun t => (xs.take i).any (fun g => g.fName == t.fName)) i
def fieldBad (ts : List T_api_Type) (x : T_api_Search) : Bool :=
 match idx ts x.fType with | none => true | some t => decide (x.fField < 0) || (decide (x.fField ≥ (t.fFields.length : Int)) || (match idx t.fFields x.fField with | none => true | some f => decide (f.fBytes > 20)))
def badIndex (ts : List T_api_Type) (xs : List T_api_Search) (i : Nat) : Bool :=
 at' xs (fun x => ((!nameOk x.fName) || (decide (x.fType < 0) || (decide (x.fType ≥ (ts.length : Int)) || (decide ((x.fSparse.length : Int) > 1) || dupIndex xs i)))) || fieldBad ts x) i
def indexesOk (ts : List T_api_Type) (xs : List T_api_Search) : Bool := !anyB (badIndex ts xs) xs.length && decide ((xs.length : Int) ≤ 3)
theorem dbd_areIndexes_spec {k : Nat} {ts : List T_api_Type} {xs : List T_api_Search} (hk : maxLen + 6 ≤ k) (hw : wfL wf_T_api_Search xs) : dbd_areIndexes k xs ts = some (indexesOk ts xs) := by
 obtain ⟨k, rfl, hq⟩ := succ_of hk
 obtain ⟨hl, hw⟩ := hw
 unfold dbd_areIndexes indexesOk
 refine Eq.trans (loop0 (L := fun m x => dbd_areIndexes_L1 k xs ts _ m x) (n := xs.length) (g := badIndex ts xs) (r := fun _ => some false) (z := some (decide ((xs.length : Int) ≤ 3))) ?_ ?_ (by omega)) ?_
 rotate_left 2
 ·rw [scan_const]
  cases anyB (badIndex ts xs) xs.length <;> rfl
 ·intro m i hi _
  have h1 := hw _ (List.getElem_mem hi)
  have hc : slices_ContainsFunc_Search k (xs.take i) (fun j x0 => dbd_areIndexes_1 j x0 xs[i]) = some (dupIndex xs i) := by
   rw [dupIndex, at'_eq hi]
   refine containsFunc_Search (by rw [List.length_take]; omega) (by rw [List.length_take]; omega) (fun k' e x hx => ?_)
   obtain ⟨k', rfl, _⟩ := succ_of (show 0 + 1 ≤ k' by omega)
   rfl
  simp only [dbd_areIndexes_L1, badIndex, at'_eq hi, idx_at hi, wrap_next hi hl, Option.bind_some, show decide ((i : Int) < (xs.length : Int)) = true by simp; exact hi, cond_true, dbd_isName (show maxLen + 2 ≤ k by omega) h1.1, cut_take (show i ≤ xs.length by omega), hc]
  unfold fieldBad
  cases hn : nameOk xs[i].fName with
  | false => rfl
  | true =>
   cases h2 : decide (xs[i].fType < 0) with
   | true => rfl
   | false =>
    cases h3 : decide (xs[i].fType ≥ (ts.length : Int)) with
    | true => rfl
    | false =>
     cases decide ((xs[i].fSparse.length : Int) > 1) with
     | true => rfl
     | false =>
      cases dupIndex xs i with
      | true => rfl
      | false =>
       simp only [decide_eq_false_iff_not] at h2 h3
       rw [idx_of (show 0 ≤ xs[i].fType by omega) (by omega)]
       simp only [Bool.not_true, cond_false, Option.bind_some, Bool.or_false, Bool.false_or]
       generalize ts[(xs[i].fType).toNat]'_ = t
       cases h4 : decide (xs[i].fField < 0) with
       | true => rfl
       | false =>
        cases h5 : decide (xs[i].fField ≥ (t.fFields.length : Int)) with
        | true => rfl
        | false =>
         simp only [decide_eq_false_iff_not] at h4 h5
         rw [idx_of (show 0 ≤ xs[i].fField by omega) (by omega)]
         simp only [cond_false, Option.bind_some, Bool.false_or]
 ·intro m _
  simp only [dbd_areIndexes_L1, show decide ((xs.length : Int) < (xs.length : Int)) = false by simp, cond_false]
def valid (b : T_api_Base) : Bool := nameOk b.fName && (decide (b.fKind ≥ 1) && (decide (b.fKind ≤ 4) && (typesOk b.fTypes && indexesOk b.fTypes b.fIndexes)))
theorem dbd_valid {k : Nat} {b : T_api_Base} (hk : maxLen + 9 ≤ k) (hw : wf_T_api_Base b) : dbd_Valid k b = some (valid b) := by
 obtain ⟨k, rfl, hq⟩ := succ_of hk
 obtain ⟨h1, _, h3, h4, _⟩ := hw
 simp only [dbd_Valid, dbd_isName (show maxLen + 2 ≤ k by omega) h1, dbd_areTypes_spec hq h3, dbd_areIndexes_spec (show maxLen + 6 ≤ k by omega) h4, Option.bind_some]
 unfold valid
 cases nameOk b.fName <;> cases decide (b.fKind ≥ 1) <;> cases decide (b.fKind ≤ 4) <;> cases typesOk b.fTypes <;> rfl
end Go.Sh

namespace Go.Sh
open Go.AE
set_option linter.unusedVariables false
set_option linter.unusedSimpArgs false
def outside (b : T_api_Base) (x : Int) : Bool := decide (x < 0) || decide (x ≥ (b.fTypes.length : Int))
def asked (b : T_api_Base) (l : List Int) : Int := bif !valid b then 100 else bif l.any (outside b) then 2 else 0
theorem dbd_asked_spec {k : Nat} {b : T_api_Base} {l : List Int} (hk : maxLen + 10 ≤ k) (hw : wf_T_api_Base b) (hl : l.length ≤ 1000) : dbd_asked k b l = some (asked b l) := by
 have e63 := maxLen_eq
 obtain ⟨k, rfl, hq⟩ := succ_of hk
 have hc : slices_ContainsFunc_int k l (fun j x0 => dbd_asked_1 j x0 b) = some (l.any (outside b)) := by
  refine containsFunc_int (by omega) (by omega) (fun k' e x hx => ?_)
  obtain ⟨k', rfl, _⟩ := succ_of (show 0 + 1 ≤ k' by omega)
  simp only [dbd_asked_1, outside]
  cases decide (x < 0) <;> cases decide (x ≥ (b.fTypes.length : Int)) <;> rfl
 simp only [dbd_asked, dbd_valid (show maxLen + 9 ≤ k by omega) hw, hc, Option.bind_some]
 unfold asked
 cases valid b <;> cases l.any (outside b) <;> rfl
/-- What is known of a base that may be asked. -/
theorem asked_zero {b : T_api_Base} {l : List Int} (h : asked b l = 0) : valid b = true ∧ ∀ x ∈ l, 0 ≤ x ∧ x < (b.fTypes.length : Int) := by
 unfold asked at h
 cases hv : valid b with
 | false => rw [hv] at h; simp at h
 | true =>
  rw [hv] at h
  cases ha : l.any (outside b) with
  | true => rw [ha] at h; simp at h
  | false =>
   refine ⟨rfl, fun x hx => ?_⟩
   rw [List.any_eq_false] at ha
   have := ha x hx
   unfold outside at this
   simp at this
   omega
theorem valid_up {b : T_api_Base} (h : valid b = true) : Up b.fTypes b.fTypes.length ∧ 1 ≤ b.fTypes.length ∧ b.fTypes.length ≤ 8 := by
 unfold valid typesOk at h
 simp only [Bool.and_eq_true, Bool.not_eq_true', Bool.or_eq_false_iff, decide_eq_false_iff_not] at h
 obtain ⟨_, _, _, ⟨⟨h1, h2⟩, h3⟩, _⟩ := h
 exact ⟨up_of _ (anyB_false.1 h3), by omega, by omega⟩
theorem dbd_way_L1_spec {b : T_api_Base} {n : Nat} {K : Int → List Int → Option (List Int)} (hu : Up b.fTypes n) (hlen : n ≤ b.fTypes.length) (hs : n ≤ 1000) : ∀ (d : Nat) (x : Int) (w : List Int) (m : Nat), x < (d : Int) → x < (n : Int) → d < m → w.length + d ≤ 1000 →
  ∃ y, dbd_way_L1 b K m x w = K y (w ++ (chain b.fTypes d x).reverse)
 | d, x, w, 0, _, _, hm, _ => by omega
 | d, x, w, m + 1, hd, hn, hm, hwl => by
  rw [dbd_way_L1]
  by_cases h0 : 0 ≤ x
  ·have hx : x.toNat < b.fTypes.length := by omega
   have hp := hu x.toNat hx (by omega)
   cases d with
   | zero => omega
   | succ d =>
    simp only [show decide (x ≥ 0) = true by simp; omega, cond_true, idx_of h0 (show x < (b.fTypes.length : Int) by omega), Option.bind_some]
    rw [app_ok (by simp only [List.length_cons, List.length_nil, maxList]; omega)]
    simp only [Option.bind_some]
    obtain ⟨y, hy⟩ := dbd_way_L1_spec (K := K) hu hlen hs d (b.fTypes[x.toNat]).fParent (w ++ [x]) m (by omega) (by omega) (by omega) (by simp; omega)
    refine ⟨y, hy.trans ?_⟩
    rw [chain, if_pos h0, List.getElem?_eq_getElem hx]
    simp
  ·rw [chain_neg (by omega)]
   refine ⟨x, ?_⟩
   simp only [show decide (x ≥ 0) = false by simp; omega, cond_false, List.reverse_nil, List.append_nil]
theorem dbd_way_spec {k : Nat} {b : T_api_Base} {n i : Nat} (hu : Up b.fTypes n) (hlen : n ≤ b.fTypes.length) (hs : n ≤ 500) (hi : i < n) (hk : 1000 ≤ k) : dbd_way k b (i : Int) = some (way b.fTypes i) := by
 obtain ⟨k, rfl, hq⟩ := succ_of (c := 999) (by omega : 999 + 1 ≤ k)
 obtain ⟨y, hy⟩ := dbd_way_L1_spec (K := fun y11 y12 => (((slices_Reverse_int k y12).bind (sameLen y12)).bind fun o14 => (some o14))) hu hlen (by omega) (i + 1) (i : Int) [] k (by omega) (by omega) (by omega) (by simp; omega)
 refine Eq.trans (show dbd_way (k + 1) b (i : Int) = dbd_way_L1 b (fun y11 y12 => (((slices_Reverse_int k y12).bind (sameLen y12)).bind fun o14 => (some o14))) k (i : Int) [] from rfl) (hy.trans ?_)
 rw [List.nil_append]
 obtain ⟨k, rfl, _⟩ := succ_of (show 0 + 1 ≤ k by omega)
 have hl := chain_len (ts := b.fTypes) (i + 1) (i : Int)
 have hble : Nat.ble (chain b.fTypes (i + 1) (i : Int)).length 9223372036854775807 = true := Nat.ble_eq_true_of_le (by omega)
 simp only [slices_Reverse_int, revInt, List.length_reverse, hble, cond_true, List.reverse_reverse, Option.bind_some, sameLen, if_pos]
 rfl
def wayOf (b : T_api_Base) (t : Int) : List Int × Int := bif asked b [t] != 0 then ([], asked b [t]) else (way b.fTypes t.toNat, 0)
theorem dbd_Way_spec {k : Nat} {b : T_api_Base} {t : Int} (hk : maxLen + 11 ≤ k) (hw : wf_T_api_Base b) : dbd_Way k b t = some (wayOf b t) := by
 have e63 := maxLen_eq
 obtain ⟨k, rfl, hq⟩ := succ_of hk
 simp only [dbd_Way, dbd_asked_spec hq hw (show [t].length ≤ 1000 by simp), Option.bind_some]
 unfold wayOf
 by_cases h : asked b [t] = 0
 ·obtain ⟨hv, hx⟩ := asked_zero h
  have ht := hx t (by simp)
  obtain ⟨hup, h1, h8⟩ := valid_up hv
  have := dbd_way_spec (k := k) hup (Nat.le_refl _) (by omega) (show t.toNat < b.fTypes.length by omega) (by omega)
  rw [show ((t.toNat : Nat) : Int) = t by omega] at this
  simp only [this, h, Option.bind_some]
  rfl
 ·have : (asked b [t] != 0) = true := by simpa using h
  simp only [this, cond_true]
end Go.Sh

namespace Go.Sh
open Go.AE
set_option linter.unusedVariables false
set_option linter.unusedSimpArgs false
theorem dbd_Depth_spec {k : Nat} {b : T_api_Base} {t : Int} (hk : maxLen + 12 ≤ k) (hw : wf_T_api_Base b) : dbd_Depth k b t = some (((wayOf b t).1.length : Int), (wayOf b t).2) := by
 obtain ⟨k, rfl, hq⟩ := succ_of hk
 simp only [dbd_Depth, dbd_Way_spec hq hw, Option.bind_some]
end Go.Sh

namespace Go.Sh
open Go.AE
set_option linter.unusedVariables false
set_option linter.unusedSimpArgs false
theorem type_ok {b : T_api_Base} (hv : valid b = true) {i : Nat} (hi : i < b.fTypes.length) : typeOk b.fTypes[i] = true := by
 unfold valid typesOk at hv
 simp only [Bool.and_eq_true, Bool.not_eq_true'] at hv
 obtain ⟨_, _, _, ⟨_, h3⟩, _⟩ := hv
 have := anyB_false.1 h3 i hi
 rw [badType, at'_eq hi] at this
 simp only [Bool.or_eq_false_iff] at this
 simpa using this.1.1
theorem field_ok {t : T_api_Type} (ht : typeOk t = true) {j : Nat} (hj : j < t.fFields.length) : 0 ≤ (t.fFields[j]).fAt ∧ 1 ≤ (t.fFields[j]).fBytes ∧ (t.fFields[j]).fAt + (t.fFields[j]).fBytes ≤ 40 := by
 unfold typeOk fieldsOk at ht
 simp only [Bool.and_eq_true, Bool.not_eq_true', Bool.or_eq_false_iff, Bool.not_eq_false', decide_eq_false_iff_not] at ht
 obtain ⟨⟨_, h1, h2, h3, h4, _⟩, _⟩ := ht
 have := anyB_false.1 h4 j hj
 rw [badField, at'_eq hj] at this
 simp only [Bool.or_eq_false_iff, decide_eq_false_iff_not] at this
 obtain ⟨⟨_, g1, g2, g3, g4⟩, _⟩ := this
 rw [wrap_in (by omega) (by omega)] at g4
 omega
def fitsT (t : T_api_Type) (s : Str) : Bool := decide ((s.length : Int) ≥ t.fMin) && decide ((s.length : Int) ≤ t.fSize)
theorem dbd_fits_spec {k : Nat} {t : T_api_Type} {s : Str} (hk : 1 ≤ k) : dbd_fits k t s = some (fitsT t s) := by
 obtain ⟨k, rfl, _⟩ := succ_of (c := 0) hk
 simp only [dbd_fits, fitsT]
 cases decide ((s.length : Int) ≥ t.fMin) <;> rfl
def fitsOf (b : T_api_Base) (t : Int) (s : Str) : Bool × Int := bif asked b [t] != 0 then (false, asked b [t]) else match idx b.fTypes t with | some x => (fitsT x s, 0) | none => (false, 0)
theorem dbd_Fits_spec {k : Nat} {b : T_api_Base} {t : Int} {s : Str} (hk : maxLen + 11 ≤ k) (hw : wf_T_api_Base b) : dbd_Fits k b t s = some (fitsOf b t s) := by
 obtain ⟨k, rfl, hq⟩ := succ_of hk
 simp only [dbd_Fits, dbd_asked_spec hq hw (show [t].length ≤ 1000 by simp), Option.bind_some]
 unfold fitsOf
 by_cases h : asked b [t] = 0
 ·obtain ⟨hv, hx⟩ := asked_zero h
  have ht := hx t (by simp)
  rw [idx_of ht.1 ht.2]
  simp only [h, dbd_fits_spec (show 1 ≤ k by omega), bne_self_eq_false, cond_false, Option.bind_some]
 ·have : (asked b [t] != 0) = true := by simpa using h
  simp only [this, cond_true]
def valueF (f : T_api_Field) (s : Str) : Str × Bool := bif decide (f.fAt + f.fBytes > (s.length : Int)) then ([], false) else ((s.take (f.fAt + f.fBytes).toNat).drop f.fAt.toNat, true)
end Go.Sh

namespace Go.Sh
open Go.AE
set_option linter.unusedVariables false
set_option linter.unusedSimpArgs false
abbrev Cond := List (List T_api_Term)
theorem indexFunc_Term {k : Nat} {l : List T_api_Term} {p : T_api_Term → Bool} {f : Nat → T_api_Term → Option Bool} (hk : l.length + 2 ≤ k) (hn : l.length ≤ maxLen) (hp : ∀ k', k' + 1 = k → ∀ x ∈ l, f k' x = some (p x)) : slices_IndexFunc_Term k l f = some (pos l p) := by
 obtain ⟨k, rfl, hq⟩ := succ_of hk
 exact indexFunc_gen (hp k rfl) (L := fun m x => slices_IndexFunc_Term_L1 k l f _ m x) (fun m x => rfl) rfl hn (by omega)
theorem containsFunc_Term {k : Nat} {l : List T_api_Term} {p : T_api_Term → Bool} {f : Nat → T_api_Term → Option Bool} (hk : l.length + 3 ≤ k) (hn : l.length ≤ maxLen) (hp : ∀ k', k' + 2 = k → ∀ x ∈ l, f k' x = some (p x)) : slices_ContainsFunc_Term k l f = some (l.any p) := by
 obtain ⟨k, rfl, hq⟩ := succ_of hk
 simp only [slices_ContainsFunc_Term, indexFunc_Term hq hn (fun k' e => hp k' (by omega)), Option.bind_some, pos_any]
theorem indexFunc_TermL {k : Nat} {l : List (List T_api_Term)} {p : List T_api_Term → Bool} {f : Nat → List T_api_Term → Option Bool} (hk : l.length + 2 ≤ k) (hn : l.length ≤ maxLen) (hp : ∀ k', k' + 1 = k → ∀ x ∈ l, f k' x = some (p x)) : slices_IndexFunc_TermL k l f = some (pos l p) := by
 obtain ⟨k, rfl, hq⟩ := succ_of hk
 exact indexFunc_gen (hp k rfl) (L := fun m x => slices_IndexFunc_TermL_L1 k l f _ m x) (fun m x => rfl) rfl hn (by omega)
theorem containsFunc_TermL {k : Nat} {l : List (List T_api_Term)} {p : List T_api_Term → Bool} {f : Nat → List T_api_Term → Option Bool} (hk : l.length + 3 ≤ k) (hn : l.length ≤ maxLen) (hp : ∀ k', k' + 2 = k → ∀ x ∈ l, f k' x = some (p x)) : slices_ContainsFunc_TermL k l f = some (l.any p) := by
 obtain ⟨k, rfl, hq⟩ := succ_of hk
 simp only [slices_ContainsFunc_TermL, indexFunc_TermL hq hn (fun k' e => hp k' (by omega)), Option.bind_some, pos_any]
theorem indexFunc_TermLL {k : Nat} {l : List (List (List T_api_Term))} {p : List (List T_api_Term) → Bool} {f : Nat → List (List T_api_Term) → Option Bool} (hk : l.length + 2 ≤ k) (hn : l.length ≤ maxLen) (hp : ∀ k', k' + 1 = k → ∀ x ∈ l, f k' x = some (p x)) : slices_IndexFunc_TermLL k l f = some (pos l p) := by
 obtain ⟨k, rfl, hq⟩ := succ_of hk
 exact indexFunc_gen (hp k rfl) (L := fun m x => slices_IndexFunc_TermLL_L1 k l f _ m x) (fun m x => rfl) rfl hn (by omega)
theorem containsFunc_TermLL {k : Nat} {l : List (List (List T_api_Term))} {p : List (List T_api_Term) → Bool} {f : Nat → List (List T_api_Term) → Option Bool} (hk : l.length + 3 ≤ k) (hn : l.length ≤ maxLen) (hp : ∀ k', k' + 2 = k → ∀ x ∈ l, f k' x = some (p x)) : slices_ContainsFunc_TermLL k l f = some (l.any p) := by
 obtain ⟨k, rfl, hq⟩ := succ_of hk
 simp only [slices_ContainsFunc_TermLL, indexFunc_TermLL hq hn (fun k' e => hp k' (by omega)), Option.bind_some, pos_any]
def fieldAt (x : T_api_Type) (s : Str) : Int := pos x.fFields (fun f => f.fName == s)
def termOk (x : T_api_Type) (t : T_api_Term) : Bool := decide (fieldAt x t.fField ≥ 0) && (decide (t.fOp ≥ 1) && (decide (t.fOp ≤ 6) && (match idx x.fFields (fieldAt x t.fField) with | some f => ((t.fValue.length : Int) == f.fBytes) | none => false)))
def groupBad (x : T_api_Type) (g : List T_api_Term) : Bool := decide ((g.length : Int) < 1) || (decide ((g.length : Int) > 4) || g.any (fun t => !termOk x t))
def condOk (x : T_api_Type) (c : Cond) : Bool := decide ((c.length : Int) ≤ 4) && !c.any (groupBad x)
theorem fieldAt_lt (x : T_api_Type) (s : Str) : fieldAt x s < (x.fFields.length : Int) := by
 unfold fieldAt
 rcases pos_cases x.fFields (fun f => f.fName == s) with ⟨_, h⟩ | ⟨j, h1, _, _, h⟩ <;> rw [h] <;> omega
theorem match_asked_ok {k : Nat} {b : T_api_Base} {t : Int} (hk : maxLen + 13 ≤ k) (hw : wf_T_api_Base b) : match_asked k b t = some (asked b [t]) := by
 obtain ⟨k, rfl, hq⟩ := succ_of hk
 simp only [match_asked, dbd_Depth_spec hq hw, Option.bind_some, wayOf]
 by_cases h : asked b [t] = 0
 ·rw [h]; rfl
 ·have : (asked b [t] != 0) = true := by simpa using h
  simp only [this, cond_true]
theorem match_field_ok {k : Nat} {x : T_api_Type} {s : Str} (hk : maxLen + 4 ≤ k) (hx : x.fFields.length ≤ maxLen) : match_field k x s = some (fieldAt x s, decide (fieldAt x s ≥ 0)) := by
 obtain ⟨k, rfl, hq⟩ := succ_of hk
 have : slices_IndexFunc_Field k x.fFields (fun j x0 => match_field_1 j x0 s) = some (fieldAt x s) := by
  refine indexFunc_Field (by omega) hx (fun k' e f hf => ?_)
  obtain ⟨k', rfl, _⟩ := succ_of (show 0 + 1 ≤ k' by omega)
  rfl
 simp only [match_field, this, Option.bind_some]
theorem match_isTerm_ok {k : Nat} {x : T_api_Type} {t : T_api_Term} (hk : maxLen + 5 ≤ k) (hx : x.fFields.length ≤ maxLen) : match_isTerm k x t = some (termOk x t) := by
 obtain ⟨k, rfl, hq⟩ := succ_of hk
 simp only [match_isTerm, match_field_ok hq hx, Option.bind_some, termOk]
 by_cases h : fieldAt x t.fField ≥ 0
 ·rw [decide_eq_true h, idx_of h (fieldAt_lt x _)]
  cases decide (t.fOp ≥ 1) <;> cases decide (t.fOp ≤ 6) <;> rfl
 ·rw [decide_eq_false h]
  rfl
theorem match_valid_1_ok {k : Nat} {x : T_api_Type} {g : List T_api_Term} (hk : maxLen + 9 ≤ k) (hx : x.fFields.length ≤ maxLen) (hg : g.length ≤ maxLen) : match_valid_1 k g x = some (groupBad x g) := by
 obtain ⟨k, rfl, hq⟩ := succ_of hk
 have : slices_ContainsFunc_Term k g (fun j x0 => match_valid_1_1 j x0 x) = some (g.any (fun t => !termOk x t)) := by
  refine containsFunc_Term (by omega) hg (fun k' e t _ => ?_)
  obtain ⟨k', rfl, hq'⟩ := succ_of (show maxLen + 5 + 1 ≤ k' by omega)
  simp only [match_valid_1_1, match_isTerm_ok hq' hx, Option.bind_some]
 simp only [match_valid_1, this, groupBad]
 cases decide ((g.length : Int) < 1) <;> cases decide ((g.length : Int) > 4) <;> rfl
theorem match_valid_ok {k : Nat} {x : T_api_Type} {c : Cond} (hk : maxLen + 13 ≤ k) (hx : x.fFields.length ≤ maxLen) (hc : wfL (wfL wf_T_api_Term) c) : match_valid k x c = some (condOk x c) := by
 obtain ⟨k, rfl, hq⟩ := succ_of hk
 have : slices_ContainsFunc_TermL k c (fun j x0 => match_valid_1 j x0 x) = some (c.any (groupBad x)) :=
  containsFunc_TermL (by have := hc.1; omega) hc.1 (fun k' e g hg => match_valid_1_ok (by omega) hx (hc.2 g hg).1)
 simp only [match_valid, this, condOk]
 cases decide ((c.length : Int) ≤ 4) <;> rfl
def zeroT : T_api_Type := { fName := [], fParent := 0, fMin := 0, fSize := 0, fFields := [], fKey := 0, fUnique := false, fLast := false }
def condsOf (b : T_api_Base) (t : Int) (cs : List Cond) : T_api_Type × Int := bif asked b [t] != 0 then (zeroT, asked b [t]) else match idx b.fTypes t with
 | some x => bif cs.any (fun c => !condOk x c) then (zeroT, 110) else (x, 0)
 | none => (zeroT, 0)
/-- What is known of a type that may be asked. -/
theorem asked_type {b : T_api_Base} {t : Int} (hw : wf_T_api_Base b) (h : asked b [t] = 0) : ∃ x, idx b.fTypes t = some x ∧ wf_T_api_Type x ∧ typeOk x = true ∧ 0 ≤ t ∧ t < (b.fTypes.length : Int) ∧ x ∈ b.fTypes := by
 obtain ⟨hv, hx⟩ := asked_zero h
 have ht := hx t (by simp)
 have htl : t.toNat < b.fTypes.length := by omega
 exact ⟨_, idx_of ht.1 ht.2, hw.2.2.1.2 _ (List.getElem_mem htl), type_ok hv htl, ht.1, ht.2, List.getElem_mem htl⟩
theorem match_conditions_ok {k : Nat} {b : T_api_Base} {t : Int} {cs : List Cond} (hk : maxLen + 18 ≤ k) (hw : wf_T_api_Base b) (hl : cs.length ≤ 10) (hc : ∀ c ∈ cs, wfL (wfL wf_T_api_Term) c) : match_conditions k b t cs = some (condsOf b t cs) := by
 have e63 := maxLen_eq
 obtain ⟨k, rfl, hq⟩ := succ_of hk
 simp only [match_conditions, match_asked_ok (show maxLen + 13 ≤ k by omega) hw, Option.bind_some, condsOf]
 by_cases h : asked b [t] = 0
 ·obtain ⟨x, hx, hwx, hok, _, _, _⟩ := asked_type hw h
  have : slices_ContainsFunc_TermLL k cs (fun j x0 => match_conditions_1 j x0 x) = some (cs.any (fun c => !condOk x c)) := by
   refine containsFunc_TermLL (by omega) (by omega) (fun k' e c hcc => ?_)
   obtain ⟨k', rfl, hq'⟩ := succ_of (show maxLen + 13 + 1 ≤ k' by omega)
   simp only [match_conditions_1, match_valid_ok hq' hwx.2.2.2.2.1.1 (hc c hcc), Option.bind_some]
  simp only [h, bne_self_eq_false, cond_false, hx, Option.bind_some, this]
  cases cs.any (fun c => !condOk x c) <;> rfl
 ·have : (asked b [t] != 0) = true := by simpa using h
  simp only [this, cond_true]
  rfl
end Go.Sh

namespace Go.Sh
open Go.AE
set_option linter.unusedVariables false
set_option linter.unusedSimpArgs false
def shop12 : T_api_Base := { fName := [83, 72, 79, 80], fKind := 4, fTypes := [{ fName := [67, 85, 83, 84], fParent := (-1), fMin := 4, fSize := 10, fFields := [{ fName := [67, 85, 83, 84, 78, 79], fAt := 0, fBytes := 4 }], fKey := 0, fUnique := true, fLast := false }], fIndexes := [] }
def term6 : T_api_Term := { fField := [67, 85, 83, 84, 78, 79], fOp := 6, fValue := [48, 49, 48, 48] }
def term4 : T_api_Term := { fField := [67, 85, 83, 84, 78, 79], fOp := 4, fValue := [48, 49, 57, 57] }
theorem wfS_short {l : Str} (h : l.length ≤ 1000) : wfS l := by
 have e63 := maxLen_eq
 show l.length ≤ maxLen
 omega
theorem wfI_small {n : Int} (h : -1000 ≤ n) (h' : n ≤ 1000) : wfI .i64 n := by
 unfold wfI Lit.wf
 have e1 : IntKind.i64.min = -9223372036854775808 := by decide
 have e2 : IntKind.i64.max = 9223372036854775807 := by decide
 simp only [e1, e2, Bool.and_eq_true, decide_eq_true_eq]
 omega
theorem shop12_wf : wf_T_api_Base shop12 := by
 have e63 := maxLen_eq
 refine ⟨wfS_short (by decide), wfI_small (by decide) (by decide), ⟨by simp [shop12]; omega, fun t ht => ?_⟩, ⟨by simp [shop12], fun x hx => by cases hx⟩, trivial⟩
 have ht' : t = { fName := [67, 85, 83, 84], fParent := (-1), fMin := 4, fSize := 10, fFields := [{ fName := [67, 85, 83, 84, 78, 79], fAt := 0, fBytes := 4 }], fKey := 0, fUnique := true, fLast := false } := by simpa [shop12] using ht
 subst ht'
 refine ⟨wfS_short (by decide), wfI_small (by decide) (by decide), wfI_small (by decide) (by decide), wfI_small (by decide) (by decide), ⟨by simp; omega, fun f hf => ?_⟩, wfI_small (by decide) (by decide), trivial, trivial, trivial⟩
 have hf' : f = { fName := [67, 85, 83, 84, 78, 79], fAt := 0, fBytes := 4 } := by simpa using hf
 subst hf'
 exact ⟨wfS_short (by decide), wfI_small (by decide) (by decide), wfI_small (by decide) (by decide), trivial⟩
theorem cond12_wf : wfL (wfL wf_T_api_Term) [[term6, term4]] := by
 have e63 := maxLen_eq
 refine ⟨by simp; omega, fun g hg => ?_⟩
 obtain rfl : g = [term6, term4] := by simpa using hg
 refine ⟨by simp; omega, fun t ht => ?_⟩
 rcases (by simpa using ht : t = term6 ∨ t = term4) with rfl | rfl
 ·exact ⟨wfS_short (by decide), wfI_small (by decide) (by decide), wfS_short (by decide), trivial⟩
 ·exact ⟨wfS_short (by decide), wfI_small (by decide) (by decide), wfS_short (by decide), trivial⟩
theorem conds12 : condsOf shop12 0 [[[term6, term4]]] = ((shop12.fTypes[0]'(by decide)), 0) := by
 have : (condsOf shop12 0 [[[term6, term4]]] == ((shop12.fTypes[0]'(by decide)), (0 : Int))) = true := by decide +kernel
 exact eq_of_beq this
theorem awake12 {k : Nat} (hk : maxLen + 21 ≤ k) : law12_Awake k = some true := by
 have e63 := maxLen_eq
 obtain ⟨k, rfl, hq⟩ := succ_of (c := maxLen + 20) hk
 obtain ⟨k, rfl, hq2⟩ := succ_of (c := maxLen + 19) hq
 have hs : law12_shop (k + 1) = some shop12 := rfl
 have hc : match_conditions k shop12 0 [[[term6, term4]]] = some (shop12.fTypes[0]'(by decide), 0) := by
  have e1 : ∀ c ∈ [[[term6, term4]]], wfL (wfL wf_T_api_Term) c := by
   intro c hc
   have e : c = [[term6, term4]] := by simpa using hc
   rw [e]; exact cond12_wf
  rw [match_conditions_ok (by omega) shop12_wf (by simp) e1, conds12]
 obtain ⟨k, rfl⟩ : ∃ q, k = q + 8 := ⟨k - 8, by omega⟩
 have hf : match_Format (k + 8 + 1) shop12 0 [[term6, term4]] = some ([67, 85, 83, 84, 78, 79, 32, 32, 62, 61, 48, 49, 48, 48, 38, 67, 85, 83, 84, 78, 79, 32, 32, 60, 61, 48, 49, 57, 57], 0) := by
  simp only [match_Format, hc, Option.bind_some]
  rfl
 have hr : match_Range (k + 8 + 1) shop12 0 [[term6, term4]] = some ([48, 49, 48, 48], [48, 49, 57, 57], 0) := by
  simp only [match_Range, hc, Option.bind_some]
  rfl
 unfold term6 term4 at hf hr
 simp only [law12_Awake, hs, hf, hr, Option.bind_some]
 rfl
end Go.Sh

namespace Go.Sh
open Go.AE
set_option linter.unusedVariables false
set_option linter.unusedSimpArgs false
def standsS (v : Str) (op : Int) (w : Str) : Bool :=
 bif op == 1 then v == w else bif op == 2 then !(v == w) else bif op == 3 then bytesLt v w else bif op == 4 then bytesLt v w || v == w else bif op == 5 then !(bytesLt v w || v == w) else !bytesLt v w
theorem bytesLt_irrefl : ∀ a : Str, bytesLt a a = false
 | [] => rfl
 | x :: a => by
  unfold bytesLt
  rw [bytesLt_irrefl a, decide_eq_false (UInt8.lt_irrefl x)]
  simp
theorem cmp_cases : ∀ a b : Str, (cmpB a b = -1 ∧ bytesLt a b = true ∧ (a == b) = false) ∨ (cmpB a b = 0 ∧ bytesLt a b = false ∧ (a == b) = true) ∨ (cmpB a b = 1 ∧ bytesLt a b = false ∧ (a == b) = false)
 | [], [] => .inr (.inl ⟨rfl, rfl, rfl⟩)
 | [], _ :: _ => .inl ⟨rfl, rfl, rfl⟩
 | _ :: _, [] => .inr (.inr ⟨rfl, rfl, rfl⟩)
 | x :: a, y :: b => by
  unfold cmpB bytesLt
  by_cases h1 : x < y
  ·have hne : x ≠ y := fun e => by subst e; exact UInt8.lt_irrefl x h1
   rw [if_pos h1, decide_eq_true h1]
   refine .inl ⟨rfl, rfl, ?_⟩
   rw [beq_eq_false_iff_ne]
   intro e
   injection e with e1 e2
   exact hne e1
  ·rw [if_neg h1, decide_eq_false h1]
   by_cases h2 : y < x
   ·have hne : x ≠ y := fun e => by subst e; exact UInt8.lt_irrefl x h2
    rw [if_pos h2, beq_eq_false_iff_ne.2 hne]
    refine .inr (.inr ⟨rfl, rfl, ?_⟩)
    rw [beq_eq_false_iff_ne]
    intro e
    injection e with e1 e2
    exact hne e1
   ·rw [if_neg h2]
    have e : x = y := by
     have h1' : y ≤ x := UInt8.not_lt.1 h1
     have h2' : x ≤ y := UInt8.not_lt.1 h2
     exact UInt8.le_antisymm h2' h1'
    subst e
    simp only [beq_self_eq_true, Bool.false_or, Bool.true_and]
    rcases cmp_cases a b with ⟨c1, c2, c3⟩ | ⟨c1, c2, c3⟩ | ⟨c1, c2, c3⟩
    ·exact .inl ⟨c1, c2, by rw [beq_eq_false_iff_ne] at c3 ⊢; intro e; injection e with e1 e2; exact c3 e2⟩
    ·exact .inr (.inl ⟨c1, c2, by rw [eq_of_beq c3]; exact beq_self_eq_true _⟩)
    ·exact .inr (.inr ⟨c1, c2, by rw [beq_eq_false_iff_ne] at c3 ⊢; intro e; injection e with e1 e2; exact c3 e2⟩)
theorem match_holds_ok {k : Nat} (hk : 2 ≤ k) (op : Int) (v w : Str) : match_holds k op v w = some (standsS v op w) := by
 obtain ⟨k, rfl, hq⟩ := succ_of (c := 1) hk
 obtain ⟨k, rfl, _⟩ := succ_of (c := 0) hq
 have e : strings_Compare (k + 1) v w = some (cmpB v w) := rfl
 simp only [match_holds, e, Option.bind_some, standsS]
 rcases cmp_cases v w with ⟨c1, c2, c3⟩ | ⟨c1, c2, c3⟩ | ⟨c1, c2, c3⟩ <;> rw [c1, c2, c3] <;> cases op == 1 <;> cases op == 2 <;> cases op == 3 <;> cases op == 4 <;> cases op == 5 <;> rfl
def holdsT (x : T_api_Type) (s : Str) (g : T_api_Term) : Bool := match idx x.fFields (fieldAt x g.fField) with
 | some f => (valueF f s).2 && standsS (valueF f s).1 g.fOp g.fValue
 | none => false
theorem term_field {x : T_api_Type} (hok : typeOk x = true) {g : T_api_Term} (hg : termOk x g = true) : ∃ f, idx x.fFields (fieldAt x g.fField) = some f ∧ 0 ≤ fieldAt x g.fField ∧ 0 ≤ f.fAt ∧ 1 ≤ f.fBytes ∧ f.fAt + f.fBytes ≤ 40 := by
 unfold termOk at hg
 simp only [Bool.and_eq_true, decide_eq_true_eq] at hg
 have h0 := hg.1
 have hlt := fieldAt_lt x g.fField
 have hf := field_ok hok (show (fieldAt x g.fField).toNat < x.fFields.length by omega)
 exact ⟨_, idx_of h0 hlt, h0, hf.1, hf.2.1, hf.2.2⟩
theorem match_Holds_1_ok {k : Nat} {x : T_api_Type} {s : Str} {g : T_api_Term} (hk : maxLen + 5 ≤ k) (hx : x.fFields.length ≤ maxLen) (hok : typeOk x = true) (hg : termOk x g = true) : match_Holds_1 k g x s = some (holdsT x s g) := by
 obtain ⟨k, rfl, hq⟩ := succ_of (c := maxLen + 4) hk
 obtain ⟨f, hf, h0, f0, f1, f2⟩ := term_field hok hg
 simp only [match_Holds_1, match_field_ok hq hx, Option.bind_some, hf, holdsT, wrap_in (show -9223372036854775808 ≤ f.fAt + f.fBytes by omega) (by omega), valueF]
 by_cases hs : f.fAt + f.fBytes ≤ (s.length : Int)
 ·rw [decide_eq_true hs, decide_eq_false (show ¬ (f.fAt + f.fBytes > (s.length : Int)) by omega)]
  simp only [cond_true, cond_false, cut]
  rw [if_pos ⟨f0, by omega, hs⟩]
  simp only [Option.bind_some, match_holds_ok (show 2 ≤ k by omega), Bool.true_and]
 ·rw [decide_eq_false hs, decide_eq_true (show f.fAt + f.fBytes > (s.length : Int) by omega)]
  rfl
def holdsC (x : T_api_Type) (s : Str) (c : Cond) : Bool := c.isEmpty || c.any (fun g => g.all (holdsT x s))
theorem condOk_terms {x : T_api_Type} {c : Cond} (h : condOk x c = true) : ∀ g ∈ c, ∀ t ∈ g, termOk x t = true := by
 intro g hg t ht
 unfold condOk at h
 simp only [Bool.and_eq_true, Bool.not_eq_true'] at h
 have h2 := h.2
 rw [List.any_eq_false] at h2
 have h3 := h2 g hg
 unfold groupBad at h3
 simp only [Bool.or_eq_true, not_or, Bool.not_eq_true] at h3
 have h4 := h3.2.2
 rw [List.any_eq_false] at h4
 have := h4 t ht
 simpa using this
theorem match_Holds_2_ok {k : Nat} {x : T_api_Type} {s : Str} {g : List T_api_Term} {f : Nat → T_api_Term → Option Bool} (hk : maxLen + 12 ≤ k) (hg : g.length ≤ maxLen) (hf : ∀ k', maxLen + 5 ≤ k' → ∀ t ∈ g, f k' t = some (holdsT x s t)) : match_Holds_2_v12 k g f = some (g.all (holdsT x s)) := by
 obtain ⟨k, rfl, hq⟩ := succ_of (c := maxLen + 11) hk
 have : slices_ContainsFunc_Term k g (fun j x0 => match_Holds_2_1_v12 j x0 f) = some (g.any (fun t => !holdsT x s t)) := by
  refine containsFunc_Term (by omega) hg (fun k' e t ht => ?_)
  obtain ⟨k', rfl, hq'⟩ := succ_of (show maxLen + 5 + 1 ≤ k' by omega)
  simp only [match_Holds_2_1_v12, hf k' hq' t ht, Option.bind_some]
 simp only [match_Holds_2_v12, this, Option.bind_some, List.not_any_eq_all_not, Bool.not_not]
end Go.Sh

namespace Go.Sh
open Go.AE
set_option linter.unusedVariables false
set_option linter.unusedSimpArgs false
end Go.Sh

namespace Go.Sh
open Go.AE
set_option linter.unusedVariables false
set_option linter.unusedSimpArgs false
theorem lt_cons {x y : UInt8} {a b : Str} : bytesLt (x :: a) (y :: b) = true ↔ x < y ∨ (x = y ∧ bytesLt a b = true) := by
 show (decide (x < y) || (x == y && bytesLt a b)) = true ↔ _
 simp
theorem lt_trans' : ∀ {a b c : Str}, bytesLt a b = true → bytesLt b c = true → bytesLt a c = true
 | _, _, [], _, h2 => by
  rename_i b _
  cases b <;> cases h2
 | [], _, _ :: _, _, _ => rfl
 | _ :: _, [], _ :: _, h1, _ => by cases h1
 | x :: a, y :: b, z :: c, h1, h2 => by
  rw [lt_cons] at h1 h2 ⊢
  rcases h1 with h1 | ⟨rfl, h1⟩
  ·rcases h2 with h2 | ⟨rfl, h2⟩
   ·exact .inl (UInt8.lt_trans h1 h2)
   ·exact .inl h1
  ·rcases h2 with h2 | ⟨rfl, h2⟩
   ·exact .inl h2
   ·exact .inr ⟨rfl, lt_trans' h1 h2⟩
/-- At most. -/
def leS (a b : Str) : Bool := bytesLt a b || a == b
theorem le_of_not_lt {a b : Str} (h : bytesLt a b = false) : leS b a = true := by
 unfold leS
 rcases cmp_cases a b with ⟨_, h1, _⟩ | ⟨_, _, h3⟩ | ⟨c1, _, h3⟩
 ·rw [h] at h1; cases h1
 ·rw [eq_of_beq h3]; simp
 ·rcases cmp_cases b a with ⟨_, g1, _⟩ | ⟨_, _, g3⟩ | ⟨d1, g2, g3⟩
  ·rw [g1]; rfl
  ·rw [g3]; simp
  ·exfalso
   have : ∀ a b : Str, cmpB a b = 1 → cmpB b a = -1 := by
    intro a
    induction a with
    | nil => intro b h; cases b <;> cases h
    | cons x a ih =>
     intro b h
     cases b with
     | nil => rfl
     | cons y b =>
      unfold cmpB at h ⊢
      by_cases h1 : x < y
      ·rw [if_pos h1] at h; cases h
      ·rw [if_neg h1] at h
       by_cases h2 : y < x
       ·rw [if_pos h2]
       ·rw [if_neg h2] at h ⊢
        rw [if_neg h1]
        exact ih b h
   rw [this _ _ c1] at d1
   cases d1
end Go.Sh

namespace Go.Sh
open Go.AE
set_option linter.unusedVariables false
set_option linter.unusedSimpArgs false
def holdsOf (b : T_api_Base) (t : Int) (c : Cond) (s : Str) : Bool × Int := bif asked b [t] != 0 then (false, asked b [t]) else match idx b.fTypes t with
 | some x => bif !fitsT x s then (false, 2) else bif !condOk x c then (false, 110) else (holdsC x s c, 0)
 | none => (false, 0)
theorem match_Holds_spec {k : Nat} {b : T_api_Base} {t : Int} {c : Cond} {s : Str} (hk : maxLen + 20 ≤ k) (hw : wf_T_api_Base b) (hc : wfL (wfL wf_T_api_Term) c) : match_Holds k b t c s = some (holdsOf b t c s) := by
 have e63 := maxLen_eq
 obtain ⟨k, rfl, hq⟩ := succ_of (c := maxLen + 19) hk
 have hone : ∀ d ∈ [c], wfL (wfL wf_T_api_Term) d := fun d hd => by
  rw [List.mem_singleton] at hd
  rw [hd]; exact hc
 simp only [match_Holds, dbd_Fits_spec (show maxLen + 11 ≤ k by omega) hw, match_conditions_ok (cs := [c]) (show maxLen + 18 ≤ k by omega) hw (by simp) hone, Option.bind_some, fitsOf, holdsOf]
 by_cases h : asked b [t] = 0
 ·obtain ⟨x, hx, hwx, hok, _, _, _⟩ := asked_type hw h
  simp only [h, hx, bne_self_eq_false, cond_false, condsOf, List.any_cons, List.any_nil, Bool.or_false]
  cases hfit : fitsT x s with
  | false => rfl
  | true =>
   cases hcok : condOk x c with
   | false => rfl
   | true =>
    have hterms := condOk_terms hcok
    have e2 : slices_ContainsFunc_TermL k c (fun j x0 => match_Holds_2_v12 j x0 (fun j x0 => match_Holds_1 j x0 x s)) = some (c.any (fun g => g.all (holdsT x s))) :=
     containsFunc_TermL (by have := hc.1; omega) hc.1 (fun k' e g hg => match_Holds_2_ok (by omega) (hc.2 g hg).1 (fun k'' hk'' t' ht => match_Holds_1_ok hk'' hwx.2.2.2.2.1.1 hok (hterms g hg t' ht)))
    simp only [Bool.not_true, cond_false, bne_self_eq_false, e2, Option.bind_some, holdsC]
    cases c <;> rfl
 ·have : (asked b [t] != 0) = true := by simpa using h
  simp only [this, cond_true]
end Go.Sh

namespace Go.Sh
open Go.AE
set_option linter.unusedVariables false
set_option linter.unusedSimpArgs false
def turnO (op : Int) : Int := bif op == 1 then 1 else bif op == 2 then 2 else bif op == 3 then 5 else bif op == 4 then 6 else bif op == 5 then 3 else 4
theorem turned_in {k : Nat} {op : Int} (hk : 1 ≤ k) (h1 : 1 ≤ op) (h6 : op ≤ 6) : match_Turned k op = some (turnO op, 0) ∧ turnO (turnO op) = op ∧ 1 ≤ turnO op ∧ turnO op ≤ 6 := by
 obtain ⟨k, rfl, _⟩ := succ_of (show 0 + 1 ≤ k by omega)
 rcases (show op = 1 ∨ op = 2 ∨ op = 3 ∨ op = 4 ∨ op = 5 ∨ op = 6 by omega) with rfl | rfl | rfl | rfl | rfl | rfl
 all_goals exact ⟨rfl, rfl, by decide, by decide⟩
theorem turned_out {k : Nat} {op : Int} (hk : 1 ≤ k) (h : op < 1 ∨ 6 < op) : ∃ r, match_Turned k op = some (r, 2) := by
 obtain ⟨k, rfl, _⟩ := succ_of (show 0 + 1 ≤ k by omega)
 have e : ∀ n : Int, 1 ≤ n → n ≤ 6 → (op == n) = false := fun n h1 h2 => beq_eq_false_iff_ne.2 (by omega)
 simp only [match_Turned, e 1 (by decide) (by decide), e 2 (by decide) (by decide), e 3 (by decide) (by decide), e 4 (by decide) (by decide), e 5 (by decide) (by decide), e 6 (by decide) (by decide), cond_false]
 exact ⟨_, rfl⟩
theorem lt_flip {v w : Str} (h : (v == w) = false) : bytesLt w v = !bytesLt v w := by
 have h' : (w == v) = false := beq_eq_false_iff_ne.2 fun e => by rw [e, beq_self_eq_true] at h; cases h
 cases h1 : bytesLt v w with
 | false =>
  have := le_of_not_lt h1
  unfold leS at this
  rw [h', Bool.or_false] at this
  exact this
 | true =>
  cases h2 : bytesLt w v with
  | false => rfl
  | true =>
   have := lt_trans' h1 h2
   rw [bytesLt_irrefl] at this
   cases this
theorem turn_stands {op : Int} (h1 : 1 ≤ op) (h6 : op ≤ 6) (v w : Str) : standsS v op w = standsS w (turnO op) v := by
 cases he : v == w with
 | true =>
  have := eq_of_beq he
  subst this
  rcases (show op = 1 ∨ op = 2 ∨ op = 3 ∨ op = 4 ∨ op = 5 ∨ op = 6 by omega) with rfl | rfl | rfl | rfl | rfl | rfl
  ·rfl
  ·rfl
  ·show bytesLt v v = !(bytesLt v v || v == v); rw [bytesLt_irrefl, beq_self_eq_true]; rfl
  ·show (bytesLt v v || v == v) = !bytesLt v v; rw [bytesLt_irrefl, beq_self_eq_true]; rfl
  ·show (!(bytesLt v v || v == v)) = bytesLt v v; rw [bytesLt_irrefl, beq_self_eq_true]; rfl
  ·show (!bytesLt v v) = (bytesLt v v || v == v); rw [bytesLt_irrefl, beq_self_eq_true]; rfl
 | false =>
  have hf := lt_flip he
  have he' : (w == v) = false := beq_eq_false_iff_ne.2 fun e => by rw [e, beq_self_eq_true] at he; cases he
  rcases (show op = 1 ∨ op = 2 ∨ op = 3 ∨ op = 4 ∨ op = 5 ∨ op = 6 by omega) with rfl | rfl | rfl | rfl | rfl | rfl
  ·show (v == w) = (w == v); rw [he, he']
  ·show (!(v == w)) = !(w == v); rw [he, he']
  ·show bytesLt v w = !(bytesLt w v || w == v); rw [hf, he', Bool.or_false, Bool.not_not]
  ·show (bytesLt v w || v == w) = !bytesLt w v; rw [hf, he, Bool.or_false, Bool.not_not]
  ·show (!(bytesLt v w || v == w)) = bytesLt w v; rw [hf, he, Bool.or_false]
  ·show (!bytesLt v w) = (bytesLt w v || w == v); rw [hf, he', Bool.or_false]
def keyN : Str := [75, 69, 89]
def typeN (n : Nat) : T_api_Type := { fName := [67, 85, 83, 84], fParent := (-1), fMin := (n : Int), fSize := (n : Int), fFields := [{ fName := keyN, fAt := 0, fBytes := (n : Int) }], fKey := 0, fUnique := true, fLast := false }
def baseN (n : Nat) : T_api_Base := { fName := [83, 72, 79, 80], fKind := 4, fTypes := [typeN n], fIndexes := [] }
theorem baseN_valid : ∀ n : Nat, n < 21 → 1 ≤ n → valid (baseN n) = true := by decide +kernel
theorem baseN_wf {n : Nat} (hn : n < 21) : wf_T_api_Base (baseN n) := by
 have e63 := maxLen_eq
 refine ⟨wfS_short (l := [83, 72, 79, 80]) (by decide), wfI_small (n := 4) (by decide) (by decide), ⟨by simp [baseN]; omega, fun t ht => ?_⟩, ⟨by simp [baseN], fun x hx => by cases hx⟩, trivial⟩
 obtain rfl : t = typeN n := by simpa [baseN] using ht
 refine ⟨wfS_short (l := [67, 85, 83, 84]) (by decide), wfI_small (n := -1) (by decide) (by decide), wfI_small (n := (n : Int)) (by omega) (by omega), wfI_small (n := (n : Int)) (by omega) (by omega), ⟨by simp [typeN]; omega, fun f hf => ?_⟩, wfI_small (n := 0) (by decide) (by decide), trivial, trivial, trivial⟩
 obtain rfl : f = { fName := keyN, fAt := 0, fBytes := (n : Int) } := by simpa [typeN] using hf
 exact ⟨wfS_short (l := keyN) (by decide), wfI_small (n := 0) (by decide) (by decide), wfI_small (n := (n : Int)) (by omega) (by omega), trivial⟩
theorem one_wf {t : T_api_Term} (h : wf_T_api_Term t) : wfL (wfL wf_T_api_Term) [[t]] := by
 have e63 := maxLen_eq
 refine ⟨by simp; omega, fun g hg => ?_⟩
 obtain rfl : g = [t] := by simpa using hg
 exact ⟨by simp; omega, fun u hu => by
  obtain rfl : u = t := by simpa using hu
  exact h⟩
theorem holdsN {n : Nat} (hn : n < 21) (h1 : 1 ≤ n) {a b : Str} (ha : a.length = n) (hb : b.length = n) {op : Int} (g1 : 1 ≤ op) (g6 : op ≤ 6) : holdsOf (baseN n) 0 [[{ fField := keyN, fOp := op, fValue := b }]] a = (standsS a op b, 0) := by
 have hask : asked (baseN n) [0] = 0 := by
  unfold asked
  rw [baseN_valid n hn h1]
  rfl
 have hx : idx (baseN n).fTypes 0 = some (typeN n) := rfl
 have hfit : fitsT (typeN n) a = true := by
  unfold fitsT
  rw [ha]
  simp [typeN]
 have hfa : fieldAt (typeN n) keyN = 0 := rfl
 have hix : idx (typeN n).fFields 0 = some { fName := keyN, fAt := 0, fBytes := (n : Int) } := rfl
 have hterm : termOk (typeN n) { fField := keyN, fOp := op, fValue := b } = true := by
  unfold termOk
  simp only [hfa, hix, hb, beq_self_eq_true, Bool.and_true, Bool.and_eq_true, decide_eq_true_eq]
  exact ⟨by decide, g1, g6⟩
 have hco : condOk (typeN n) [[{ fField := keyN, fOp := op, fValue := b }]] = true := by
  unfold condOk groupBad
  simp [hterm]
 have hv : valueF { fName := keyN, fAt := 0, fBytes := (n : Int) } a = (a, true) := by
  unfold valueF
  have hd : decide ((n : Int) > (a.length : Int)) = false := by rw [ha]; simp
  simp only [Int.zero_add, hd, cond_false, Int.toNat_natCast, Int.toNat_zero, List.drop_zero]
  rw [List.take_of_length_le (by omega)]
 have hh : holdsC (typeN n) a [[{ fField := keyN, fOp := op, fValue := b }]] = standsS a op b := by
  unfold holdsC holdsT
  simp only [List.isEmpty_cons, List.any_cons, List.any_nil, List.all_cons, List.all_nil, Bool.and_true, Bool.or_false, Bool.false_or, hfa, hix, hv, Bool.true_and]
 unfold holdsOf
 rw [hask, hx]
 simp only [bne_self_eq_false, cond_false, hfit, hco, Bool.not_true, hh]
theorem law_law12_MatchTurns (a b : Str) (op : Int) (ha : wfS a) (hb : wfS b) (hop : wfI .i64 op) : ∃ k, law12_MatchTurns k a b op = some true := by
 have e63 := maxLen_eq
 obtain ⟨k, hk⟩ : ∃ k, maxLen + 38 = k := ⟨_, rfl⟩
 refine ⟨k + 1 + 1, ?_⟩
 have h5 := awake12 (k := k + 1) (by omega)
 have hs : law12_shop (k + 1) = some law12_shop_v := rfl
 simp only [law12_MatchTurns, h5, hs, Option.bind_some]
 by_cases c1 : a.length < 1
 ·have : decide ((a.length : Int) < 1) = true := by rw [decide_eq_true_eq]; omega
  rw [this]
  rfl
 have d1 : decide ((a.length : Int) < 1) = false := by rw [decide_eq_false_iff_not]; omega
 by_cases c2 : 20 < a.length
 ·have : decide ((a.length : Int) > 20) = true := by rw [decide_eq_true_eq]; omega
  rw [d1, this]
  rfl
 have d2 : decide ((a.length : Int) > 20) = false := by rw [decide_eq_false_iff_not]; omega
 rw [d1, d2]
 simp only [cond_false, Option.bind_some]
 cases c3 : ((a.length : Int) != (b.length : Int)) with
 | true => rfl
 | false =>
  have hlen : b.length = a.length := by
   have : (a.length : Int) = (b.length : Int) := by simpa using c3
   omega
  have hz : 0 + (0 : Int).toNat = 0 := rfl
  have e0 : law12_shop_v.fTypes = [{ fName := [67, 85, 83, 84], fParent := (-1), fMin := 4, fSize := 10, fFields := [{ fName := [67, 85, 83, 84, 78, 79], fAt := 0, fBytes := 4 }], fKey := 0, fUnique := true, fLast := false }] := rfl
  have e1 : ∀ x : T_api_Type, inB [x].length 0 = some () := fun _ => rfl
  simp only [cond_false, e0, hz, e1, List.set_cons_zero, List.getElem?_cons_zero, Option.bind_some]
  generalize hB : ({ fName := law12_shop_v.fName, fKind := law12_shop_v.fKind, fTypes := _, fIndexes := law12_shop_v.fIndexes } : T_api_Base) = B
  have hBn : B = baseN a.length := hB.symm
  subst hBn
  clear hB
  by_cases c4 : 1 ≤ op ∧ op ≤ 6
  ·obtain ⟨t1, t2, t3, t4⟩ := turned_in (k := k + 1) (by omega) c4.1 c4.2
   obtain ⟨t5, _⟩ := turned_in (k := k + 1) (by omega) t3 t4
   rw [t2] at t5
   have wt : ∀ {o : Int} {v : Str}, 1 ≤ o → o ≤ 6 → v.length ≤ 20 → wf_T_api_Term { fField := keyN, fOp := o, fValue := v } := fun {o v} h1 h2 h3 => ⟨wfS_short (l := keyN) (by decide), wfI_small (n := o) (by omega) (by omega), wfS_short (l := v) (by omega), trivial⟩
   have p1 : match_Holds (k + 1) (baseN a.length) 0 [[{ fField := [75, 69, 89], fOp := op, fValue := b }]] a = some (standsS a op b, 0) := by
    refine (match_Holds_spec (by omega) (baseN_wf (by omega)) (one_wf (wt c4.1 c4.2 (by omega)))).trans ?_
    exact congrArg some (holdsN (by omega) (by omega) rfl hlen c4.1 c4.2)
   have p2 : match_Holds (k + 1) (baseN a.length) 0 [[{ fField := [75, 69, 89], fOp := turnO op, fValue := a }]] b = some (standsS b (turnO op) a, 0) := by
    refine (match_Holds_spec (by omega) (baseN_wf (by omega)) (one_wf (wt t3 t4 (by omega)))).trans ?_
    exact congrArg some (holdsN (by omega) (by omega) hlen rfl t3 t4)
   simp only [t1, Option.bind_some, bne_self_eq_false, cond_false, p1, p2, t5, turn_stands c4.1 c4.2, beq_self_eq_true, cond_true]
  ·obtain ⟨r, t1⟩ := turned_out (k := k + 1) (op := op) (by omega) (by omega)
   simp only [t1, Option.bind_some, show ((2 : Int) != 0) = true by rfl, cond_true, beq_self_eq_true]
   by_cases c5 : op < 1
   ·rw [decide_eq_true c5]
    rfl
   ·rw [decide_eq_false c5, decide_eq_true (show op > 6 by omega)]
    rfl
end Go.Sh

