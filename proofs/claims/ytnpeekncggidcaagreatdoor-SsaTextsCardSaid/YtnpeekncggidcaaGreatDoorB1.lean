/- The functions as functions on lists, and what they come to: no program in sight. Conditions: those that each theorem names. -/
import Derived.Test.YtnpeekncggidcaaGreatDoorA3
import Derived.IntWalk
namespace Go.Sh
open Go.AE (idx J5 cut cat app sH inB cq ns wfI wfS wfL wfT mkN wv repL jN Gp gL quoI remE shlI shrI andI orI xorI catL iC HY repG ru fdS Ai)
set_option linter.unusedVariables false
abbrev Str := List UInt8
structure i4 where
 fName : Str
 fAt : Int
 fBytes : Int
 deriving DecidableEq
structure b8 where
 fName : Str
 fParent : Int
 fMin : Int
 fSize : Int
 fFields : (List i4)
 fKey : Int
 fUnique : Bool
 fLast : Bool
 deriving DecidableEq
structure j1 where
 fName : Str
 fType : Int
 fField : Int
 fSparse : Str
 deriving DecidableEq
structure a8 where
 fName : Str
 fKind : Int
 fTypes : (List b8)
 fIndexes : (List j1)
 deriving DecidableEq
structure a6 where
 fField : Str
 fOp : Int
 fValue : Str
 deriving DecidableEq
structure b7 where
 fSegment : Str
 fCodes : Str
 fWhen : (List (List a6))
 deriving DecidableEq
structure E5 where
 e0 : Str
 e1 : Str
 e2 : Str
 e3 : Str
 e4 : Str
 e5 : Str
 deriving DecidableEq
def bF (a : i4) : Prop := wfS a.fName ∧ (wfI .i64) a.fAt ∧ (wfI .i64) a.fBytes ∧ wfT ()
def F0 (a : b8) : Prop := wfS a.fName ∧ (wfI .i64) a.fParent ∧ (wfI .i64) a.fMin ∧ (wfI .i64) a.fSize ∧ (wfL bF) a.fFields ∧ (wfI .i64) a.fKey ∧ wfT a.fUnique ∧ wfT a.fLast ∧ wfT ()
def aG (a : j1) : Prop := wfS a.fName ∧ (wfI .i64) a.fType ∧ (wfI .i64) a.fField ∧ wfS a.fSparse ∧ wfT ()
def d8 (a : a8) : Prop := wfS a.fName ∧ (wfI .i64) a.fKind ∧ (wfL F0) a.fTypes ∧ (wfL aG) a.fIndexes ∧ wfT ()
def o0 (a : a6) : Prop := wfS a.fField ∧ (wfI .i64) a.fOp ∧ wfS a.fValue ∧ wfT ()
def t6 (a : b7) : Prop := wfS a.fSegment ∧ wfS a.fCodes ∧ (wfL (wfL o0)) a.fWhen ∧ wfT ()
def Au (a : E5) : Prop := wfS a.e0 ∧ wfS a.e1 ∧ wfS a.e2 ∧ wfS a.e3 ∧ wfS a.e4 ∧ wfS a.e5 ∧ wfT ()
def M3 (a0 : a8) (x17 : Int)  (K0 : Int → Option Bool) : Nat → Int → Option Bool
 | 0, _ => none
 | m + 1, x26 =>
  (((idx a0.fTypes x17).bind fun v27 => (some ((decide (x26 < (v27.fFields.length : Int)))))).bind fun o28 =>
    (bif o28 then (((idx a0.fTypes x17).bind fun v29 => ((idx v29.fFields x26).bind fun v30 => (some ((decide ((v30.fName.length : Int) > 40)))))).bind fun o31 =>
     (bif o31 then (some true) else
     (M3 a0 x17 K0 m (Go.IntKind.wrap .i64 (x26 + 1))))) else
    (K0 x26)))
def M2 (k : Nat) (a0 : a8)  (K0 : Int → Option Bool) : Nat → Int → Option Bool
 | 0, _ => none
 | m + 1, x17 =>
  (bif (decide (x17 < (a0.fTypes.length : Int))) then (((idx a0.fTypes x17).bind fun v18 => (bif (decide ((v18.fFields.length : Int) > 20)) then (some (true)) else ((idx a0.fTypes x17).bind fun v19 => (some ((decide ((v19.fName.length : Int) > 40))))))).bind fun o20 =>
        (bif o20 then (some true) else
        (M3 a0 x17 (fun y32 =>
         (M2 k a0 K0 m (Go.IntKind.wrap .i64 (x17 + 1)))) k 0))) else
    (K0 x17))
def M4 (a0 : a8)  (K0 : Int → Option Bool) : Nat → Int → Option Bool
 | 0, _ => none
 | m + 1, x37 =>
  (bif (decide (x37 < (a0.fIndexes.length : Int))) then (((idx a0.fIndexes x37).bind fun v38 => (bif (decide ((v38.fName.length : Int) > 40)) then (some (true)) else ((idx a0.fIndexes x37).bind fun v39 => (some ((decide ((v39.fSparse.length : Int) > 40))))))).bind fun o40 =>
        (bif o40 then (some true) else
        (M4 a0 K0 m (Go.IntKind.wrap .i64 (x37 + 1))))) else
    (K0 x37))
def cG : Nat → (a8) → Option Bool
 | 0, _ => none
 | k + 1, a0 =>
  ((bif (decide ((a0.fTypes.length : Int) > 20)) then (some (true)) else (bif (decide ((a0.fIndexes.length : Int) > 20)) then (some (true)) else (some ((decide ((a0.fName.length : Int) > 40)))))).bind fun o1 =>
   (bif o1 then (some true) else
   (M2 k a0 (fun y33 =>
    (M4 a0 (fun y41 =>
     (some false)) k 0)) k 0)))
def Q7 (a0 : (List (List a6))) (x19 : Int)  (K0 : Int → Option Bool) : Nat → Int → Option Bool
 | 0, _ => none
 | m + 1, x29 =>
  (((idx a0 x19).bind fun v30 => (some ((decide (x29 < (v30.length : Int)))))).bind fun o31 =>
    (bif o31 then (((idx a0 x19).bind fun v32 => ((idx v32 x29).bind fun v33 => (bif (decide ((v33.fField.length : Int) > 100)) then (some (true)) else ((idx a0 x19).bind fun v34 => ((idx v34 x29).bind fun v35 => (some ((decide ((v35.fValue.length : Int) > 100))))))))).bind fun o36 =>
     (bif o36 then (some true) else
     (Q7 a0 x19 K0 m (Go.IntKind.wrap .i64 (x29 + 1))))) else
    (K0 x29)))
def Q6 (k : Nat) (a0 : (List (List a6)))  (K0 : Int → Option Bool) : Nat → Int → Option Bool
 | 0, _ => none
 | m + 1, x19 =>
  (bif (decide (x19 < (a0.length : Int))) then (((idx a0 x19).bind fun v20 => (some ((decide ((v20.length : Int) > 20))))).bind fun o21 =>
        (bif o21 then (some true) else
        (Q7 a0 x19 (fun y37 =>
         (Q6 k a0 K0 m (Go.IntKind.wrap .i64 (x19 + 1)))) k 0))) else
    (K0 x19))
def eF : Nat → ((List (List a6))) → Option Bool
 | 0, _ => none
 | k + 1, a0 =>
  (Q6 k a0 (fun y38 =>
   (some (decide ((a0.length : Int) > 20)))) k 0)
def Q8 (k : Nat) (a0 : (List b7))  (K0 : Int → Option Bool) : Nat → Int → Option Bool
 | 0, _ => none
 | m + 1, x6 =>
  (bif (decide (x6 < (a0.length : Int))) then (((idx a0 x6).bind fun v7 => (bif (decide ((v7.fSegment.length : Int) > 100)) then (some (true)) else ((idx a0 x6).bind fun v8 => (bif (decide ((v8.fCodes.length : Int) > 100)) then (some (true)) else ((idx a0 x6).bind fun v9 => (eF k v9.fWhen)))))).bind fun o11 =>
        (bif o11 then (some true) else
        (Q8 k a0 K0 m (Go.IntKind.wrap .i64 (x6 + 1))))) else
    (K0 x6))
def eG : Nat → ((List b7)) → Option Bool
 | 0, _ => none
 | k + 1, a0 =>
  (Q8 k a0 (fun y12 =>
   (some (decide ((a0.length : Int) > 20)))) k 0)
def bP : Nat → Option a8
 | 0 => none
 | k + 1 =>
  (some ({ fName := ([83, 72, 79, 80] : Str), fKind := 4, fTypes := ([({ fName := ([67, 85, 83, 84] : Str), fParent := (-1), fMin := 4, fSize := 10, fFields := ([({ fName := ([67, 85, 83, 84, 78, 79] : Str), fAt := 0, fBytes := 4 } : i4)] : List i4), fKey := 0, fUnique := true, fLast := false } : b8), ({ fName := ([79, 82, 68, 69, 82] : Str), fParent := 0, fMin := 4, fSize := 8, fFields := ([({ fName := ([79, 82, 68, 78, 79] : Str), fAt := 0, fBytes := 4 } : i4)] : List i4), fKey := 0, fUnique := false, fLast := false } : b8)] : List b8), fIndexes := ([] : List j1) } : a8))
def H7 (a0 : Str)  (K0 : Int → Option Bool) : Nat → Int → Option Bool
 | 0, _ => none
 | m + 1, x7 =>
  (bif (decide (x7 < (a0.length : Int))) then (((J5 a0 x7).bind fun v8 => (bif (decide (v8 ≥ 65)) then ((J5 a0 x7).bind fun v9 => (some ((decide (v9 ≤ 90))))) else (some (false)))).bind fun o10 =>
        ((bif (!o10) then (bif (x7 == 0) then (some (true)) else ((J5 a0 x7).bind fun v11 => (bif (decide (v11 < 48)) then (some (true)) else ((J5 a0 x7).bind fun v12 => (some ((decide (v12 > 57)))))))) else (some (false))).bind fun o13 =>
        (bif o13 then (some false) else
        (H7 a0 K0 m (Go.IntKind.wrap .i64 (x7 + 1)))))) else
    (K0 x7))
def T9 : Nat → (Str) → Option Bool
 | 0, _ => none
 | k + 1, a0 =>
  (H7 a0 (fun y14 =>
   ((bif (decide ((a0.length : Int) ≥ 1)) then (some ((decide ((a0.length : Int) ≤ 8)))) else (some (false))).bind fun o15 =>
    (some o15))) k 0)
def C8 (k : Nat) (a0 : (List i4)) (a1 : Nat → i4 → Option Bool) (K0 : Int → Option Int) : Nat → Int → Option Int
 | 0, _ => none
 | m + 1, x4 =>
  (bif (decide (x4 < (a0.length : Int))) then (((idx a0 x4).bind fun v5 => (a1 k v5)).bind fun o7 =>
        (bif o7 then (some x4) else
        (C8 k a0 a1 K0 m (Go.IntKind.wrap .i64 (x4 + 1))))) else
    (K0 x4))
def C6 : Nat → ((List i4)) → (Nat → i4 → Option Bool) → Option Int
 | 0, _, _ => none
 | k + 1, a0, a1 =>
  (C8 k a0 a1 (fun y8 =>
   (some (-1))) k 0)
def A5 : Nat → ((List i4)) → (Nat → i4 → Option Bool) → Option Bool
 | 0, _, _ => none
 | k + 1, a0, a1 =>
  (((C6 k a0 a1).bind fun v1 => (some ((decide (v1 ≥ 0))))).bind fun o2 =>
   (some o2))
def U5 : Nat → (i4) → (i4) → Option Bool
 | 0, _, _ => none
 | k + 1, a0, a1 =>
  (some (a0.fName == a1.fName))
def H0 (k : Nat) (a0 : (List i4)) (a1 : Int)  (K0 : Int → Option Bool) : Nat → Int → Option Bool
 | 0, _ => none
 | m + 1, x8 =>
  (bif (decide (x8 < (a0.length : Int))) then (((idx a0 x8).bind fun v9 => (some (x8, v9))).bind fun o10 =>
        (((T9 k o10.2.fName).bind fun v11 => (bif (!v11) then (some (true)) else (bif (decide (o10.2.fAt < 0)) then (some (true)) else (bif (decide (o10.2.fAt ≥ a1)) then (some (true)) else (bif (decide (o10.2.fBytes < 1)) then (some (true)) else (some ((decide (o10.2.fBytes > (Go.IntKind.wrap .i64 (a1 - o10.2.fAt))))))))))).bind fun o12 =>
        (bif o12 then (some false) else
        (((cut a0 0 o10.1).bind fun v13 => (A5 k v13 (fun j x0 => (U5 j x0 o10.2)))).bind fun o15 =>
         (bif o15 then (some false) else
         (H0 k a0 a1 K0 m (Go.IntKind.wrap .i64 (x8 + 1)))))))) else
    (K0 x8))
def al : Nat → ((List i4)) → (Int) → Option Bool
 | 0, _, _ => none
 | k + 1, a0, a1 =>
  (H0 k a0 a1 (fun y16 =>
   (some (decide ((a0.length : Int) ≤ 5)))) k 0)
def eA : Nat → (b8) → Option Bool
 | 0, _ => none
 | k + 1, a0 =>
  (((T9 k a0.fName).bind fun v1 => (bif (!v1) then (some (true)) else (bif (decide (a0.fMin < 1)) then (some (true)) else (bif (decide (a0.fMin > a0.fSize)) then (some (true)) else (bif (decide (a0.fSize > 40)) then (some (true)) else ((al k a0.fFields a0.fSize).bind fun v2 => (some ((!v2))))))))).bind fun o3 =>
   (bif o3 then (some false) else
   (bif (a0.fKey == (-1)) then (some (!a0.fUnique)) else
    ((bif (decide (a0.fKey < 0)) then (some (true)) else (some ((decide (a0.fKey ≥ (a0.fFields.length : Int)))))).bind fun o4 =>
     (bif o4 then (some false) else
     (((idx a0.fFields a0.fKey).bind fun v5 => ((idx a0.fFields a0.fKey).bind fun v6 => (some ((decide ((Go.IntKind.wrap .i64 (v5.fAt + v6.fBytes)) ≤ a0.fMin)))))).bind fun o7 =>
      (some o7)))))))
def D7 (k : Nat) (a0 : (List b8)) (a1 : Nat → b8 → Option Bool) (K0 : Int → Option Int) : Nat → Int → Option Int
 | 0, _ => none
 | m + 1, x4 =>
  (bif (decide (x4 < (a0.length : Int))) then (((idx a0 x4).bind fun v5 => (a1 k v5)).bind fun o7 =>
        (bif o7 then (some x4) else
        (D7 k a0 a1 K0 m (Go.IntKind.wrap .i64 (x4 + 1))))) else
    (K0 x4))
def D4 : Nat → ((List b8)) → (Nat → b8 → Option Bool) → Option Int
 | 0, _, _ => none
 | k + 1, a0, a1 =>
  (D7 k a0 a1 (fun y8 =>
   (some (-1))) k 0)
def B2 : Nat → ((List b8)) → (Nat → b8 → Option Bool) → Option Bool
 | 0, _, _ => none
 | k + 1, a0, a1 =>
  (((D4 k a0 a1).bind fun v1 => (some ((decide (v1 ≥ 0))))).bind fun o2 =>
   (some o2))
def X0 : Nat → (b8) → (b8) → Option Bool
 | 0, _, _ => none
 | k + 1, a0, a1 =>
  (some (a0.fName == a1.fName))
def J8 (a0 : (List Int)) (a1 : Int)  (K0 : Int → Option Int) : Nat → Int → Option Int
 | 0, _ => none
 | m + 1, x3 =>
  (bif (decide (x3 < (a0.length : Int))) then (((idx a0 x3).bind fun v4 => (some ((a1 == v4)))).bind fun o5 =>
        (bif o5 then (some x3) else
        (J8 a0 a1 K0 m (Go.IntKind.wrap .i64 (x3 + 1))))) else
    (K0 x3))
def T0 : Nat → ((List Int)) → (Int) → Option Int
 | 0, _, _ => none
 | k + 1, a0, a1 =>
  (J8 a0 a1 (fun y6 =>
   (some (-1))) k 0)
def I7 (k : Nat) (a0 : (List b8))  (K0 : Int → (List Int) → Option Bool) : Nat → Int → (List Int) → Option Bool
 | 0, _, _ => none
 | m + 1, x15, x16 =>
  (bif (decide (x15 < (a0.length : Int))) then (((idx a0 x15).bind fun v17 => (some (x15, v17))).bind fun o18 =>
        (((eA k o18.2).bind fun v19 => (bif (!v19) then (some (true)) else ((cut a0 0 o18.1).bind fun v20 => (B2 k v20 (fun j x0 => (X0 j x0 o18.2)))))).bind fun o22 =>
        (bif o22 then (some false) else
        ((T0 k x16 o18.2.fParent).bind fun o24 =>
         ((bif (o18.1 == 0) then (bif (o18.2.fParent != (-1)) then (some (true)) else (bif (decide (o18.2.fKey < 0)) then (some (true)) else (bif (!o18.2.fUnique) then (some (true)) else ((idx o18.2.fFields o18.2.fKey).bind fun v25 => (bif (decide (v25.fBytes > 24)) then (some (true)) else (bif (decide (o18.1 > 0)) then (some ((decide (o24 < 0)))) else (some (false)))))))) else (bif (decide (o18.1 > 0)) then (some ((decide (o24 < 0)))) else (some (false)))).bind fun o26 =>
         (bif o26 then (some false) else
         (((sH x16 (Go.IntKind.wrap .i64 (o24 + 1))).bind fun v27 => (app (List.take v27 x16) ([o18.1] : List Int))).bind fun o29 =>
          (bif (decide ((o29.length : Int) > 5)) then (some false) else
          (I7 k a0 K0 m (Go.IntKind.wrap .i64 (x15 + 1)) o29))))))))) else
    (K0 x15 x16))
def bi : Nat → ((List b8)) → Option Bool
 | 0, _ => none
 | k + 1, a0 =>
  ((bif (decide ((a0.length : Int) < 1)) then (some (true)) else (some ((decide ((a0.length : Int) > 8))))).bind fun o1 =>
   (bif o1 then (some false) else
   (I7 k a0 (fun y30 y31 =>
    (some true)) k 0 ([] : List Int))))
def C3 (k : Nat) (a0 : (List j1)) (a1 : Nat → j1 → Option Bool) (K0 : Int → Option Int) : Nat → Int → Option Int
 | 0, _ => none
 | m + 1, x4 =>
  (bif (decide (x4 < (a0.length : Int))) then (((idx a0 x4).bind fun v5 => (a1 k v5)).bind fun o7 =>
        (bif o7 then (some x4) else
        (C3 k a0 a1 K0 m (Go.IntKind.wrap .i64 (x4 + 1))))) else
    (K0 x4))
def I5 : Nat → ((List j1)) → (Nat → j1 → Option Bool) → Option Int
 | 0, _, _ => none
 | k + 1, a0, a1 =>
  (C3 k a0 a1 (fun y8 =>
   (some (-1))) k 0)
def z6 : Nat → ((List j1)) → (Nat → j1 → Option Bool) → Option Bool
 | 0, _, _ => none
 | k + 1, a0, a1 =>
  (((I5 k a0 a1).bind fun v1 => (some ((decide (v1 ≥ 0))))).bind fun o2 =>
   (some o2))
def S4 : Nat → (j1) → (j1) → Option Bool
 | 0, _, _ => none
 | k + 1, a0, a1 =>
  (some (a0.fName == a1.fName))
def F1 (k : Nat) (a0 : (List j1)) (a1 : (List b8))  (K0 : Int → Option Bool) : Nat → Int → Option Bool
 | 0, _ => none
 | m + 1, x11 =>
  (bif (decide (x11 < (a0.length : Int))) then (((idx a0 x11).bind fun v12 => (some (x11, v12))).bind fun o13 =>
        (((T9 k o13.2.fName).bind fun v14 => (bif (!v14) then (some (true)) else (bif (decide (o13.2.fType < 0)) then (some (true)) else (bif (decide (o13.2.fType ≥ (a1.length : Int))) then (some (true)) else (bif (decide ((o13.2.fSparse.length : Int) > 1)) then (some (true)) else ((cut a0 0 o13.1).bind fun v15 => (z6 k v15 (fun j x0 => (S4 j x0 o13.2))))))))).bind fun o17 =>
        (bif o17 then (some false) else
        (((idx a1 o13.2.fType).bind fun v18 => (some (v18.fFields))).bind fun o19 =>
         ((bif (decide (o13.2.fField < 0)) then (some (true)) else (bif (decide (o13.2.fField ≥ (o19.length : Int))) then (some (true)) else ((idx o19 o13.2.fField).bind fun v20 => (some ((decide (v20.fBytes > 20))))))).bind fun o21 =>
         (bif o21 then (some false) else
         (F1 k a0 a1 K0 m (Go.IntKind.wrap .i64 (x11 + 1))))))))) else
    (K0 x11))
def W9 : Nat → ((List j1)) → ((List b8)) → Option Bool
 | 0, _, _ => none
 | k + 1, a0, a1 =>
  (F1 k a0 a1 (fun y22 =>
   (some (decide ((a0.length : Int) ≤ 3)))) k 0)
def bK : Nat → (a8) → Option Bool
 | 0, _ => none
 | k + 1, a0 =>
  (((T9 k a0.fName).bind fun v1 => (bif v1 then (bif (decide (a0.fKind ≥ 1)) then (bif (decide (a0.fKind ≤ 4)) then ((bi k a0.fTypes).bind fun v2 => (bif v2 then (W9 k a0.fIndexes a0.fTypes) else (some (false)))) else (some (false))) else (some (false))) else (some (false)))).bind fun o4 =>
   (some o4))
def strings_IndexByte : Nat → Str → Int → Option Int
 | 0, _, _ => none
 | _ + 1, s, n => some (gL s n.toNat.toUInt8)
def J4 (k : Nat) (a0 : Str)  (K0 : Int → Int → Option Bool) : Nat → Int → Int → Option Bool
 | 0, _, _ => none
 | m + 1, x5, x6 =>
  (bif (decide (x6 < (a0.length : Int))) then (((cut ([68, 76, 80] : Str) x5 (([68, 76, 80] : Str).length : Int)).bind fun v7 => ((J5 a0 x6).bind fun v8 => (strings_IndexByte k v7 v8))).bind fun o10 =>
        (bif (decide (o10 < 0)) then (some false) else
        (J4 k a0 K0 m (Go.IntKind.wrap .i64 (x5 + (Go.IntKind.wrap .i64 (o10 + 1)))) (Go.IntKind.wrap .i64 (x6 + 1))))) else
    (K0 x5 x6))
def dX : Nat → (Str) → Option Bool
 | 0, _ => none
 | k + 1, a0 =>
  (J4 k a0 (fun y11 y12 =>
   (some true)) k 0 0)
def E8 (k : Nat) (a0 : (List Int)) (a1 : Nat → Int → Option Bool) (K0 : Int → Option Int) : Nat → Int → Option Int
 | 0, _ => none
 | m + 1, x4 =>
  (bif (decide (x4 < (a0.length : Int))) then (((idx a0 x4).bind fun v5 => (a1 k v5)).bind fun o7 =>
        (bif o7 then (some x4) else
        (E8 k a0 a1 K0 m (Go.IntKind.wrap .i64 (x4 + 1))))) else
    (K0 x4))
def Q2 : Nat → ((List Int)) → (Nat → Int → Option Bool) → Option Int
 | 0, _, _ => none
 | k + 1, a0, a1 =>
  (E8 k a0 a1 (fun y8 =>
   (some (-1))) k 0)
def B7 : Nat → ((List Int)) → (Nat → Int → Option Bool) → Option Bool
 | 0, _, _ => none
 | k + 1, a0, a1 =>
  (((Q2 k a0 a1).bind fun v1 => (some ((decide (v1 ≥ 0))))).bind fun o2 =>
   (some o2))
def aP : Nat → (Int) → (a8) → Option Bool
 | 0, _, _ => none
 | k + 1, a0, a1 =>
  ((bif (decide (a0 < 0)) then (some (true)) else (some ((decide (a0 ≥ (a1.fTypes.length : Int)))))).bind fun o1 =>
   (some o1))
def bM : Nat → (a8) → ((List Int)) → Option Int
 | 0, _, _ => none
 | k + 1, a0, a1 =>
  (((bK k a0).bind fun v1 => (some ((!v1)))).bind fun o2 =>
   (bif o2 then (some 100) else
   ((B7 k a1 (fun j x0 => (aP j x0 a0))).bind fun o4 =>
    (bif o4 then (some 2) else
    (some 0)))))
def ex : Nat → (b8) → (Str) → Option Bool
 | 0, _, _ => none
 | k + 1, a0, a1 =>
  (some (a0.fName == a1))
def ge : Nat → (Int) → Option (Int × Int)
 | 0, _ => none
 | k + 1, a0 =>
  (bif (decide (a0 < 0)) then (some (0, 5)) else
   (some (a0, 0)))
def cy : Nat → (a8) → (Str) → Option (Int × Int)
 | 0, _, _ => none
 | k + 1, a0, a1 =>
  ((bM k a0 ([] : List Int)).bind fun o2 =>
   (bif (o2 != 0) then (some (0, o2)) else
   (((D4 k a0.fTypes (fun j x0 => (ex j x0 a1))).bind fun v3 => ((ge k v3).bind fun v4 => (some (v4.1, v4.2)))).bind fun o5 =>
    (some (o5.1, o5.2)))))
def slices_Reverse_int : Nat → List Int → Option (List Int)
 | 0, _ => none
 | _ + 1, l => ns l
def aK (a0 : a8)  (K0 : Int → (List Int) → Option (List Int)) : Nat → Int → (List Int) → Option (List Int)
 | 0, _, _ => none
 | m + 1, x5, x6 =>
  (bif (decide (x5 ≥ 0)) then ((app x6 ([x5] : List Int)).bind fun o8 =>
        (((idx a0.fTypes x5).bind fun v9 => (some (v9.fParent))).bind fun o10 =>
        (aK a0 K0 m o10 o8))) else
    (K0 x5 x6))
def js : Nat → (a8) → (Int) → Option (List Int)
 | 0, _, _ => none
 | k + 1, a0, a1 =>
  (aK a0 (fun y11 y12 =>
   (((slices_Reverse_int k y12).bind (cq y12)).bind fun o14 =>
    (some o14))) k a1 ([] : List Int))
def J7 : Nat → ((List Int)) → (Int) → Option Bool
 | 0, _, _ => none
 | k + 1, a0, a1 =>
  (((T0 k a0 a1).bind fun v1 => (some ((decide (v1 ≥ 0))))).bind fun o2 =>
   (some o2))
def cx : Nat → (a8) → (Int) → (Int) → Option (Bool × Int)
 | 0, _, _, _ => none
 | k + 1, a0, a1, a2 =>
  ((bM k a0 ([a1, a2] : List Int)).bind fun o2 =>
   (bif (o2 != 0) then (some (false, o2)) else
   ((bif (a1 != a2) then ((js k a0 a2).bind fun v3 => ((J7 k v3 a1).bind fun v4 => (some (v4, 0)))) else (some (false, 0))).bind fun o5 =>
    (some (o5.1, o5.2)))))
def kZ : Nat → (a8) → (Int) → Option ((List Int) × Int)
 | 0, _, _ => none
 | k + 1, a0, a1 =>
  ((bM k a0 ([a1] : List Int)).bind fun o2 =>
   (bif (o2 != 0) then (some (([] : List Int), o2)) else
   (((js k a0 a1).bind fun v3 => (some (v3, 0))).bind fun o4 =>
    (some (o4.1, o4.2)))))
def gd : Nat → (a8) → (Int) → Option (Int × Int)
 | 0, _, _ => none
 | k + 1, a0, a1 =>
  (((kZ k a0 a1).bind fun v1 => (some (v1.1, v1.2))).bind fun o2 =>
   (some ((o2.1.length : Int), o2.2)))
def X9 : Nat → (a8) → (Int) → Option Int
 | 0, _, _ => none
 | k + 1, a0, a1 =>
  (((gd k a0 a1).bind fun v1 => (some (v1.2))).bind fun o2 =>
   (some o2))
def C9 (k : Nat) (a0 : (List (List a6))) (a1 : Nat → (List a6) → Option Bool) (K0 : Int → Option Int) : Nat → Int → Option Int
 | 0, _ => none
 | m + 1, x4 =>
  (bif (decide (x4 < (a0.length : Int))) then (((idx a0 x4).bind fun v5 => (a1 k v5)).bind fun o7 =>
        (bif o7 then (some x4) else
        (C9 k a0 a1 K0 m (Go.IntKind.wrap .i64 (x4 + 1))))) else
    (K0 x4))
def K6 : Nat → ((List (List a6))) → (Nat → (List a6) → Option Bool) → Option Int
 | 0, _, _ => none
 | k + 1, a0, a1 =>
  (C9 k a0 a1 (fun y8 =>
   (some (-1))) k 0)
def A6 : Nat → ((List (List a6))) → (Nat → (List a6) → Option Bool) → Option Bool
 | 0, _, _ => none
 | k + 1, a0, a1 =>
  (((K6 k a0 a1).bind fun v1 => (some ((decide (v1 ≥ 0))))).bind fun o2 =>
   (some o2))
def D6 (k : Nat) (a0 : (List a6)) (a1 : Nat → a6 → Option Bool) (K0 : Int → Option Int) : Nat → Int → Option Int
 | 0, _ => none
 | m + 1, x4 =>
  (bif (decide (x4 < (a0.length : Int))) then (((idx a0 x4).bind fun v5 => (a1 k v5)).bind fun o7 =>
        (bif o7 then (some x4) else
        (D6 k a0 a1 K0 m (Go.IntKind.wrap .i64 (x4 + 1))))) else
    (K0 x4))
def N7 : Nat → ((List a6)) → (Nat → a6 → Option Bool) → Option Int
 | 0, _, _ => none
 | k + 1, a0, a1 =>
  (D6 k a0 a1 (fun y8 =>
   (some (-1))) k 0)
def B1 : Nat → ((List a6)) → (Nat → a6 → Option Bool) → Option Bool
 | 0, _, _ => none
 | k + 1, a0, a1 =>
  (((N7 k a0 a1).bind fun v1 => (some ((decide (v1 ≥ 0))))).bind fun o2 =>
   (some o2))
def ao : Nat → (i4) → (Str) → Option Bool
 | 0, _, _ => none
 | k + 1, a0, a1 =>
  (some (a0.fName == a1))
def aS : Nat → (b8) → (Str) → Option (Int × Bool)
 | 0, _, _ => none
 | k + 1, a0, a1 =>
  ((C6 k a0.fFields (fun j x0 => (ao j x0 a1))).bind fun o2 =>
   (some (o2, (decide (o2 ≥ 0)))))
def bm : Nat → (b8) → (a6) → Option Bool
 | 0, _, _ => none
 | k + 1, a0, a1 =>
  (((aS k a0 a1.fField).bind fun v1 => (some (v1.1, v1.2))).bind fun o2 =>
   ((bif o2.2 then (bif (decide (a1.fOp ≥ 1)) then (bif (decide (a1.fOp ≤ 6)) then ((idx a0.fFields o2.1).bind fun v3 => (some (((a1.fValue.length : Int) == v3.fBytes)))) else (some (false))) else (some (false))) else (some (false))).bind fun o4 =>
   (some o4)))
def O7 : Nat → (a6) → (b8) → Option Bool
 | 0, _, _ => none
 | k + 1, a0, a1 =>
  (((bm k a1 a0).bind fun v1 => (some ((!v1)))).bind fun o2 =>
   (some o2))
def Q9 : Nat → ((List a6)) → (b8) → Option Bool
 | 0, _, _ => none
 | k + 1, a0, a1 =>
  ((bif (decide ((a0.length : Int) < 1)) then (some (true)) else (bif (decide ((a0.length : Int) > 4)) then (some (true)) else (B1 k a0 (fun j x0 => (O7 j x0 a1))))).bind fun o2 =>
   (some o2))
def T3 : Nat → (b8) → ((List (List a6))) → Option Bool
 | 0, _, _ => none
 | k + 1, a0, a1 =>
  ((bif (decide ((a1.length : Int) ≤ 4)) then ((A6 k a1 (fun j x0 => (Q9 j x0 a0))).bind fun v1 => (some ((!v1)))) else (some (false))).bind fun o2 =>
   (some o2))
def aR : Nat → (a8) → (Int) → ((List (List a6))) → Option (Bool × Int)
 | 0, _, _, _ => none
 | k + 1, a0, a1, a2 =>
  ((X9 k a0 a1).bind fun o2 =>
   (bif (o2 != 0) then (some (false, o2)) else
   (((idx a0.fTypes a1).bind fun v3 => ((T3 k v3 a2).bind fun v4 => (some (v4, 0)))).bind fun o5 =>
    (some (o5.1, o5.2)))))
def fi : Nat → (a8) → (Int) → (b7) → Option (Str × Int)
 | 0, _, _, _ => none
 | k + 1, a0, a1, a2 =>
  (((dX k a2.fCodes).bind fun v1 => (some ((!v1)))).bind fun o2 =>
   (bif o2 then (some (([65, 74] : Str), 0)) else
   (((cy k a0 a2.fSegment).bind fun v3 => (some (v3.1, v3.2))).bind fun o4 =>
    (bif (o4.2 != 0) then (some (([65, 67] : Str), 0)) else
    (bif (decide (a1 ≥ 0)) then (((cx k a0 a1 o4.1).bind fun v5 => (some (v5.1))).bind fun o6 =>
      (bif (!o6) then (some (([65, 67] : Str), 0)) else
      (((aR k a0 o4.1 a2.fWhen).bind fun v7 => (some (v7.1))).bind fun o8 =>
       (bif (!o8) then (some (([65, 75] : Str), 0)) else
       (some (([32, 32] : Str), o4.1)))))) else
     (((aR k a0 o4.1 a2.fWhen).bind fun v9 => (some (v9.1))).bind fun o10 =>
      (bif (!o10) then (some (([65, 75] : Str), 0)) else
      (some (([32, 32] : Str), o4.1)))))))))
def U3 (k : Nat) (a0 : a8) (a1 : (List b7))  (K0 : Int → (List Int) → Int → Option (Str × (List Int))) : Nat → Int → (List Int) → Int → Option (Str × (List Int))
 | 0, _, _, _ => none
 | m + 1, x7, x8, x9 =>
  (bif (decide (x9 < (a1.length : Int))) then ((idx a1 x9).bind fun o11 =>
        (((fi k a0 x7 o11).bind fun v12 => (some (v12.1, v12.2))).bind fun o13 =>
        (bif (!(o13.1 == ([32, 32] : Str))) then (some (o13.1, ([] : List Int))) else
        ((app x8 ([o13.2] : List Int)).bind fun o15 =>
         (U3 k a0 a1 K0 m o13.2 o15 (Go.IntKind.wrap .i64 (x9 + 1))))))) else
    (K0 x7 x8 x9))
def gt : Nat → (a8) → ((List b7)) → Option (Str × (List Int))
 | 0, _, _ => none
 | k + 1, a0, a1 =>
  (bif (decide ((a1.length : Int) > 5)) then (some (([65, 74] : Str), ([] : List Int))) else
   (U3 k a0 a1 (fun y16 y17 y18 =>
    (some (([32, 32] : Str), y17))) k (-1) ([] : List Int) 0))
def cg : Nat → (a8) → ((List b7)) → Option ((List Int) × Int)
 | 0, _, _ => none
 | k + 1, a0, a1 =>
  (((bK k a0).bind fun v1 => (some ((!v1)))).bind fun o2 =>
   (bif o2 then (some (([] : List Int), 100)) else
   (((gt k a0 a1).bind fun v3 => (some (v3.1, v3.2))).bind fun o4 =>
    (bif (!(o4.1 == ([32, 32] : Str))) then (some (([] : List Int), 2)) else
    (some (o4.2, 0))))))
def strings_Repeat : Nat → Str → Int → Option Str
 | 0, _, _ => none
 | _ + 1, s, n => wv s n
def C4 (k : Nat) (a0 : (List (List (List a6)))) (a1 : Nat → (List (List a6)) → Option Bool) (K0 : Int → Option Int) : Nat → Int → Option Int
 | 0, _ => none
 | m + 1, x4 =>
  (bif (decide (x4 < (a0.length : Int))) then (((idx a0 x4).bind fun v5 => (a1 k v5)).bind fun o7 =>
        (bif o7 then (some x4) else
        (C4 k a0 a1 K0 m (Go.IntKind.wrap .i64 (x4 + 1))))) else
    (K0 x4))
def I6 : Nat → ((List (List (List a6)))) → (Nat → (List (List a6)) → Option Bool) → Option Int
 | 0, _, _ => none
 | k + 1, a0, a1 =>
  (C4 k a0 a1 (fun y8 =>
   (some (-1))) k 0)
def z7 : Nat → ((List (List (List a6)))) → (Nat → (List (List a6)) → Option Bool) → Option Bool
 | 0, _, _ => none
 | k + 1, a0, a1 =>
  (((I6 k a0 a1).bind fun v1 => (some ((decide (v1 ≥ 0))))).bind fun o2 =>
   (some o2))
def H1 : Nat → ((List (List a6))) → (b8) → Option Bool
 | 0, _, _ => none
 | k + 1, a0, a1 =>
  (((T3 k a1 a0).bind fun v1 => (some ((!v1)))).bind fun o2 =>
   (some o2))
def L4 : Nat → (a8) → (Int) → ((List (List (List a6)))) → Option (b8 × Int)
 | 0, _, _, _ => none
 | k + 1, a0, a1, a2 =>
  ((X9 k a0 a1).bind fun o2 =>
   (bif (o2 != 0) then (some (({ fName := [], fParent := 0, fMin := 0, fSize := 0, fFields := ([] : List i4), fKey := 0, fUnique := false, fLast := false } : b8), o2)) else
   ((idx a0.fTypes a1).bind fun o4 =>
    ((z7 k a2 (fun j x0 => (H1 j x0 o4))).bind fun o6 =>
    (bif o6 then (some (({ fName := [], fParent := 0, fMin := 0, fSize := 0, fFields := ([] : List i4), fKey := 0, fUnique := false, fLast := false } : b8), 110)) else
    (some (o4, 0)))))))
def aM : Nat → (Int) → Option Str
 | 0, _ => none
 | k + 1, a0 =>
  ((idx ([({ e0 := ([61, 32] : Str), e1 := ([60, 62] : Str), e2 := ([60, 32] : Str), e3 := ([60, 61] : Str), e4 := ([62, 32] : Str), e5 := ([62, 61] : Str) } : E5).e0, ({ e0 := ([61, 32] : Str), e1 := ([60, 62] : Str), e2 := ([60, 32] : Str), e3 := ([60, 61] : Str), e4 := ([62, 32] : Str), e5 := ([62, 61] : Str) } : E5).e1, ({ e0 := ([61, 32] : Str), e1 := ([60, 62] : Str), e2 := ([60, 32] : Str), e3 := ([60, 61] : Str), e4 := ([62, 32] : Str), e5 := ([62, 61] : Str) } : E5).e2, ({ e0 := ([61, 32] : Str), e1 := ([60, 62] : Str), e2 := ([60, 32] : Str), e3 := ([60, 61] : Str), e4 := ([62, 32] : Str), e5 := ([62, 61] : Str) } : E5).e3, ({ e0 := ([61, 32] : Str), e1 := ([60, 62] : Str), e2 := ([60, 32] : Str), e3 := ([60, 61] : Str), e4 := ([62, 32] : Str), e5 := ([62, 61] : Str) } : E5).e4, ({ e0 := ([61, 32] : Str), e1 := ([60, 62] : Str), e2 := ([60, 32] : Str), e3 := ([60, 61] : Str), e4 := ([62, 32] : Str), e5 := ([62, 61] : Str) } : E5).e5] : List Str) (Go.IntKind.wrap .i64 (a0 - 1))).bind fun o2 =>
   (some o2))
def strings_Join : Nat → List Str → Str → Option Str
 | 0, _, _ => none
 | _ + 1, s, n => jN s n
def J0 (k : Nat) (o33 : (List a6))  (K0 : Int → (List Str) → Option (Str × Int)) : Nat → Int → (List Str) → Option (Str × Int)
 | 0, _, _ => none
 | m + 1, x43, x44 =>
  (bif (decide (x43 < (o33.length : Int))) then ((idx o33 x43).bind fun o46 =>
        (((strings_Repeat k ([32] : Str) (Go.IntKind.wrap .i64 (8 - (o46.fField.length : Int)))).bind fun v47 => ((cat o46.fField v47).bind fun v48 => ((aM k o46.fOp).bind fun v49 => ((cat v48 v49).bind fun v50 => ((cat v50 o46.fValue).bind fun v51 => (app x44 ([v51] : List Str))))))).bind fun o53 =>
        (J0 k o33 K0 m (Go.IntKind.wrap .i64 (x43 + 1)) o53))) else
    (K0 x43 x44))
def G4 (k : Nat) (a2 : (List (List a6)))  (K0 : (List Str) → Int → Option (Str × Int)) : Nat → (List Str) → Int → Option (Str × Int)
 | 0, _, _ => none
 | m + 1, x30, x31 =>
  (bif (decide (x31 < (a2.length : Int))) then ((idx a2 x31).bind fun o33 =>
        (J0 k o33 (fun y54 y55 =>
        (((strings_Join k y55 ([38] : Str)).bind fun v56 => (app x30 ([v56] : List Str))).bind fun o58 =>
         (G4 k a2 K0 m o58 (Go.IntKind.wrap .i64 (x31 + 1))))) k 0 ([] : List Str))) else
    (K0 x30 x31))
def F7 : Nat → (a8) → (Int) → ((List (List a6))) → Option (Str × Int)
 | 0, _, _, _ => none
 | k + 1, a0, a1, a2 =>
  (((L4 k a0 a1 ([a2] : List (List (List a6)))).bind fun v1 => (some (v1.2))).bind fun o2 =>
   (bif (o2 != 0) then (some (([] : Str), o2)) else
   (G4 k a2 (fun y59 y60 =>
    (((strings_Join k y59 ([124] : Str)).bind fun v61 => (some (v61, 0))).bind fun o62 =>
     (some (o62.1, o62.2)))) k ([] : List Str) 0)))
def z8 : Nat → (a8) → (b7) → Option (Str × Int)
 | 0, _, _ => none
 | k + 1, a0, a1 =>
  (((cg k a0 ([a1] : List b7)).bind fun v1 => (some (v1.1, v1.2))).bind fun o2 =>
   (bif (o2.2 != 0) then (some (([] : Str), o2.2)) else
   (((strings_Repeat k ([32] : Str) (Go.IntKind.wrap .i64 (8 - (a1.fSegment.length : Int)))).bind fun v3 => (cat a1.fSegment v3)).bind fun o5 =>
    (bif (!(a1.fCodes == ([] : Str))) then (((cat ([42] : Str) a1.fCodes).bind fun v6 => (cat o5 v6)).bind fun o8 =>
     (bif ((a1.fWhen.length : Int) == 0) then (((cat o8 ([32] : Str)).bind fun v9 => (some (v9, 0))).bind fun o10 =>
      (some (o10.1, o10.2))) else
     (((idx o2.1 0).bind fun v11 => ((F7 k a0 v11 a1.fWhen).bind fun v12 => (some (v12.2, v12.1)))).bind fun o13 =>
      (bif (o13.1 != 0) then (some (([] : Str), o13.1)) else
      (((cat o8 ([40] : Str)).bind fun v14 => ((cat v14 o13.2).bind fun v15 => ((cat v15 ([41] : Str)).bind fun v16 => (some (v16, 0))))).bind fun o17 =>
       (some (o17.1, o17.2))))))) else
    (bif ((a1.fWhen.length : Int) == 0) then (((cat o5 ([32] : Str)).bind fun v18 => (some (v18, 0))).bind fun o19 =>
      (some (o19.1, o19.2))) else
     (((idx o2.1 0).bind fun v20 => ((F7 k a0 v20 a1.fWhen).bind fun v21 => (some (v21.2, v21.1)))).bind fun o22 =>
      (bif (o22.1 != 0) then (some (([] : Str), o22.1)) else
      (((cat o5 ([40] : Str)).bind fun v23 => ((cat v23 o22.2).bind fun v24 => ((cat v24 ([41] : Str)).bind fun v25 => (some (v25, 0))))).bind fun o26 =>
       (some (o26.1, o26.2))))))))))
def P4 : Nat → Option Bool
 | 0 => none
 | k + 1 =>
  (((bP k).bind fun v1 => ((z8 k v1 ({ fSegment := ([79, 82, 68, 69, 82] : Str), fCodes := ([68] : Str), fWhen := ([([({ fField := ([79, 82, 68, 78, 79] : Str), fOp := 1, fValue := ([48, 48, 48, 53] : Str) } : a6)] : List a6)] : List (List a6)) } : b7)).bind fun v2 => (some (v2.1, v2.2)))).bind fun o3 =>
   (((bP k).bind fun v4 => ((z8 k v4 ({ fSegment := ([67, 85, 83, 84] : Str), fCodes := [], fWhen := ([] : List (List a6)) } : b7)).bind fun v5 => (some (v5.1, v5.2)))).bind fun o6 =>
   ((bif (o3.2 == 0) then (bif (o6.2 == 0) then (bif (o3.1 == ([79, 82, 68, 69, 82, 32, 32, 32, 42, 68, 40, 79, 82, 68, 78, 79, 32, 32, 32, 61, 32, 48, 48, 48, 53, 41] : Str)) then (some ((o6.1 == ([67, 85, 83, 84, 32, 32, 32, 32, 32] : Str)))) else (some (false))) else (some (false))) else (some (false))).bind fun o7 =>
   (some o7))))
def O9 (a0 : Str)  (K0 : Int → Option Bool) : Nat → Int → Option Bool
 | 0, _ => none
 | m + 1, x7 =>
  (bif (decide (x7 < (a0.length : Int))) then (((J5 a0 x7).bind fun v8 => (bif (decide (v8 ≥ 65)) then ((J5 a0 x7).bind fun v9 => (some ((decide (v9 ≤ 90))))) else (some (false)))).bind fun o10 =>
        ((bif (!o10) then (bif (x7 == 0) then (some (true)) else ((J5 a0 x7).bind fun v11 => (bif (decide (v11 < 48)) then (some (true)) else ((J5 a0 x7).bind fun v12 => (some ((decide (v12 > 57)))))))) else (some (false))).bind fun o13 =>
        (bif o13 then (some false) else
        (O9 a0 K0 m (Go.IntKind.wrap .i64 (x7 + 1)))))) else
    (K0 x7))
def K3 : Nat → (Str) → Option Bool
 | 0, _ => none
 | k + 1, a0 =>
  (O9 a0 (fun y14 =>
   ((bif (decide ((a0.length : Int) ≥ 1)) then (some ((decide ((a0.length : Int) ≤ 8)))) else (some (false))).bind fun o15 =>
    (some o15))) k 0)
def G5 (a0 : b8) (x11 : Int) (o13 : i4)  (K0 : Int → Option Bool) : Nat → Int → Option Bool
 | 0, _ => none
 | m + 1, x18 =>
  (bif (decide (x18 < x11)) then (((idx a0.fFields x18).bind fun v19 => (some ((v19.fName == o13.fName)))).bind fun o20 =>
        (bif o20 then (some false) else
        (G5 a0 x11 o13 K0 m (Go.IntKind.wrap .i64 (x18 + 1))))) else
    (K0 x18))
def J1 (k : Nat) (a0 : b8)  (K0 : Int → Option Bool) : Nat → Int → Option Bool
 | 0, _ => none
 | m + 1, x11 =>
  (bif (decide (x11 < (a0.fFields.length : Int))) then ((idx a0.fFields x11).bind fun o13 =>
        (((K3 k o13.fName).bind fun v14 => (bif (!v14) then (some (true)) else (bif (decide (o13.fAt < 0)) then (some (true)) else (bif (decide (o13.fAt > a0.fSize)) then (some (true)) else (bif (decide (o13.fBytes < 1)) then (some (true)) else (some ((decide (o13.fBytes > (Go.IntKind.wrap .i64 (a0.fSize - o13.fAt))))))))))).bind fun o15 =>
        (bif o15 then (some false) else
        (G5 a0 x11 o13 (fun y21 =>
         (J1 k a0 K0 m (Go.IntKind.wrap .i64 (x11 + 1)))) k 0)))) else
    (K0 x11))
def bt : Nat → (b8) → Option Bool
 | 0, _ => none
 | k + 1, a0 =>
  (J1 k a0 (fun y22 =>
   ((bif (decide (a0.fKey < (-1))) then (some (true)) else (bif (decide (a0.fKey ≥ (a0.fFields.length : Int))) then (some (true)) else (bif (decide (a0.fKey < 0)) then (some (a0.fUnique)) else (some (false))))).bind fun o23 =>
    (bif o23 then (some false) else
    ((bif (decide ((a0.fFields.length : Int) ≤ 5)) then (bif (decide (a0.fKey < 0)) then (some (true)) else ((idx a0.fFields a0.fKey).bind fun v24 => ((idx a0.fFields a0.fKey).bind fun v25 => (some ((decide ((Go.IntKind.wrap .i64 (v24.fAt + v25.fBytes)) ≤ a0.fMin))))))) else (some (false))).bind fun o26 =>
     (some o26))))) k 0)
def S7 (a0 : a8) (a1 : Int)  (K0 : Int → Option Bool) : Nat → Int → Option Bool
 | 0, _ => none
 | m + 1, x5 =>
  (bif (decide (x5 ≥ 0)) then (bif (x5 == a1) then (some true) else
        (((idx a0.fTypes x5).bind fun v6 => (some (v6.fParent))).bind fun o7 =>
         (S7 a0 a1 K0 m o7))) else
    (K0 x5))
def aU : Nat → (a8) → (Int) → (Int) → Option Bool
 | 0, _, _, _ => none
 | k + 1, a0, a1, a2 =>
  (((idx a0.fTypes a2).bind fun v1 => (some (v1.fParent))).bind fun o2 =>
   (S7 a0 a1 (fun y8 =>
   (some false)) k o2))
def U1 (a0 : a8)  (K0 : Int → (List Int) → Option (List Int)) : Nat → Int → (List Int) → Option (List Int)
 | 0, _, _ => none
 | m + 1, x5, x6 =>
  (bif (decide (x5 ≥ 0)) then ((app ([x5] : List Int) x6).bind fun o8 =>
        (((idx a0.fTypes x5).bind fun v9 => (some (v9.fParent))).bind fun o10 =>
        (U1 a0 K0 m o10 o8))) else
    (K0 x5 x6))
def eg : Nat → (a8) → (Int) → Option (List Int)
 | 0, _, _ => none
 | k + 1, a0, a1 =>
  (U1 a0 (fun y11 y12 =>
   (some y12)) k a1 ([] : List Int))
def I1 (a0 : a8) (x20 : Int) (o22 : b8)  (K0 : Int → Option Bool) : Nat → Int → Option Bool
 | 0, _ => none
 | m + 1, x28 =>
  (bif (decide (x28 < x20)) then (((idx a0.fTypes x28).bind fun v29 => (some ((v29.fName == o22.fName)))).bind fun o30 =>
        (bif o30 then (some false) else
        (I1 a0 x20 o22 K0 m (Go.IntKind.wrap .i64 (x28 + 1))))) else
    (K0 x28))
def F8 (k : Nat) (a0 : a8)  (K0 : Int → Option Bool) : Nat → Int → Option Bool
 | 0, _ => none
 | m + 1, x20 =>
  (bif (decide (x20 < (a0.fTypes.length : Int))) then ((idx a0.fTypes x20).bind fun o22 =>
        (((K3 k o22.fName).bind fun v23 => (bif (!v23) then (some (true)) else (bif (decide (o22.fMin < 1)) then (some (true)) else (bif (decide (o22.fMin > o22.fSize)) then (some (true)) else (bif (decide (o22.fSize > 40)) then (some (true)) else ((bt k o22).bind fun v24 => (some ((!v24))))))))).bind fun o25 =>
        (bif o25 then (some false) else
        (I1 a0 x20 o22 (fun y31 =>
         (bif (x20 == 0) then ((bif (o22.fParent != (-1)) then (some (true)) else (bif (decide (o22.fKey < 0)) then (some (true)) else (bif (!o22.fUnique) then (some (true)) else ((idx o22.fFields o22.fKey).bind fun v32 => (some ((decide (v32.fBytes > 24)))))))).bind fun o33 =>
           (bif o33 then (some false) else
           (F8 k a0 K0 m (Go.IntKind.wrap .i64 (x20 + 1))))) else
          ((bif (decide (o22.fParent < 0)) then (some (true)) else (bif (decide (o22.fParent ≥ x20)) then (some (true)) else (bif (o22.fParent != (Go.IntKind.wrap .i64 (x20 - 1))) then ((aU k a0 o22.fParent (Go.IntKind.wrap .i64 (x20 - 1))).bind fun v34 => (bif (!v34) then (some (true)) else ((eg k a0 x20).bind fun v35 => (some ((decide ((v35.length : Int) > 5))))))) else ((eg k a0 x20).bind fun v36 => (some ((decide ((v36.length : Int) > 5)))))))).bind fun o37 =>
           (bif o37 then (some false) else
           (F8 k a0 K0 m (Go.IntKind.wrap .i64 (x20 + 1))))))) k 0)))) else
    (K0 x20))
def I3 (a0 : a8) (x52 : Int) (o54 : j1)  (K0 : Int → Option Bool) : Nat → Int → Option Bool
 | 0, _ => none
 | m + 1, x62 =>
  (bif (decide (x62 < x52)) then (((idx a0.fIndexes x62).bind fun v63 => (some ((v63.fName == o54.fName)))).bind fun o64 =>
        (bif o64 then (some false) else
        (I3 a0 x52 o54 K0 m (Go.IntKind.wrap .i64 (x62 + 1))))) else
    (K0 x62))
def I2 (k : Nat) (a0 : a8)  (K0 : Int → Option Bool) : Nat → Int → Option Bool
 | 0, _ => none
 | m + 1, x52 =>
  (bif (decide (x52 < (a0.fIndexes.length : Int))) then ((idx a0.fIndexes x52).bind fun o54 =>
        (((K3 k o54.fName).bind fun v55 => (bif (!v55) then (some (true)) else (bif (decide (o54.fType < 0)) then (some (true)) else (bif (decide (o54.fType ≥ (a0.fTypes.length : Int))) then (some (true)) else (bif (decide (o54.fField < 0)) then (some (true)) else ((idx a0.fTypes o54.fType).bind fun v56 => (bif (decide (o54.fField ≥ (v56.fFields.length : Int))) then (some (true)) else ((idx a0.fTypes o54.fType).bind fun v57 => ((idx v57.fFields o54.fField).bind fun v58 => (bif (decide (v58.fBytes > 20)) then (some (true)) else (some ((decide ((o54.fSparse.length : Int) > 1)))))))))))))).bind fun o59 =>
        (bif o59 then (some false) else
        (I3 a0 x52 o54 (fun y65 =>
         (I2 k a0 K0 m (Go.IntKind.wrap .i64 (x52 + 1)))) k 0)))) else
    (K0 x52))
def T4 : Nat → (a8) → Option Bool
 | 0, _ => none
 | k + 1, a0 =>
  (((K3 k a0.fName).bind fun v1 => (bif (!v1) then (some (true)) else (bif (decide (a0.fKind < 1)) then (some (true)) else (bif (decide (a0.fKind > 4)) then (some (true)) else (bif (decide ((a0.fTypes.length : Int) < 1)) then (some (true)) else (bif (decide ((a0.fTypes.length : Int) > 8)) then (some (true)) else (some ((decide ((a0.fIndexes.length : Int) > 3)))))))))).bind fun o2 =>
   (bif o2 then (some false) else
   (F8 k a0 (fun y38 =>
    (I2 k a0 (fun y66 =>
     (some true)) k 0)) k 0)))
def L7 (a0 : Str) (x10 : Int)  (K0 : Int → Option Bool) : Nat → Int → Option Bool
 | 0, _ => none
 | m + 1, x14 =>
  ((bif (decide (x14 < 3)) then ((J5 ([68, 76, 80] : Str) x14).bind fun v15 => ((J5 a0 x10).bind fun v16 => (some ((v15 != v16))))) else (some (false))).bind fun o17 =>
    (bif o17 then (L7 a0 x10 K0 m (Go.IntKind.wrap .i64 (x14 + 1))) else
    (K0 x14)))
def H4 (k : Nat) (a0 : Str)  (K0 : Int → Int → Option Bool) : Nat → Int → Int → Option Bool
 | 0, _, _ => none
 | m + 1, x9, x10 =>
  (bif (decide (x10 < (a0.length : Int))) then (L7 a0 x10 (fun y18 =>
        (bif (y18 == 3) then (some false) else
         (H4 k a0 K0 m (Go.IntKind.wrap .i64 (y18 + 1)) (Go.IntKind.wrap .i64 (x10 + 1))))) k x9) else
    (K0 x9 x10))
def au : Nat → (Str) → Option Bool
 | 0, _ => none
 | k + 1, a0 =>
  (H4 k a0 (fun y19 y20 =>
   (some true)) k 0 0)
def bu : Nat → (a8) → (Int) → Option Bool
 | 0, _, _ => none
 | k + 1, a0, a1 =>
  ((bif (decide (a1 ≥ 0)) then (some ((decide (a1 < (a0.fTypes.length : Int))))) else (some (false))).bind fun o1 =>
   (some o1))
def N0 (k : Nat) (a0 : a8) (a1 : (List Int))  (K0 : Int → Option Int) : Nat → Int → Option Int
 | 0, _ => none
 | m + 1, x6 =>
  (bif (decide (x6 < (a1.length : Int))) then (((idx a1 x6).bind fun v7 => ((bu k a0 v7).bind fun v8 => (some ((!v8))))).bind fun o9 =>
        (bif o9 then (some 2) else
        (N0 k a0 a1 K0 m (Go.IntKind.wrap .i64 (x6 + 1))))) else
    (K0 x6))
def Y1 : Nat → (a8) → ((List Int)) → Option Int
 | 0, _, _ => none
 | k + 1, a0, a1 =>
  (((T4 k a0).bind fun v1 => (some ((!v1)))).bind fun o2 =>
   (bif o2 then (some 100) else
   (N0 k a0 a1 (fun y10 =>
    (some 0)) k 0)))
def R2 (a0 : a8) (a1 : Str)  (K0 : Int → Option (Int × Int)) : Nat → Int → Option (Int × Int)
 | 0, _ => none
 | m + 1, x5 =>
  (bif (decide (x5 < (a0.fTypes.length : Int))) then (((idx a0.fTypes x5).bind fun v6 => (some ((v6.fName == a1)))).bind fun o7 =>
        (bif o7 then (some (x5, 0)) else
        (R2 a0 a1 K0 m (Go.IntKind.wrap .i64 (x5 + 1))))) else
    (K0 x5))
def M9 : Nat → (a8) → (Str) → Option (Int × Int)
 | 0, _, _ => none
 | k + 1, a0, a1 =>
  ((Y1 k a0 ([] : List Int)).bind fun o2 =>
   (bif (o2 != 0) then (some (0, o2)) else
   (R2 a0 a1 (fun y8 =>
    (some (0, 5))) k 0)))
def ar : Nat → (a8) → (Int) → (Int) → Option (Bool × Int)
 | 0, _, _, _ => none
 | k + 1, a0, a1, a2 =>
  ((Y1 k a0 ([a1, a2] : List Int)).bind fun o2 =>
   (bif (o2 != 0) then (some (false, o2)) else
   (((aU k a0 a1 a2).bind fun v3 => (some (v3, 0))).bind fun o4 =>
    (some (o4.1, o4.2)))))
def ac : Nat → (a8) → (Int) → Option Int
 | 0, _, _ => none
 | k + 1, a0, a1 =>
  (((T4 k a0).bind fun v1 => (some ((!v1)))).bind fun o2 =>
   (bif o2 then (some 100) else
   ((bif (decide (a1 < 0)) then (some (true)) else (some ((decide (a1 ≥ (a0.fTypes.length : Int)))))).bind fun o3 =>
    (bif o3 then (some 2) else
    (some 0)))))
def M8 (a0 : a8) (a1 : Int) (a2 : Str)  (K0 : Int → Option (Int × Int)) : Nat → Int → Option (Int × Int)
 | 0, _ => none
 | m + 1, x8 =>
  (((idx a0.fTypes a1).bind fun v9 => (some ((decide (x8 < (v9.fFields.length : Int)))))).bind fun o10 =>
    (bif o10 then (((idx a0.fTypes a1).bind fun v11 => ((idx v11.fFields x8).bind fun v12 => (some ((v12.fName == a2))))).bind fun o13 =>
     (bif o13 then (some (x8, 0)) else
     (M8 a0 a1 a2 K0 m (Go.IntKind.wrap .i64 (x8 + 1))))) else
    (K0 x8)))
def cJ : Nat → (a8) → (Int) → (Str) → Option (Int × Int)
 | 0, _, _, _ => none
 | k + 1, a0, a1, a2 =>
  ((Y1 k a0 ([a1] : List Int)).bind fun o2 =>
   (bif (o2 != 0) then (some (0, o2)) else
   (M8 a0 a1 a2 (fun y14 =>
    (some (0, 5))) k 0)))
def Z9 : Nat → (a8) → (Int) → (a6) → Option Bool
 | 0, _, _, _ => none
 | k + 1, a0, a1, a2 =>
  (((cJ k a0 a1 a2.fField).bind fun v1 => (some (v1.1, v1.2))).bind fun o2 =>
   ((bif (o2.2 == 0) then (bif (decide (a2.fOp ≥ 1)) then (bif (decide (a2.fOp ≤ 6)) then ((idx a0.fTypes a1).bind fun v3 => ((idx v3.fFields o2.1).bind fun v4 => (some (((a2.fValue.length : Int) == v4.fBytes))))) else (some (false))) else (some (false))) else (some (false))).bind fun o5 =>
   (some o5)))
def A3 (k : Nat) (a0 : a8) (a1 : Int) (a2 : (List (List a6))) (x18 : Int)  (K0 : Int → Option Bool) : Nat → Int → Option Bool
 | 0, _ => none
 | m + 1, x28 =>
  (((idx a2 x18).bind fun v29 => (some ((decide (x28 < (v29.length : Int)))))).bind fun o30 =>
    (bif o30 then (((idx a2 x18).bind fun v31 => ((idx v31 x28).bind fun v32 => ((Z9 k a0 a1 v32).bind fun v33 => (some ((!v33)))))).bind fun o34 =>
     (bif o34 then (some false) else
     (A3 k a0 a1 a2 x18 K0 m (Go.IntKind.wrap .i64 (x28 + 1))))) else
    (K0 x28)))
def C0 (k : Nat) (a0 : a8) (a1 : Int) (a2 : (List (List a6)))  (K0 : Int → Option Bool) : Nat → Int → Option Bool
 | 0, _ => none
 | m + 1, x18 =>
  (bif (decide (x18 < (a2.length : Int))) then (((idx a2 x18).bind fun v19 => (bif (decide ((v19.length : Int) < 1)) then (some (true)) else ((idx a2 x18).bind fun v20 => (some ((decide ((v20.length : Int) > 4))))))).bind fun o21 =>
        (bif o21 then (some false) else
        (A3 k a0 a1 a2 x18 (fun y35 =>
         (C0 k a0 a1 a2 K0 m (Go.IntKind.wrap .i64 (x18 + 1)))) k 0))) else
    (K0 x18))
def B3 : Nat → (a8) → (Int) → ((List (List a6))) → Option Bool
 | 0, _, _, _ => none
 | k + 1, a0, a1, a2 =>
  (C0 k a0 a1 a2 (fun y36 =>
   (some (decide ((a2.length : Int) ≤ 4)))) k 0)
def aV : Nat → (a8) → (Int) → ((List (List a6))) → Option (Bool × Int)
 | 0, _, _, _ => none
 | k + 1, a0, a1, a2 =>
  ((ac k a0 a1).bind fun o2 =>
   (bif (o2 != 0) then (some (false, o2)) else
   (((B3 k a0 a1 a2).bind fun v3 => (some (v3, 0))).bind fun o4 =>
    (some (o4.1, o4.2)))))
def ae : Nat → (a8) → (Int) → (b7) → Option Str
 | 0, _, _, _ => none
 | k + 1, a0, a1, a2 =>
  (((au k a2.fCodes).bind fun v1 => (some ((!v1)))).bind fun o2 =>
   (bif o2 then (some ([65, 74] : Str)) else
   (((M9 k a0 a2.fSegment).bind fun v3 => (some (v3.1, v3.2))).bind fun o4 =>
    (bif (o4.2 != 0) then (some ([65, 67] : Str)) else
    (bif (decide (a1 ≥ 0)) then (((ar k a0 a1 o4.1).bind fun v5 => (some (v5.1, v5.2))).bind fun o6 =>
      ((bif (o6.2 != 0) then (some (true)) else (some ((!o6.1)))).bind fun o7 =>
      (bif o7 then (some ([65, 67] : Str)) else
      (((aV k a0 o4.1 a2.fWhen).bind fun v8 => (some (v8.1, v8.2))).bind fun o9 =>
       ((bif (o9.2 != 0) then (some (true)) else (some ((!o9.1)))).bind fun o10 =>
       (bif o10 then (some ([65, 75] : Str)) else
       (some ([32, 32] : Str)))))))) else
     (((aV k a0 o4.1 a2.fWhen).bind fun v11 => (some (v11.1, v11.2))).bind fun o12 =>
      ((bif (o12.2 != 0) then (some (true)) else (some ((!o12.1)))).bind fun o13 =>
      (bif o13 then (some ([65, 75] : Str)) else
      (some ([32, 32] : Str))))))))))
def N3 (k : Nat) (a0 : a8) (a1 : (List b7))  (K0 : Int → Int → Option (Str × Int)) : Nat → Int → Int → Option (Str × Int)
 | 0, _, _ => none
 | m + 1, x9, x10 =>
  (bif (decide (x10 < (a1.length : Int))) then (((idx a1 x10).bind fun v11 => (ae k a0 x9 v11)).bind fun o13 =>
        (bif (!(o13 == ([32, 32] : Str))) then (some (o13, 0)) else
        (((idx a1 x10).bind fun v14 => ((M9 k a0 v14.fSegment).bind fun v15 => (some (v15.1)))).bind fun o16 =>
         (N3 k a0 a1 K0 m o16 (Go.IntKind.wrap .i64 (x10 + 1)))))) else
    (K0 x9 x10))
def cP : Nat → (a8) → ((List b7)) → Option (Str × Int)
 | 0, _, _ => none
 | k + 1, a0, a1 =>
  (((T4 k a0).bind fun v1 => (some ((!v1)))).bind fun o2 =>
   (bif o2 then (some (([] : Str), 100)) else
   (bif (decide ((a1.length : Int) > 5)) then (some (([65, 74] : Str), 0)) else
    (N3 k a0 a1 (fun y17 y18 =>
     (some (([32, 32] : Str), 0))) k (-1) 0))))
def bz (k : Nat) (a0 : a8) (a1 : (List b7))  (K0 : (List Int) → Int → Option ((List Int) × Int)) : Nat → (List Int) → Int → Option ((List Int) × Int)
 | 0, _, _ => none
 | m + 1, x9, x10 =>
  (bif (decide (x10 < (a1.length : Int))) then (((idx a1 x10).bind fun v11 => ((M9 k a0 v11.fSegment).bind fun v12 => (some (v12.1)))).bind fun o13 =>
        ((app x9 ([o13] : List Int)).bind fun o15 =>
        (bz k a0 a1 K0 m o15 (Go.IntKind.wrap .i64 (x10 + 1))))) else
    (K0 x9 x10))
def N4 (k : Nat) (a0 : a8) (a1 : (List b7))  (K0 : (List Int) → Int → Option ((List Int) × Int)) : Nat → (List Int) → Int → Option ((List Int) × Int)
 | 0, _, _ => none
 | m + 1, x23, x24 =>
  (bif (decide (x24 < (a1.length : Int))) then (((idx a1 x24).bind fun v25 => ((M9 k a0 v25.fSegment).bind fun v26 => (some (v26.1)))).bind fun o27 =>
        ((app x23 ([o27] : List Int)).bind fun o29 =>
        (N4 k a0 a1 K0 m o29 (Go.IntKind.wrap .i64 (x24 + 1))))) else
    (K0 x23 x24))
def cS : Nat → (a8) → ((List b7)) → Option ((List Int) × Int)
 | 0, _, _ => none
 | k + 1, a0, a1 =>
  (((cP k a0 a1).bind fun v1 => (some (v1.1, v1.2))).bind fun o2 =>
   ((bif (o2.2 == 0) then (some ((!(o2.1 == ([32, 32] : Str))))) else (some (false))).bind fun o3 =>
   (bif o3 then (bif ((2 : Int) != 0) then (some (([] : List Int), 2)) else
    (bz k a0 a1 (fun y16 y17 =>
     (some (y16, 0))) k ([] : List Int) 0)) else
   (bif (o2.2 != 0) then (some (([] : List Int), o2.2)) else
    (N4 k a0 a1 (fun y30 y31 =>
     (some (y30, 0))) k ([] : List Int) 0)))))
def J2   (K0 : Str → Option Str) : Nat → Str → Option Str
 | 0, _ => none
 | m + 1, x3 =>
  (bif (decide ((x3.length : Int) < 8)) then ((cat x3 ([32] : Str)).bind fun o5 =>
        (J2 K0 m o5)) else
    (K0 x3))
def A7 : Nat → (Str) → Option Str
 | 0, _ => none
 | k + 1, a0 =>
  (J2 (fun y6 =>
   (some y6)) k a0)
def cM : Nat → (a8) → (Int) → ((List (List a6))) → ((List (List a6))) → Option Int
 | 0, _, _, _, _ => none
 | k + 1, a0, a1, a2, a3 =>
  ((ac k a0 a1).bind fun o2 =>
   ((bif (o2 == 0) then ((B3 k a0 a1 a2).bind fun v3 => (bif (!v3) then (some (true)) else ((B3 k a0 a1 a3).bind fun v4 => (some ((!v4)))))) else (some (false))).bind fun o5 =>
   (bif o5 then (some 110) else
   (some o2))))
def H3 : Nat → (Int) → Option Str
 | 0, _ => none
 | k + 1, a0 =>
  (bif (a0 == 1) then (some ([61, 32] : Str)) else
   (bif (a0 == 2) then (some ([60, 62] : Str)) else
    (bif (a0 == 3) then (some ([60, 32] : Str)) else
     (bif (a0 == 4) then (some ([60, 61] : Str)) else
      (bif (a0 == 5) then (some ([62, 32] : Str)) else
       (some ([62, 61] : Str)))))))
def w4 (k : Nat) (a0 : (List (List a6))) (x124 : Int)  (K0 : Str → Int → Option Str) : Nat → Str → Int → Option Str
 | 0, _, _ => none
 | m + 1, x155, x156 =>
  (((idx a0 x124).bind fun v157 => (some ((decide (x156 < (v157.length : Int)))))).bind fun o158 =>
    (bif o158 then (bif (decide (x156 > 0)) then ((cat x155 ([38] : Str)).bind fun o160 =>
      (((idx a0 x124).bind fun v161 => ((idx v161 x156).bind fun v162 => ((A7 k v162.fField).bind fun v163 => ((idx a0 x124).bind fun v164 => ((idx v164 x156).bind fun v165 => ((H3 k v165.fOp).bind fun v166 => ((cat v163 v166).bind fun v167 => ((idx a0 x124).bind fun v168 => ((idx v168 x156).bind fun v169 => ((cat v167 v169.fValue).bind fun v170 => (cat o160 v170))))))))))).bind fun o172 =>
      (w4 k a0 x124 K0 m o172 (Go.IntKind.wrap .i64 (x156 + 1))))) else
     (((idx a0 x124).bind fun v173 => ((idx v173 x156).bind fun v174 => ((A7 k v174.fField).bind fun v175 => ((idx a0 x124).bind fun v176 => ((idx v176 x156).bind fun v177 => ((H3 k v177.fOp).bind fun v178 => ((cat v175 v178).bind fun v179 => ((idx a0 x124).bind fun v180 => ((idx v180 x156).bind fun v181 => ((cat v179 v181.fValue).bind fun v182 => (cat x155 v182))))))))))).bind fun o184 =>
      (w4 k a0 x124 K0 m o184 (Go.IntKind.wrap .i64 (x156 + 1))))) else
    (K0 x155 x156)))
def J3 (k : Nat) (a0 : (List (List a6))) (x124 : Int)  (K0 : Str → Int → Option Str) : Nat → Str → Int → Option Str
 | 0, _, _ => none
 | m + 1, x215, x216 =>
  (((idx a0 x124).bind fun v217 => (some ((decide (x216 < (v217.length : Int)))))).bind fun o218 =>
    (bif o218 then (bif (decide (x216 > 0)) then ((cat x215 ([38] : Str)).bind fun o220 =>
      (((idx a0 x124).bind fun v221 => ((idx v221 x216).bind fun v222 => ((A7 k v222.fField).bind fun v223 => ((idx a0 x124).bind fun v224 => ((idx v224 x216).bind fun v225 => ((H3 k v225.fOp).bind fun v226 => ((cat v223 v226).bind fun v227 => ((idx a0 x124).bind fun v228 => ((idx v228 x216).bind fun v229 => ((cat v227 v229.fValue).bind fun v230 => (cat o220 v230))))))))))).bind fun o232 =>
      (J3 k a0 x124 K0 m o232 (Go.IntKind.wrap .i64 (x216 + 1))))) else
     (((idx a0 x124).bind fun v233 => ((idx v233 x216).bind fun v234 => ((A7 k v234.fField).bind fun v235 => ((idx a0 x124).bind fun v236 => ((idx v236 x216).bind fun v237 => ((H3 k v237.fOp).bind fun v238 => ((cat v235 v238).bind fun v239 => ((idx a0 x124).bind fun v240 => ((idx v240 x216).bind fun v241 => ((cat v239 v241.fValue).bind fun v242 => (cat x215 v242))))))))))).bind fun o244 =>
      (J3 k a0 x124 K0 m o244 (Go.IntKind.wrap .i64 (x216 + 1))))) else
    (K0 x215 x216)))
def A9 (k : Nat) (a0 : (List (List a6)))  (K0 : Str → Int → Option Str) : Nat → Str → Int → Option Str
 | 0, _, _ => none
 | m + 1, x123, x124 =>
  (bif (decide (x124 < (a0.length : Int))) then (bif (decide (x124 > 0)) then ((cat x123 ([124] : Str)).bind fun o126 =>
      (w4 k a0 x124 (fun y185 y186 =>
      (A9 k a0 K0 m y185 (Go.IntKind.wrap .i64 (x124 + 1)))) k o126 0)) else
        (J3 k a0 x124 (fun y245 y246 =>
         (A9 k a0 K0 m y245 (Go.IntKind.wrap .i64 (x124 + 1)))) k x123 0)) else
    (K0 x123 x124))
def bw : Nat → ((List (List a6))) → Option Str
 | 0, _ => none
 | k + 1, a0 =>
  (A9 k a0 (fun y247 y248 =>
   (some y247)) k ([] : Str) 0)
def K4 : Nat → (a8) → (Int) → ((List (List a6))) → Option (Str × Int)
 | 0, _, _, _ => none
 | k + 1, a0, a1, a2 =>
  ((cM k a0 a1 a2 ([] : List (List a6))).bind fun o2 =>
   (bif (o2 != 0) then (some (([] : Str), o2)) else
   (((bw k a2).bind fun v3 => (some (v3, 0))).bind fun o4 =>
    (some (o4.1, o4.2)))))
def bx : Nat → (a8) → (b7) → Option (Str × Int)
 | 0, _, _ => none
 | k + 1, a0, a1 =>
  (((cS k a0 ([a1] : List b7)).bind fun v1 => (some (v1.1, v1.2))).bind fun o2 =>
   (bif (o2.2 != 0) then (some (([] : Str), o2.2)) else
   ((A7 k a1.fSegment).bind fun o4 =>
    (bif (!(a1.fCodes == ([] : Str))) then (((cat ([42] : Str) a1.fCodes).bind fun v5 => (cat o4 v5)).bind fun o7 =>
     (bif ((a1.fWhen.length : Int) == 0) then (((cat o7 ([32] : Str)).bind fun v8 => (some (v8, 0))).bind fun o9 =>
      (some (o9.1, o9.2))) else
     (((idx o2.1 0).bind fun v10 => ((K4 k a0 v10 a1.fWhen).bind fun v11 => (some (v11.1)))).bind fun o12 =>
      (((cat o7 ([40] : Str)).bind fun v13 => ((cat v13 o12).bind fun v14 => ((cat v14 ([41] : Str)).bind fun v15 => (some (v15, 0))))).bind fun o16 =>
      (some (o16.1, o16.2)))))) else
    (bif ((a1.fWhen.length : Int) == 0) then (((cat o4 ([32] : Str)).bind fun v17 => (some (v17, 0))).bind fun o18 =>
      (some (o18.1, o18.2))) else
     (((idx o2.1 0).bind fun v19 => ((K4 k a0 v19 a1.fWhen).bind fun v20 => (some (v20.1)))).bind fun o21 =>
      (((cat o4 ([40] : Str)).bind fun v22 => ((cat v22 o21).bind fun v23 => ((cat v23 ([41] : Str)).bind fun v24 => (some (v24, 0))))).bind fun o25 =>
      (some (o25.1, o25.2)))))))))
def G2 : Nat → Str → Str → Option Str
 | 0, _, _ => none
 | _ + 1, s, n => ru s n
def H8 (k : Nat) (a1 : Str)  (K0 : Int → Option (a6 × Str × Bool)) : Nat → Int → Option (a6 × Str × Bool)
 | 0, _ => none
 | m + 1, x7 =>
  ((bif (decide (x7 ≤ 6)) then ((aM k x7).bind fun v8 => ((cut a1 8 10).bind fun v9 => (some ((!(v8 == v9)))))) else (some (false))).bind fun o10 =>
    (bif o10 then (H8 k a1 K0 m (Go.IntKind.wrap .i64 (x7 + 1))) else
    (K0 x7)))
def eK : Nat → (b8) → (Str) → Option (a6 × Str × Bool)
 | 0, _, _ => none
 | k + 1, a0, a1 =>
  (bif (decide ((a1.length : Int) < 10)) then (some (({ fField := [], fOp := 0, fValue := [] } : a6), ([] : Str), false)) else
   (((cut a1 0 8).bind fun v1 => (G2 k v1 ([32] : Str))).bind fun o3 =>
    (H8 k a1 (fun y11 =>
    (((aS k a0 o3).bind fun v12 => (some (v12.1, v12.2))).bind fun o13 =>
     ((bif (!o13.2) then (some (true)) else (some ((decide (y11 > 6))))).bind fun o14 =>
     (bif o14 then (some (({ fField := [], fOp := 0, fValue := [] } : a6), ([] : Str), false)) else
     ((cut a1 10 (a1.length : Int)).bind fun o16 =>
      (((idx a0.fFields o13.1).bind fun v17 => (some (v17.fBytes))).bind fun o18 =>
      (bif (decide ((o16.length : Int) < o18)) then (some (({ fField := [], fOp := 0, fValue := [] } : a6), ([] : Str), false)) else
      ((cut o16 0 o18).bind fun o20 =>
       (((cut o16 o18 (o16.length : Int)).bind fun v21 => (some (v21, true, ({ fField := o3, fOp := y11, fValue := o20 } : a6)))).bind fun o22 =>
       (some (o22.2.2, o22.1, o22.2.1))))))))))) k 1)))
def M5 (k : Nat) (a0 : a8) (a1 : Int)  (K0 : Str → (List (List a6)) → Option ((List (List a6)) × Int)) : Nat → Str → (List (List a6)) → Option ((List (List a6)) × Int)
 | 0, _, _ => none
 | m + 1, x20, x21 =>
  (((idx a0.fTypes a1).bind fun v22 => ((eK k v22 x20).bind fun v23 => (some (v23.2.1, v23.2.2, v23.1)))).bind fun o24 =>
    (bif (!o24.2.1) then (some (([] : List (List a6)), 3)) else
    (((inB x21.length (Go.IntKind.wrap .i64 ((x21.length : Int) - 1))).bind fun v25 => ((x21[0 + (Go.IntKind.wrap .i64 ((x21.length : Int) - 1)).toNat]?).bind fun v26 => ((app v26 ([o24.2.2] : List a6)).bind fun v27 => ((inB x21.length (Go.IntKind.wrap .i64 ((x21.length : Int) - 1))).bind fun v28 => ((x21[0 + (Go.IntKind.wrap .i64 ((x21.length : Int) - 1)).toNat]?).bind fun v29 => (some ((x21.set (0 + (Go.IntKind.wrap .i64 ((x21.length : Int) - 1)).toNat) v27)))))))).bind fun o30 =>
     (bif (o24.1 == ([] : Str)) then (K0 o24.1 o30) else
     ((J5 o24.1 0).bind fun o32 =>
      (bif (o32 == 38) then ((cut o24.1 1 (o24.1.length : Int)).bind fun o34 =>
       (M5 k a0 a1 K0 m o34 o30)) else
      (bif (o32 == 124) then ((app o30 ([([] : List a6)] : List (List a6))).bind fun o36 =>
        ((cut o24.1 1 (o24.1.length : Int)).bind fun o38 =>
        (M5 k a0 a1 K0 m o38 o36))) else
       (some (([] : List (List a6)), 3)))))))))
def P6 : Nat → (a8) → (Int) → (Str) → Option ((List (List a6)) × Int)
 | 0, _, _, _ => none
 | k + 1, a0, a1, a2 =>
  ((X9 k a0 a1).bind fun o2 =>
   (bif (o2 != 0) then (some (([] : List (List a6)), o2)) else
   (bif (a2 == ([] : Str)) then (some (([] : List (List a6)), 0)) else
    (M5 k a0 a1 (fun y39 y40 =>
     (((idx a0.fTypes a1).bind fun v41 => ((T3 k v41 y40).bind fun v42 => (some ((!v42))))).bind fun o43 =>
      (bif o43 then (some (([] : List (List a6)), 3)) else
      (some (y40, 0))))) k a2 ([([] : List a6)] : List (List a6))))))
def Q3 (k : Nat) (o5 : Str)  (K0 : Int → Option (b7 × Bool)) : Nat → Int → Option (b7 × Bool)
 | 0, _ => none
 | m + 1, x11 =>
  ((bif (decide (x11 < (o5.length : Int))) then ((J5 o5 x11).bind fun v12 => ((strings_IndexByte k ([68, 76, 80] : Str) v12).bind fun v13 => (some ((decide (v13 ≥ 0)))))) else (some (false))).bind fun o14 =>
    (bif o14 then (Q3 k o5 K0 m (Go.IntKind.wrap .i64 (x11 + 1))) else
    (K0 x11)))
def gu : Nat → (a8) → (Str) → Option (b7 × Bool)
 | 0, _, _ => none
 | k + 1, a0, a1 =>
  (bif (decide ((a1.length : Int) ≤ 8)) then (some (({ fSegment := [], fCodes := [], fWhen := ([] : List (List a6)) } : b7), false)) else
   (((cut a1 0 8).bind fun v1 => ((G2 k v1 ([32] : Str)).bind fun v2 => (some (({ fSegment := v2, fCodes := [], fWhen := ([] : List (List a6)) } : b7))))).bind fun o3 =>
    ((cut a1 8 (a1.length : Int)).bind fun o5 =>
    (((J5 o5 0).bind fun v6 => (some ((v6 == 42)))).bind fun o7 =>
    (bif o7 then (Q3 k o5 (fun y15 =>
     (((cut o5 1 y15).bind fun v16 => (some ({ o3 with fCodes := v16 }))).bind fun o17 =>
      ((cut o5 y15 (o5.length : Int)).bind fun o19 =>
      (((cy k a0 o17.fSegment).bind fun v20 => (some (v20.1, v20.2))).bind fun o21 =>
      (bif (o21.2 != 0) then (some (({ fSegment := [], fCodes := [], fWhen := ([] : List (List a6)) } : b7), false)) else
      ((bif (decide ((o19.length : Int) > 2)) then ((J5 o19 0).bind fun v22 => (bif (v22 == 40) then ((J5 o19 (Go.IntKind.wrap .i64 ((o19.length : Int) - 1))).bind fun v23 => (some ((v23 == 41)))) else (some (false)))) else (some (false))).bind fun o24 =>
       (bif o24 then (((cut o19 1 (Go.IntKind.wrap .i64 ((o19.length : Int) - 1))).bind fun v25 => ((P6 k a0 o21.1 v25).bind fun v26 => (some (v26.2, { o17 with fWhen := v26.1 })))).bind fun o27 =>
        (bif (o27.1 != 0) then (some (({ fSegment := [], fCodes := [], fWhen := ([] : List (List a6)) } : b7), false)) else
        (((z8 k a0 o27.2).bind fun v28 => (some (v28.2, v28.1))).bind fun o29 =>
         ((bif (o29.1 == 0) then (some ((o29.2 == a1), o27.2)) else (some (false, o27.2))).bind fun o30 =>
         (some (o30.2, o30.1)))))) else
       (((z8 k a0 o17).bind fun v31 => (some (v31.2, v31.1))).bind fun o32 =>
        ((bif (o32.1 == 0) then (some ((o32.2 == a1), o17)) else (some (false, o17))).bind fun o33 =>
        (some (o33.2, o33.1))))))))))) k 1) else
    (((cy k a0 o3.fSegment).bind fun v34 => (some (v34.1, v34.2))).bind fun o35 =>
     (bif (o35.2 != 0) then (some (({ fSegment := [], fCodes := [], fWhen := ([] : List (List a6)) } : b7), false)) else
     ((bif (decide ((o5.length : Int) > 2)) then ((J5 o5 0).bind fun v36 => (bif (v36 == 40) then ((J5 o5 (Go.IntKind.wrap .i64 ((o5.length : Int) - 1))).bind fun v37 => (some ((v37 == 41)))) else (some (false)))) else (some (false))).bind fun o38 =>
      (bif o38 then (((cut o5 1 (Go.IntKind.wrap .i64 ((o5.length : Int) - 1))).bind fun v39 => ((P6 k a0 o35.1 v39).bind fun v40 => (some (v40.2, { o3 with fWhen := v40.1 })))).bind fun o41 =>
       (bif (o41.1 != 0) then (some (({ fSegment := [], fCodes := [], fWhen := ([] : List (List a6)) } : b7), false)) else
       (((z8 k a0 o41.2).bind fun v42 => (some (v42.2, v42.1))).bind fun o43 =>
        ((bif (o43.1 == 0) then (some ((o43.2 == a1), o41.2)) else (some (false, o41.2))).bind fun o44 =>
        (some (o44.2, o44.1)))))) else
      (((z8 k a0 o3).bind fun v45 => (some (v45.2, v45.1))).bind fun o46 =>
       ((bif (o46.1 == 0) then (some ((o46.2 == a1), o3)) else (some (false, o3))).bind fun o47 =>
       (some (o47.2, o47.1)))))))))))))
def cf : Nat → (a8) → (Str) → Option (b7 × Int)
 | 0, _, _ => none
 | k + 1, a0, a1 =>
  (((bK k a0).bind fun v1 => (some ((!v1)))).bind fun o2 =>
   (bif o2 then (some (({ fSegment := [], fCodes := [], fWhen := ([] : List (List a6)) } : b7), 100)) else
   (((gu k a0 a1).bind fun v3 => (some (v3.2, v3.1))).bind fun o4 =>
    (bif (!o4.1) then (some (({ fSegment := [], fCodes := [], fWhen := ([] : List (List a6)) } : b7), 3)) else
    (some (o4.2, 0))))))
def F9 (k : Nat) (a2 : Str) (o31 : i4)  (K0 : Int → Option (a6 × Str × Bool)) : Nat → Int → Option (a6 × Str × Bool)
 | 0, _ => none
 | m + 1, x41 =>
  (bif (decide (x41 ≤ 6)) then (((A7 k o31.fName).bind fun v42 => ((H3 k x41).bind fun v43 => (cat v42 v43))).bind fun o45 =>
        ((bif (decide ((a2.length : Int) ≥ (Go.IntKind.wrap .i64 ((o45.length : Int) + o31.fBytes)))) then ((cut a2 0 (o45.length : Int)).bind fun v46 => (some ((v46 == o45)))) else (some (false))).bind fun o47 =>
        (bif o47 then (((cut a2 (o45.length : Int) (Go.IntKind.wrap .i64 ((o45.length : Int) + o31.fBytes))).bind fun v48 => ((cut a2 (Go.IntKind.wrap .i64 ((o45.length : Int) + o31.fBytes)) (a2.length : Int)).bind fun v49 => (some (v49, true, ({ fField := o31.fName, fOp := x41, fValue := v48 } : a6))))).bind fun o50 =>
         (some (o50.2.2, o50.1, o50.2.1))) else
        (F9 k a2 o31 K0 m (Go.IntKind.wrap .i64 (x41 + 1)))))) else
    (K0 x41))
def N2 (k : Nat) (a0 : a8) (a1 : Int) (a2 : Str)  (K0 : Int → Option (a6 × Str × Bool)) : Nat → Int → Option (a6 × Str × Bool)
 | 0, _ => none
 | m + 1, x26 =>
  (((idx a0.fTypes a1).bind fun v27 => (some ((decide (x26 < (v27.fFields.length : Int)))))).bind fun o28 =>
    (bif o28 then (((idx a0.fTypes a1).bind fun v29 => (idx v29.fFields x26)).bind fun o31 =>
     (F9 k a2 o31 (fun y51 =>
     (N2 k a0 a1 a2 K0 m (Go.IntKind.wrap .i64 (x26 + 1)))) k 1)) else
    (K0 x26)))
def cK : Nat → (a8) → (Int) → (Str) → Option (a6 × Str × Bool)
 | 0, _, _, _ => none
 | k + 1, a0, a1, a2 =>
  (N2 k a0 a1 a2 (fun y52 =>
   (some (({ fField := [], fOp := 0, fValue := [] } : a6), ([] : Str), false))) k 0)
def N1 (k : Nat) (a0 : a8) (a1 : Int)   : Nat → Str → (List a6) → (List (List a6)) → Option ((List (List a6)) × Str × Bool)
 | 0, _, _, _ => none
 | m + 1, x17, x18, x19 =>
  (((cK k a0 a1 x17).bind fun v20 => (some (v20.2.1, v20.2.2, v20.1))).bind fun o21 =>
    (bif (!o21.2.1) then (some (([] : List (List a6)), ([] : Str), false)) else
    ((app x18 ([o21.2.2] : List a6)).bind fun o23 =>
     ((bif (!(o21.1 == ([] : Str))) then ((J5 o21.1 0).bind fun v24 => (some ((v24 == 38)))) else (some (false))).bind fun o25 =>
     (bif o25 then ((cut o21.1 1 (o21.1.length : Int)).bind fun o27 =>
      (N1 k a0 a1 m o27 o23 x19)) else
     ((app x19 ([o23] : List (List a6))).bind fun o29 =>
      ((bif (o21.1 == ([] : Str)) then (some (true)) else ((J5 o21.1 0).bind fun v30 => (some ((v30 != 124))))).bind fun o31 =>
      (bif o31 then (((B3 k a0 a1 o29).bind fun v32 => (some (o29, o21.1, v32))).bind fun o33 =>
       (some (o33.1, o33.2.1, o33.2.2))) else
      ((cut o21.1 1 (o21.1.length : Int)).bind fun o35 =>
       (N1 k a0 a1 m o35 ([] : List a6) o29))))))))))
def P9 : Nat → (a8) → (Int) → (Str) → Option ((List (List a6)) × Str × Bool)
 | 0, _, _, _ => none
 | k + 1, a0, a1, a2 =>
  (N1 k a0 a1 k a2 ([] : List a6) ([] : List (List a6)))
def u3 (k : Nat) (a0 : a8) (a1 : Str)  (K0 : Int → Int → Option (b7 × Str × Bool)) : Nat → Int → Int → Option (b7 × Str × Bool)
 | 0, _, _ => none
 | m + 1, x6, x7 =>
  (bif (decide (x7 < (a0.fTypes.length : Int))) then (((idx a0.fTypes x7).bind fun v8 => (A7 k v8.fName)).bind fun o10 =>
        ((bif (decide ((a1.length : Int) > 8)) then ((cut a1 0 8).bind fun v11 => (some ((v11 == o10)))) else (some (false))).bind fun o12 =>
        (bif o12 then (u3 k a0 a1 K0 m x7 (Go.IntKind.wrap .i64 (x7 + 1))) else
        (u3 k a0 a1 K0 m x6 (Go.IntKind.wrap .i64 (x7 + 1)))))) else
    (K0 x6 x7))
def I4 (o18 : Str)  (K0 : Int → Option (b7 × Str × Bool)) : Nat → Int → Option (b7 × Str × Bool)
 | 0, _ => none
 | m + 1, x24 =>
  ((bif (decide (x24 < (o18.length : Int))) then ((J5 o18 x24).bind fun v25 => (bif (decide (v25 ≥ 65)) then ((J5 o18 x24).bind fun v26 => (some ((decide (v26 ≤ 90))))) else (some (false)))) else (some (false))).bind fun o27 =>
    (bif o27 then (I4 o18 K0 m (Go.IntKind.wrap .i64 (x24 + 1))) else
    (K0 x24)))
def cN : Nat → (a8) → (Str) → Option (b7 × Str × Bool)
 | 0, _, _ => none
 | k + 1, a0, a1 =>
  (u3 k a0 a1 (fun y13 y14 =>
   (bif (decide (y13 < 0)) then (some (({ fSegment := [], fCodes := [], fWhen := ([] : List (List a6)) } : b7), ([] : Str), false)) else
    (((idx a0.fTypes y13).bind fun v15 => (some (({ fSegment := v15.fName, fCodes := [], fWhen := ([] : List (List a6)) } : b7)))).bind fun o16 =>
     ((cut a1 8 (a1.length : Int)).bind fun o18 =>
     (((J5 o18 0).bind fun v19 => (some ((v19 == 42)))).bind fun o20 =>
     (bif o20 then (I4 o18 (fun y28 =>
      (((cut o18 1 y28).bind fun v29 => (some ({ o16 with fCodes := v29 }))).bind fun o30 =>
       ((cut o18 y28 (o18.length : Int)).bind fun o32 =>
       ((bif (o30.fCodes == ([] : Str)) then (some (true)) else ((au k o30.fCodes).bind fun v33 => (bif (!v33) then (some (true)) else (some ((o32 == ([] : Str))))))).bind fun o34 =>
       (bif o34 then (some (({ fSegment := [], fCodes := [], fWhen := ([] : List (List a6)) } : b7), ([] : Str), false)) else
       (((J5 o32 0).bind fun v35 => (some ((v35 == 32)))).bind fun o36 =>
        (bif o36 then (((cut o32 1 (o32.length : Int)).bind fun v37 => (some (v37, true, o30))).bind fun o38 =>
         (some (o38.2.2, o38.1, o38.2.1))) else
        (((cut o32 1 (o32.length : Int)).bind fun v39 => ((P9 k a0 y13 v39).bind fun v40 => (some (v40.1, v40.2.1, v40.2.2)))).bind fun o41 =>
         (((J5 o32 0).bind fun v42 => (bif (v42 != 40) then (some (true)) else (bif (!o41.2.2) then (some (true)) else (bif (o41.2.1 == ([] : Str)) then (some (true)) else ((J5 o41.2.1 0).bind fun v43 => (some ((v43 != 41)))))))).bind fun o44 =>
         (bif o44 then (some (({ fSegment := [], fCodes := [], fWhen := ([] : List (List a6)) } : b7), ([] : Str), false)) else
         (((cut o41.2.1 1 (o41.2.1.length : Int)).bind fun v45 => (some (v45, true, { o30 with fWhen := o41.1 }))).bind fun o46 =>
          (some (o46.2.2, o46.1, o46.2.1))))))))))))) k 1) else
     (((J5 o18 0).bind fun v47 => (some ((v47 == 32)))).bind fun o48 =>
      (bif o48 then (((cut o18 1 (o18.length : Int)).bind fun v49 => (some (v49, true, o16))).bind fun o50 =>
       (some (o50.2.2, o50.1, o50.2.1))) else
      (((cut o18 1 (o18.length : Int)).bind fun v51 => ((P9 k a0 y13 v51).bind fun v52 => (some (v52.1, v52.2.1, v52.2.2)))).bind fun o53 =>
       (((J5 o18 0).bind fun v54 => (bif (v54 != 40) then (some (true)) else (bif (!o53.2.2) then (some (true)) else (bif (o53.2.1 == ([] : Str)) then (some (true)) else ((J5 o53.2.1 0).bind fun v55 => (some ((v55 != 41)))))))).bind fun o56 =>
       (bif o56 then (some (({ fSegment := [], fCodes := [], fWhen := ([] : List (List a6)) } : b7), ([] : Str), false)) else
       (((cut o53.2.1 1 (o53.2.1.length : Int)).bind fun v57 => (some (v57, true, { o16 with fWhen := o53.1 }))).bind fun o58 =>
        (some (o58.2.2, o58.1, o58.2.1)))))))))))))) k (-1) 0)
def cQ : Nat → (a8) → (Str) → Option (b7 × Int)
 | 0, _, _ => none
 | k + 1, a0, a1 =>
  (((T4 k a0).bind fun v1 => (some ((!v1)))).bind fun o2 =>
   (bif o2 then (some (({ fSegment := [], fCodes := [], fWhen := ([] : List (List a6)) } : b7), 100)) else
   (((cN k a0 a1).bind fun v3 => (some (v3.2.1, v3.2.2, v3.1))).bind fun o4 =>
    ((bif (!o4.2.1) then (some (true)) else (some ((!(o4.1 == ([] : Str)))))).bind fun o5 =>
    (bif o5 then (some (({ fSegment := [], fCodes := [], fWhen := ([] : List (List a6)) } : b7), 3)) else
    (some (o4.2.2, 0)))))))
def L3 (a0 : (List (List a6))) (a1 : (List (List a6))) (x20 : Int)  (K0 : Int → Option Bool) : Nat → Int → Option Bool
 | 0, _ => none
 | m + 1, x31 =>
  (((idx a0 x20).bind fun v32 => (some ((decide (x31 < (v32.length : Int)))))).bind fun o33 =>
    (bif o33 then (((idx a0 x20).bind fun v34 => ((idx v34 x31).bind fun v35 => ((idx a1 x20).bind fun v36 => ((idx v36 x31).bind fun v37 => (some ((!(v35.fField == v37.fField && (v35.fOp == v37.fOp && (v35.fValue == v37.fValue && true)))))))))).bind fun o38 =>
     (bif o38 then (some false) else
     (L3 a0 a1 x20 K0 m (Go.IntKind.wrap .i64 (x31 + 1))))) else
    (K0 x31)))
def R3 (k : Nat) (a0 : (List (List a6))) (a1 : (List (List a6)))  (K0 : Int → Option Bool) : Nat → Int → Option Bool
 | 0, _ => none
 | m + 1, x20 =>
  (bif (decide (x20 < (a0.length : Int))) then (((idx a0 x20).bind fun v21 => ((idx a1 x20).bind fun v22 => (some (((v21.length : Int) != (v22.length : Int)))))).bind fun o23 =>
        (bif o23 then (some false) else
        (L3 a0 a1 x20 (fun y39 =>
         (R3 k a0 a1 K0 m (Go.IntKind.wrap .i64 (x20 + 1)))) k 0))) else
    (K0 x20))
def eR : Nat → ((List (List a6))) → ((List (List a6))) → Option Bool
 | 0, _, _ => none
 | k + 1, a0, a1 =>
  (bif ((a0.length : Int) != (a1.length : Int)) then (some false) else
   (R3 k a0 a1 (fun y40 =>
    (some true)) k 0))
def eU : Nat → (b7) → (b7) → Option Bool
 | 0, _, _ => none
 | k + 1, a0, a1 =>
  ((bif (a0.fSegment == a1.fSegment) then (bif (a0.fCodes == a1.fCodes) then (eR k a0.fWhen a1.fWhen) else (some (false))) else (some (false))).bind fun o2 =>
   (some o2))
def n9 (k : Nat) (a0 : (List (List a6))) (a1 : (List (List a6))) (a2 : Nat → (List a6) → (List a6) → Option Bool) (K0 : Int → Option Bool) : Nat → Int → Option Bool
 | 0, _ => none
 | m + 1, x7 =>
  (bif (decide (x7 < (a0.length : Int))) then (((idx a0 x7).bind fun v8 => (some (x7, v8))).bind fun o9 =>
        ((idx a1 o9.1).bind fun o11 =>
        (((a2 k o9.2 o11).bind fun v12 => (some ((!v12)))).bind fun o13 =>
        (bif o13 then (some false) else
        (n9 k a0 a1 a2 K0 m (Go.IntKind.wrap .i64 (x7 + 1))))))) else
    (K0 x7))
def G0 : Nat → ((List (List a6))) → ((List (List a6))) → (Nat → (List a6) → (List a6) → Option Bool) → Option Bool
 | 0, _, _, _ => none
 | k + 1, a0, a1, a2 =>
  (bif ((a0.length : Int) != (a1.length : Int)) then (some false) else
   (n9 k a0 a1 a2 (fun y14 =>
    (some true)) k 0))
def C2 (a0 : (List a6)) (a1 : (List a6))  (K0 : Int → Option Bool) : Nat → Int → Option Bool
 | 0, _ => none
 | m + 1, x4 =>
  (bif (decide (x4 < (a0.length : Int))) then (((idx a0 x4).bind fun v5 => ((idx a1 x4).bind fun v6 => (some ((!(v5.fField == v6.fField && (v5.fOp == v6.fOp && (v5.fValue == v6.fValue && true)))))))).bind fun o7 =>
        (bif o7 then (some false) else
        (C2 a0 a1 K0 m (Go.IntKind.wrap .i64 (x4 + 1))))) else
    (K0 x4))
def G1 : Nat → ((List a6)) → ((List a6)) → Option Bool
 | 0, _, _ => none
 | k + 1, a0, a1 =>
  (bif ((a0.length : Int) != (a1.length : Int)) then (some false) else
   (C2 a0 a1 (fun y8 =>
    (some true)) k 0))
def eJ : Nat → ((List (List a6))) → ((List (List a6))) → Option Bool
 | 0, _, _ => none
 | k + 1, a0, a1 =>
  ((G0 k a0 a1 (fun j x0 x1 => (G1 j x0 x1))).bind fun o2 =>
   (some o2))
def jl : Nat → (b7) → (b7) → Option Bool
 | 0, _, _ => none
 | k + 1, a0, a1 =>
  ((bif (a0.fSegment == a1.fSegment) then (bif (a0.fCodes == a1.fCodes) then (eJ k a0.fWhen a1.fWhen) else (some (false))) else (some (false))).bind fun o2 =>
   (some o2))
def X6 : Nat → (a8) → (b7) → (Str) → Option Bool
 | 0, _, _, _ => none
 | k + 1, a0, a1, a2 =>
  (((cG k a0).bind fun v1 => (bif v1 then (some (true)) else ((eG k ([a1] : List b7)).bind fun v2 => (bif v2 then (some (true)) else (some ((decide ((a2.length : Int) > 1000)))))))).bind fun o3 =>
   (bif o3 then ((P4 k).bind fun o5 =>
    (some o5)) else
   (((z8 k a0 a1).bind fun v6 => (some (v6.1, v6.2))).bind fun o7 =>
    (((bx k a0 a1).bind fun v8 => (some (v8.1, v8.2))).bind fun o9 =>
    (((cf k a0 a2).bind fun v10 => (some (v10.2, v10.1))).bind fun o11 =>
    (((cQ k a0 a2).bind fun v12 => (some (v12.2, v12.1))).bind fun o13 =>
    ((bif (!(o7.1 == o9.1)) then (some (true)) else (bif (o7.2 != o9.2) then (some (true)) else ((eU k o11.2 o13.2).bind fun v14 => (bif (!v14) then (some (true)) else (some ((o11.1 != o13.1))))))).bind fun o15 =>
    (bif o15 then (some false) else
    (bif (o7.2 == 0) then (((cf k a0 o7.1).bind fun v16 => (some (v16.2, v16.1))).bind fun o17 =>
      ((bif (o17.1 != 0) then (some (true)) else ((jl k o17.2 a1).bind fun v18 => (some ((!v18))))).bind fun o19 =>
      (bif o19 then (some false) else
      (bif (o11.1 == 0) then (((z8 k a0 o11.2).bind fun v20 => (some (v20.1, v20.2))).bind fun o21 =>
        ((bif (o21.2 != 0) then (some (true)) else (some ((!(o21.1 == a2))))).bind fun o22 =>
        (bif o22 then (some false) else
        ((P4 k).bind fun o24 =>
         (some o24))))) else
       ((P4 k).bind fun o26 =>
        (some o26)))))) else
     (bif (o11.1 == 0) then (((z8 k a0 o11.2).bind fun v20 => (some (v20.1, v20.2))).bind fun o27 =>
       ((bif (o27.2 != 0) then (some (true)) else (some ((!(o27.1 == a2))))).bind fun o28 =>
       (bif o28 then (some false) else
       ((P4 k).bind fun o29 =>
        (some o29))))) else
      ((P4 k).bind fun o30 =>
       (some o30))))))))))))
end Go.Sh
namespace Go.Sh
open Go.AE
set_option linter.unusedVariables false
theorem m0 : maxLen = 9223372036854775807 := rfl
theorem W7 {x : Int} (h : -9223372036854775808 ≤ x) (h' : x ≤ 9223372036854775807) : Go.IntKind.wrap .i64 x = x := IntWalk.i64_in x ⟨h, h'⟩
theorem m8 {i n : Nat} (h : i < n) (hn : n ≤ maxLen) : Go.IntKind.wrap .i64 ((i : Int) + 1) = ((i + 1 : Nat) : Int) := by
 rw [W7] <;> (try rw [m0] at hn) <;> omega
theorem p6 {α : Type} {l : List α} {i : Nat} (h : i < l.length) : idx l (i : Int) = some l[i] := by
 unfold idx
 rw [if_pos (by omega), Int.toNat_natCast, List.getElem?_eq_getElem h]
theorem bl {α : Type} {l : List α} {x : Int} (h0 : 0 ≤ x) (h : x < (l.length : Int)) : idx l x = some (l[x.toNat]'(by omega)) := by
 unfold idx
 rw [if_pos h0, List.getElem?_eq_getElem (by omega)]
theorem lk {l : List UInt8} {i : Nat} (h : i < l.length) : J5 l (i : Int) = some (l[i].toNat : Int) := by
 unfold J5
 rw [if_pos (by omega), Int.toNat_natCast, List.getElem?_eq_getElem h]
 rfl
theorem iH {α : Type} {l : List α} {i : Nat} (h : i ≤ l.length) : cut l 0 (i : Int) = some (l.take i) := by
 unfold cut
 rw [if_pos ⟨by omega, by omega, by omega⟩]
 simp
theorem bH {α : Type} {l m : List α} (h : l.length + m.length ≤ l4) : app l m = some (l ++ m) := by
 unfold app; rw [if_pos h]
def eX {β : Type} (g : Nat → Bool) (r : Nat → β) (z : β) : Nat → Nat → β
 | 0, _ => z
 | d + 1, i => bif g i then r i else eX g r z d (i + 1)
theorem mR {S β : Type} {n : Nat} {L : Nat → Int → S → β} {σ : Nat → S} {g : Nat → Bool} {r : Nat → β} {z : β}
  (hs : ∀ m i, i < n → (∀ j, j < i → g j = false) → L (m + 1) (i : Int) (σ i) = bif g i then r i else L m ((i + 1 : Nat) : Int) (σ (i + 1)))
  (he : ∀ m, (∀ j, j < n → g j = false) → L (m + 1) (n : Int) (σ n) = z) : ∀ d i m, i + d = n → (∀ j, j < i → g j = false) → d < m → L m (i : Int) (σ i) = eX g r z d i
 | 0, i, m, hd, hb, hm => by
  obtain ⟨m, rfl⟩ : ∃ q, m = q + 1 := ⟨m - 1, by omega⟩
  have : i = n := by omega
  subst this
  exact he m hb
 | d + 1, i, m, hd, hb, hm => by
  obtain ⟨m, rfl⟩ : ∃ q, m = q + 1 := ⟨m - 1, by omega⟩
  rw [hs m i (by omega) hb, eX]
  cases hg : g i with
  | true => rfl
  | false =>
   simp only [cond_false]
   refine mR hs he d (i + 1) m (by omega) (fun j hj => ?_) (by omega)
   by_cases e : j = i
   ·subst e; exact hg
   ·exact hb j (by omega)
theorem aQ {β : Type} {n : Nat} {L : Nat → Int → β} {g : Nat → Bool} {r : Nat → β} {z : β}
  (hs : ∀ m i, i < n → (∀ j, j < i → g j = false) → L (m + 1) (i : Int) = bif g i then r i else L m ((i + 1 : Nat) : Int))
  (he : ∀ m, (∀ j, j < n → g j = false) → L (m + 1) (n : Int) = z) {m : Nat} (hm : n < m) : L m 0 = eX g r z n 0 :=
 mR (S := Unit) (L := fun m x _ => L m x) (σ := fun _ => ()) hs he n 0 m (by omega) (fun j hj => by omega) hm
theorem HZ {S β : Type} {n : Nat} {L : Nat → Int → S → β} {σ : Nat → S} {g : Nat → Bool} {r : Nat → β} {z : β}
  (hs : ∀ m i, i < n → (∀ j, j < i → g j = false) → L (m + 1) (i : Int) (σ i) = bif g i then r i else L m ((i + 1 : Nat) : Int) (σ (i + 1)))
  (he : ∀ m, (∀ j, j < n → g j = false) → L (m + 1) (n : Int) (σ n) = z) {m : Nat} (hm : n < m) {s0 : S} (h0 : σ 0 = s0) : L m 0 s0 = eX g r z n 0 := by
 subst h0
 exact mR hs he n 0 m (by omega) (fun j hj => by omega) hm
theorem kI {β : Type} {g g' : Nat → Bool} {r r' : Nat → β} {z z' : β} : ∀ d i, (∀ j, i ≤ j → j < i + d → (∀ q, i ≤ q → q < j → g q = false) → g j = g' j ∧ (g j = true → r j = r' j)) → ((∀ q, i ≤ q → q < i + d → g q = false) → z = z') → eX g r z d i = eX g' r' z' d i
 | 0, i, h, hz => hz (fun q h1 h2 => by omega)
 | d + 1, i, h, hz => by
  obtain ⟨h1, h2⟩ := h i (Nat.le_refl i) (by omega) (fun q a b => by omega)
  simp only [eX]
  rw [← h1]
  cases hg : g i with
  | true => simp only [cond_true]; exact h2 hg
  | false =>
   simp only [cond_false]
   refine kI d (i + 1) (fun j a b hq => h j (by omega) (by omega) (fun q c e => ?_)) (fun hq => hz (fun q a b => ?_))
   ·by_cases e2 : q = i
    ·subst e2; exact hg
    ·exact hq q (by omega) e
   ·by_cases e2 : q = i
    ·subst e2; exact hg
    ·exact hq q (by omega) (by omega)
def W0 (g : Nat → Bool) (n : Nat) : Bool := eX g (fun _ => true) false n 0
theorem jh {β γ : Type} (f : β → γ) {g : Nat → Bool} {r : Nat → β} {z : β} : ∀ d i, f (eX g r z d i) = eX g (fun i => f (r i)) (f z) d i
 | 0, _ => rfl
 | d + 1, i => by
  simp only [eX]
  cases g i with
  | true => rfl
  | false => exact jh f d (i + 1)
theorem C1 {β : Type} {g : Nat → Bool} {r z : β} (n : Nat) : eX g (fun _ => r) z n 0 = bif W0 g n then r else z := by
 unfold W0
 have : ∀ d i, eX g (fun _ => r) z d i = bif eX g (fun _ => true) false d i then r else z := by
  intro d
  induction d with
  | zero => intro i; rfl
  | succ d ih =>
   intro i
   simp only [eX]
   cases g i with
   | true => rfl
   | false => exact ih (i + 1)
 exact this n 0
theorem eY {β : Type} {g : Nat → Bool} {r : Nat → β} {z : β} : ∀ d i, (∀ q, i ≤ q → q < i + d → g q = false) → eX g r z d i = z
 | 0, _, _ => rfl
 | d + 1, i, h => by
  simp only [eX, h i (Nat.le_refl i) (by omega), cond_false]
  exact eY d (i + 1) (fun q a b => h q (by omega) (by omega))
theorem gY {β : Type} (g : Nat → Bool) (r : Nat → β) (z : β) : ∀ d i, ((∀ q, i ≤ q → q < i + d → g q = false) ∧ eX g r z d i = z) ∨ ∃ j, i ≤ j ∧ j < i + d ∧ g j = true ∧ (∀ q, i ≤ q → q < j → g q = false) ∧ eX g r z d i = r j
 | 0, i => .inl ⟨fun q a b => by omega, rfl⟩
 | d + 1, i => by
  simp only [eX]
  cases hg : g i with
  | true => exact .inr ⟨i, Nat.le_refl i, by omega, hg, fun q a b => by omega, rfl⟩
  | false =>
   simp only [cond_false]
   rcases gY g r z d (i + 1) with ⟨h1, h2⟩ | ⟨j, h1, h2, h3, h4, h5⟩
   ·exact .inl ⟨fun q a b => by
     by_cases e : q = i
     ·subst e; exact hg
     ·exact h1 q (by omega) (by omega), h2⟩
   ·exact .inr ⟨j, by omega, by omega, h3, fun q a b => by
     by_cases e : q = i
     ·subst e; exact hg
     ·exact h4 q (by omega) b, h5⟩
theorem oB {g : Nat → Bool} {n : Nat} : W0 g n = true ↔ ∃ i, i < n ∧ g i = true := by
 unfold W0
 rcases gY g (fun _ => true) false n 0 with ⟨h1, h2⟩ | ⟨j, h1, h2, h3, h4, h5⟩
 ·rw [h2]
  exact ⟨fun h => absurd h (by simp), fun ⟨i, hi, hg⟩ => absurd hg (by rw [h1 i (by omega) (by omega)]; simp)⟩
 ·rw [h5]
  exact ⟨fun _ => ⟨j, by omega, h3⟩, fun _ => rfl⟩
theorem T6 {g : Nat → Bool} {n : Nat} : W0 g n = false ↔ ∀ i, i < n → g i = false := by
 constructor
 ·intro h i hi
  cases hg : g i with
  | false => rfl
  | true => rw [oB.2 ⟨i, hi, hg⟩] at h; cases h
 ·intro h
  cases ha : W0 g n with
  | false => rfl
  | true =>
   obtain ⟨i, hi, hg⟩ := oB.1 ha
   rw [h i hi] at hg; cases hg
theorem tX {g g' : Nat → Bool} {n : Nat} (h : ∀ i, i < n → (∀ j, j < i → g j = false) → g i = g' i) : W0 g n = W0 g' n :=
 kI n 0 (fun j _ hj hq => ⟨h j (by omega) (fun q hq' => hq q (by omega) hq'), fun _ => rfl⟩) (fun _ => rfl)
def at' {α : Type} (l : List α) (p : α → Bool) (i : Nat) : Bool := match l[i]? with | some x => p x | none => false
theorem u7 {α : Type} {l : List α} {p : α → Bool} {i : Nat} (h : i < l.length) : at' l p i = p l[i] := by
 unfold at'
 rw [List.getElem?_eq_getElem h]
theorem kP {α : Type} {l : List α} {p : α → Bool} : W0 (at' l p) l.length = l.any p := by
 cases h : l.any p with
 | true =>
  obtain ⟨x, hx, hp⟩ := List.any_eq_true.1 h
  obtain ⟨i, hi, rfl⟩ := List.getElem_of_mem hx
  exact oB.2 ⟨i, hi, by rw [u7 hi]; exact hp⟩
 | false =>
  rw [List.any_eq_false] at h
  refine T6.2 (fun i hi => ?_)
  rw [u7 hi]
  have := h _ (List.getElem_mem hi)
  simpa using this
def pos {α : Type} (l : List α) (p : α → Bool) : Int := eX (at' l p) (fun i => (i : Int)) (-1) l.length 0
theorem L6 {α : Type} (l : List α) (p : α → Bool) : ((∀ i (h : i < l.length), p l[i] = false) ∧ pos l p = -1) ∨ ∃ j, ∃ h : j < l.length, p l[j] = true ∧ (∀ i (h : i < l.length), i < j → p l[i] = false) ∧ pos l p = (j : Int) := by
 unfold pos
 rcases gY (at' l p) (fun i => (i : Int)) (-1) l.length 0 with ⟨h1, h2⟩ | ⟨j, h1, h2, h3, h4, h5⟩
 ·exact .inl ⟨fun i hi => by rw [← u7 (p := p) hi]; exact h1 i (by omega) (by omega), h2⟩
 ·refine .inr ⟨j, by omega, ?_, fun i hi hij => ?_, h5⟩
  ·rw [← u7 (p := p) (show j < l.length by omega)]; exact h3
  ·rw [← u7 (p := p) hi]; exact h4 i (by omega) hij
theorem fE {α : Type} (l : List α) (p : α → Bool) : decide (pos l p ≥ 0) = l.any p := by
 rcases L6 l p with ⟨h1, h2⟩ | ⟨j, h1, h2, h3, h4⟩
 ·rw [h2]
  have : l.any p = false := by
   rw [List.any_eq_false]
   intro x hx
   obtain ⟨i, hi, rfl⟩ := List.getElem_of_mem hx
   rw [h1 i hi]; simp
  rw [this]; rfl
 ·rw [h4]
  have : l.any p = true := List.any_eq_true.2 ⟨l[j], List.getElem_mem h1, h2⟩
  rw [this]
  simp
end Go.Sh

namespace Go.Sh
open Go.AE
set_option linter.unusedVariables false
set_option linter.unusedSimpArgs false
theorem i9 {k c : Nat} (h : c + 1 ≤ k) : ∃ q, k = q + 1 ∧ c ≤ q := ⟨k - 1, by omega, by omega⟩
def wP (s : Str) (i : Nat) : Bool := at' s (fun c => (!(decide ((c.toNat : Int) ≥ 65) && decide ((c.toNat : Int) ≤ 90))) && (((i : Int) == 0) || (decide ((c.toNat : Int) < 48) || decide ((c.toNat : Int) > 57)))) i
def D5 (s : Str) : Bool := !W0 (wP s) s.length && (decide ((s.length : Int) ≥ 1) && decide ((s.length : Int) ≤ 8))
theorem ez {k : Nat} {s : Str} (hk : maxLen + 2 ≤ k) (hs : wfS s) : T9 k s = some (D5 s) := by
 obtain ⟨k, rfl, hq⟩ := i9 hk
 unfold T9
 unfold wfS at hs
 refine Eq.trans (aQ (L := fun m x => H7 s _ m x) (n := s.length) (g := wP s) (r := fun _ => some false) (z := some (decide ((s.length : Int) ≥ 1) && decide ((s.length : Int) ≤ 8))) ?_ ?_ (by omega)) ?_
 rotate_left 2
 ·rw [C1]
  unfold D5
  cases W0 (wP s) s.length <;> rfl
 ·intro m i hi _
  simp only [H7, wP, u7 hi, lk hi, m8 hi hs, Option.bind_some, show decide ((i : Int) < (s.length : Int)) = true by simp; exact hi, cond_true]
  cases decide ((s[i].toNat : Int) ≥ 65) <;> cases decide ((s[i].toNat : Int) ≤ 90) <;> cases ((i : Int) == 0) <;> cases decide ((s[i].toNat : Int) < 48) <;> cases decide ((s[i].toNat : Int) > 57) <;> rfl
 ·intro m _
  simp only [H7, show decide ((s.length : Int) < (s.length : Int)) = false by simp, cond_false]
  cases decide ((s.length : Int) ≥ 1) <;> cases decide ((s.length : Int) ≤ 8) <;> rfl
theorem kA (a : Str) (K : Int → Option Bool) : ∀ m x, O9 a K m x = H7 a K m x := by
 intro m
 induction m with
 | zero => intro x; rfl
 | succ m ih => intro x; simp only [O9, H7, ih]
theorem dQ {k : Nat} {s : Str} (hk : maxLen + 2 ≤ k) (hs : wfS s) : K3 k s = some (D5 s) := by
 rw [← ez hk hs]
 cases k with
 | zero => rfl
 | succ k => simp only [K3, T9, kA]
theorem K8 {α : Type} {l : List α} {p : α → Bool} {f : α → Option Bool} (hp : ∀ x ∈ l, f x = some (p x)) {L : Nat → Int → Option Int} {K0 : Int → Option Int}
  (hL : ∀ m x, L (m + 1) x = (bif decide (x < (l.length : Int)) then (((idx l x).bind f).bind fun o => (bif o then (some x) else L m (Go.IntKind.wrap .i64 (x + 1)))) else K0 x))
  (hK : K0 (l.length : Int) = some (-1)) (hn : l.length ≤ maxLen) {m : Nat} (hm : l.length < m) : L m 0 = some (pos l p) := by
 refine Eq.trans (aQ (L := L) (n := l.length) (g := at' l p) (r := fun i => some (i : Int)) (z := some (-1)) ?_ ?_ hm) ?_
 rotate_left 2
 ·unfold pos
  rw [jh some]
 ·intro m i hi _
  rw [hL, u7 hi]
  simp only [show decide ((i : Int) < (l.length : Int)) = true by simp; exact hi, cond_true, p6 hi, Option.bind_some, hp _ (List.getElem_mem hi), m8 hi hn]
 ·intro m _
  rw [hL]
  simp only [show decide ((l.length : Int) < (l.length : Int)) = false by simp, cond_false, hK]
theorem ia {k : Nat} {l : List i4} {p : i4 → Bool} {f : Nat → i4 → Option Bool} (hk : l.length + 2 ≤ k) (hn : l.length ≤ maxLen) (hp : ∀ k', k' + 1 = k → ∀ x ∈ l, f k' x = some (p x)) : C6 k l f = some (pos l p) := by
 obtain ⟨k, rfl, hq⟩ := i9 hk
 exact K8 (hp k rfl) (L := fun m x => C8 k l f _ m x) (fun m x => rfl) rfl hn (by omega)
theorem iP {k : Nat} {l : List b8} {p : b8 → Bool} {f : Nat → b8 → Option Bool} (hk : l.length + 2 ≤ k) (hn : l.length ≤ maxLen) (hp : ∀ k', k' + 1 = k → ∀ x ∈ l, f k' x = some (p x)) : D4 k l f = some (pos l p) := by
 obtain ⟨k, rfl, hq⟩ := i9 hk
 exact K8 (hp k rfl) (L := fun m x => D7 k l f _ m x) (fun m x => rfl) rfl hn (by omega)
theorem mI {k : Nat} {l : List j1} {p : j1 → Bool} {f : Nat → j1 → Option Bool} (hk : l.length + 2 ≤ k) (hn : l.length ≤ maxLen) (hp : ∀ k', k' + 1 = k → ∀ x ∈ l, f k' x = some (p x)) : I5 k l f = some (pos l p) := by
 obtain ⟨k, rfl, hq⟩ := i9 hk
 exact K8 (hp k rfl) (L := fun m x => C3 k l f _ m x) (fun m x => rfl) rfl hn (by omega)
theorem qk {k : Nat} {l : List Int} {p : Int → Bool} {f : Nat → Int → Option Bool} (hk : l.length + 2 ≤ k) (hn : l.length ≤ maxLen) (hp : ∀ k', k' + 1 = k → ∀ x ∈ l, f k' x = some (p x)) : Q2 k l f = some (pos l p) := by
 obtain ⟨k, rfl, hq⟩ := i9 hk
 exact K8 (hp k rfl) (L := fun m x => E8 k l f _ m x) (fun m x => rfl) rfl hn (by omega)
theorem qM {k : Nat} {l : List Int} {y : Int} (hk : l.length + 2 ≤ k) (hn : l.length ≤ maxLen) : T0 k l y = some (pos l (fun x => y == x)) := by
 obtain ⟨k, rfl, hq⟩ := i9 hk
 exact K8 (f := fun x => some (y == x)) (fun x _ => rfl) (L := fun m x => J8 l y _ m x) (fun m x => rfl) rfl hn (by omega)
theorem jV {k : Nat} {l : List i4} {p : i4 → Bool} {f : Nat → i4 → Option Bool} (hk : l.length + 3 ≤ k) (hn : l.length ≤ maxLen) (hp : ∀ k', k' + 2 = k → ∀ x ∈ l, f k' x = some (p x)) : A5 k l f = some (l.any p) := by
 obtain ⟨k, rfl, hq⟩ := i9 hk
 simp only [A5, ia hq hn (fun k' e => hp k' (by omega)), Option.bind_some, fE]
theorem kX {k : Nat} {l : List b8} {p : b8 → Bool} {f : Nat → b8 → Option Bool} (hk : l.length + 3 ≤ k) (hn : l.length ≤ maxLen) (hp : ∀ k', k' + 2 = k → ∀ x ∈ l, f k' x = some (p x)) : B2 k l f = some (l.any p) := by
 obtain ⟨k, rfl, hq⟩ := i9 hk
 simp only [B2, iP hq hn (fun k' e => hp k' (by omega)), Option.bind_some, fE]
theorem jx {k : Nat} {l : List j1} {p : j1 → Bool} {f : Nat → j1 → Option Bool} (hk : l.length + 3 ≤ k) (hn : l.length ≤ maxLen) (hp : ∀ k', k' + 2 = k → ∀ x ∈ l, f k' x = some (p x)) : z6 k l f = some (l.any p) := by
 obtain ⟨k, rfl, hq⟩ := i9 hk
 simp only [z6, mI hq hn (fun k' e => hp k' (by omega)), Option.bind_some, fE]
theorem mt {k : Nat} {l : List Int} {p : Int → Bool} {f : Nat → Int → Option Bool} (hk : l.length + 3 ≤ k) (hn : l.length ≤ maxLen) (hp : ∀ k', k' + 2 = k → ∀ x ∈ l, f k' x = some (p x)) : B7 k l f = some (l.any p) := by
 obtain ⟨k, rfl, hq⟩ := i9 hk
 simp only [B7, qk hq hn (fun k' e => hp k' (by omega)), Option.bind_some, fE]
theorem mq {α : Type} {l : List α} {p : α → Bool} {i : Nat} (h : i ≤ l.length) : W0 (at' l p) i = (l.take i).any p := by
 rw [← kP]
 rw [List.length_take, Nat.min_eq_left h]
 refine tX (fun j hj _ => ?_)
 rw [u7 (by omega), u7 (by rw [List.length_take]; omega)]
 congr 1
 simp
def U4 (size : Int) (fs : List i4) (i : Nat) : Bool :=
 at' fs (fun f => ((!D5 f.fName) || (decide (f.fAt < 0) || (decide (f.fAt ≥ size) || (decide (f.fBytes < 1) || decide (f.fBytes > Go.IntKind.wrap .i64 (size - f.fAt)))))) || (fs.take i).any (fun g => g.fName == f.fName)) i
theorem jY {k : Nat} {fs : List i4} {size : Int} (hk : maxLen + 5 ≤ k) (hw : wfL bF fs) : al k fs size = some (!W0 (U4 size fs) fs.length && decide ((fs.length : Int) ≤ 5)) := by
 obtain ⟨k, rfl, hq⟩ := i9 hk
 unfold al
 obtain ⟨hl, hw⟩ := hw
 refine Eq.trans (aQ (L := fun m x => H0 k fs size _ m x) (n := fs.length) (g := U4 size fs) (r := fun _ => some false) (z := some (decide ((fs.length : Int) ≤ 5))) ?_ ?_ (by omega)) ?_
 rotate_left 2
 ·rw [C1]
  cases W0 (U4 size fs) fs.length <;> rfl
 ·intro m i hi _
  have h1 := hw _ (List.getElem_mem hi)
  have hc : A5 k (fs.take i) (fun j x0 => U5 j x0 fs[i]) = some ((fs.take i).any (fun g => g.fName == fs[i].fName)) := by
   refine jV (by rw [List.length_take]; omega) (by rw [List.length_take]; omega) (fun k' e x hx => ?_)
   obtain ⟨k', rfl, _⟩ := i9 (show 0 + 1 ≤ k' by omega)
   rfl
  simp only [H0, U4, u7 hi, p6 hi, m8 hi hl, Option.bind_some, show decide ((i : Int) < (fs.length : Int)) = true by simp; exact hi, cond_true, ez (show maxLen + 2 ≤ k by omega) h1.1, iH (show i ≤ fs.length by omega), hc]
  cases D5 fs[i].fName <;> cases decide (fs[i].fAt < 0) <;> cases decide (fs[i].fAt ≥ size) <;> cases decide (fs[i].fBytes < 1) <;> cases decide (fs[i].fBytes > Go.IntKind.wrap .i64 (size - fs[i].fAt)) <;> cases (fs.take i).any (fun g => g.fName == fs[i].fName) <;> rfl
 ·intro m _
  simp only [H0, show decide ((fs.length : Int) < (fs.length : Int)) = false by simp, cond_false]
def gO (t : b8) : Bool := match idx t.fFields t.fKey with | some f => decide ((Go.IntKind.wrap .i64 (f.fAt + f.fBytes)) ≤ t.fMin) | none => false
def eC (t : b8) : Bool := !W0 (U4 t.fSize t.fFields) t.fFields.length && decide ((t.fFields.length : Int) ≤ 5)
def lm (t : b8) : Bool := bif (t.fKey == (-1)) then !t.fUnique else !(decide (t.fKey < 0) || decide (t.fKey ≥ (t.fFields.length : Int))) && gO t
def A2 (t : b8) : Bool := !((!D5 t.fName) || (decide (t.fMin < 1) || (decide (t.fMin > t.fSize) || (decide (t.fSize > 40) || !eC t)))) && lm t
theorem nV {k : Nat} {t : b8} (hk : maxLen + 6 ≤ k) (hw : F0 t) : eA k t = some (A2 t) := by
 obtain ⟨k, rfl, hq⟩ := i9 hk
 obtain ⟨h1, _, _, _, h5, _⟩ := hw
 simp only [eA, ez (show maxLen + 2 ≤ k by omega) h1, jY (show maxLen + 5 ≤ k by omega) h5, Option.bind_some]
 unfold A2 eC lm gO
 generalize (!W0 (U4 t.fSize t.fFields) t.fFields.length && decide ((t.fFields.length : Int) ≤ 5)) = fo
 cases hx : idx t.fFields t.fKey with
 | none =>
  -- then the key is out of range
  have : decide (t.fKey < 0) = true ∨ decide (t.fKey ≥ (t.fFields.length : Int)) = true := by
   simp only [decide_eq_true_eq]
   by_cases h0 : t.fKey < 0
   ·exact .inl h0
   ·by_cases h2 : t.fKey ≥ (t.fFields.length : Int)
    ·exact .inr h2
    ·rw [bl (by omega) (by omega)] at hx; cases hx
  cases D5 t.fName <;> cases decide (t.fMin < 1) <;> cases decide (t.fMin > t.fSize) <;> cases decide (t.fSize > 40) <;> cases fo <;> try rfl
  rcases this with h | h
  ·rw [h]; cases (t.fKey == (-1)) <;> rfl
  ·rw [h]; cases (t.fKey == (-1)) <;> cases decide (t.fKey < 0) <;> rfl
 | some f =>
  simp only [Option.bind_some]
  cases D5 t.fName <;> cases decide (t.fMin < 1) <;> cases decide (t.fMin > t.fSize) <;> cases decide (t.fSize > 40) <;> cases fo <;> cases (t.fKey == (-1)) <;> cases decide (t.fKey < 0) <;> cases decide (t.fKey ≥ (t.fFields.length : Int)) <;> rfl
def gH (t : b8) : Bool := !W0 (U4 t.fSize t.fFields) t.fFields.length && (!(decide (t.fKey < (-1)) || (decide (t.fKey ≥ (t.fFields.length : Int)) || (decide (t.fKey < 0) && t.fUnique))) && (decide ((t.fFields.length : Int) ≤ 5) && (decide (t.fKey < 0) || gO t)))
theorem lT {k : Nat} {t : b8} (hk : maxLen + 5 ≤ k) (hw : F0 t) : bt k t = some (gH t) := by
 obtain ⟨k, rfl, hq⟩ := i9 hk
 unfold bt
 obtain ⟨_, _, _, _, ⟨hl, hw⟩, _⟩ := hw
 refine Eq.trans (aQ (L := fun m x => J1 k t _ m x) (n := t.fFields.length) (g := U4 t.fSize t.fFields) (r := fun _ => some false) (z := some (!(decide (t.fKey < (-1)) || (decide (t.fKey ≥ (t.fFields.length : Int)) || (decide (t.fKey < 0) && t.fUnique))) && (decide ((t.fFields.length : Int) ≤ 5) && (decide (t.fKey < 0) || gO t)))) ?_ ?_ (by omega)) ?_
 rotate_left 2
 ·rw [C1]
  unfold gH
  cases W0 (U4 t.fSize t.fFields) t.fFields.length <;> rfl
 ·intro m i hi _
  have h1 := hw _ (List.getElem_mem hi)
  simp only [J1, U4, u7 hi, p6 hi, m8 hi hl, Option.bind_some, show decide ((i : Int) < (t.fFields.length : Int)) = true by simp; exact hi, cond_true, dQ (show maxLen + 2 ≤ k by omega) h1.1]
  have hin : ∀ (K : Option Bool), G5 t (i : Int) t.fFields[i] (fun _ => K) k 0 = bif (t.fFields.take i).any (fun g => g.fName == t.fFields[i].fName) then some false else K := by
   intro K
   rw [← mq (show i ≤ t.fFields.length by omega)]
   refine Eq.trans (aQ (L := fun m x => G5 t (i : Int) t.fFields[i] _ m x) (n := i) (g := at' t.fFields (fun g => g.fName == t.fFields[i].fName)) (r := fun _ => some false) (z := K) ?_ ?_ (by omega)) (C1 i)
   ·intro m j hj _
    have hj' : j < t.fFields.length := by omega
    simp only [G5, u7 hj', p6 hj', m8 hj' hl, Option.bind_some, show decide ((j : Int) < (i : Int)) = true by simp; exact hj, cond_true]
   ·intro m _
    simp only [G5, show decide ((i : Int) < (i : Int)) = false by simp, cond_false]
  rw [hin]
  -- 'at' may be at the end in the reference: then no byte is left
  by_cases he : t.fFields[i].fAt = t.fSize
  ·have e1 : decide (t.fFields[i].fAt > t.fSize) = false := by simp; omega
   have e2 : decide (t.fFields[i].fAt ≥ t.fSize) = true := by simp; omega
   have e3 : Go.IntKind.wrap .i64 (t.fSize - t.fFields[i].fAt) = 0 := by rw [he, Int.sub_self]; rfl
   rw [e1, e2, e3]
   have e4 : (decide (t.fFields[i].fBytes < 1) || decide (t.fFields[i].fBytes > 0)) = true := by
    simp only [Bool.or_eq_true, decide_eq_true_eq]; omega
   cases D5 t.fFields[i].fName <;> cases decide (t.fFields[i].fAt < 0) <;> cases h : decide (t.fFields[i].fBytes < 1) <;> cases h' : decide (t.fFields[i].fBytes > 0) <;> first | rfl | (rw [h, h'] at e4; cases e4)
  ·have e1 : decide (t.fFields[i].fAt > t.fSize) = decide (t.fFields[i].fAt ≥ t.fSize) := by
    apply decide_eq_decide.2; omega
   rw [e1]
   cases D5 t.fFields[i].fName <;> cases decide (t.fFields[i].fAt < 0) <;> cases decide (t.fFields[i].fAt ≥ t.fSize) <;> cases decide (t.fFields[i].fBytes < 1) <;> cases decide (t.fFields[i].fBytes > Go.IntKind.wrap .i64 (t.fSize - t.fFields[i].fAt)) <;> rfl
 ·intro m _
  simp only [J1, show decide ((t.fFields.length : Int) < (t.fFields.length : Int)) = false by simp, cond_false]
  unfold gO
  cases hx : idx t.fFields t.fKey with
  | none =>
   have : decide (t.fKey < 0) = true ∨ decide (t.fKey ≥ (t.fFields.length : Int)) = true := by
    simp only [decide_eq_true_eq]
    by_cases h0 : t.fKey < 0
    ·exact .inl h0
    ·by_cases h2 : t.fKey ≥ (t.fFields.length : Int)
     ·exact .inr h2
     ·rw [bl (by omega) (by omega)] at hx; cases hx
   cases h1 : decide (t.fKey < (-1)) <;> cases h2 : decide (t.fKey ≥ (t.fFields.length : Int)) <;> cases h3 : decide (t.fKey < 0) <;> cases t.fUnique <;> cases decide ((t.fFields.length : Int) ≤ 5) <;> first | rfl | (rw [h2, h3] at this; simp at this)
  | some f =>
   simp only [Option.bind_some]
   cases decide (t.fKey < (-1)) <;> cases decide (t.fKey ≥ (t.fFields.length : Int)) <;> cases decide (t.fKey < 0) <;> cases t.fUnique <;> cases decide ((t.fFields.length : Int) ≤ 5) <;> rfl
theorem uE (t : b8) : gH t = (eC t && lm t) := by
 unfold gH eC lm
 have hb : ∀ x : Bool, (decide ((t.fFields.length : Int) ≤ 5) && x) = (x && decide ((t.fFields.length : Int) ≤ 5)) := fun x => Bool.and_comm _ _
 have key : (!(decide (t.fKey < (-1)) || (decide (t.fKey ≥ (t.fFields.length : Int)) || (decide (t.fKey < 0) && t.fUnique))) && (decide (t.fKey < 0) || gO t)) =
   (bif (t.fKey == (-1)) then !t.fUnique else !(decide (t.fKey < 0) || decide (t.fKey ≥ (t.fFields.length : Int))) && gO t) := by
  by_cases h1 : t.fKey = -1
  ·have e1 : decide (t.fKey < (-1)) = false := by simp; omega
   have e2 : decide (t.fKey ≥ (t.fFields.length : Int)) = false := by simp; omega
   have e3 : decide (t.fKey < 0) = true := by simp; omega
   have e4 : (t.fKey == (-1)) = true := by simp; exact h1
   rw [e1, e2, e3, e4]
   cases t.fUnique <;> rfl
  ·have e4 : (t.fKey == (-1)) = false := by simp; exact h1
   rw [e4]
   by_cases h2 : t.fKey < 0
   ·have e1 : decide (t.fKey < (-1)) = true := by simp; omega
    have e3 : decide (t.fKey < 0) = true := by simp; omega
    rw [e1, e3]; rfl
   ·have e1 : decide (t.fKey < (-1)) = false := by simp; omega
    have e3 : decide (t.fKey < 0) = false := by simp; omega
    rw [e1, e3]
    cases decide (t.fKey ≥ (t.fFields.length : Int)) <;> rfl
 rw [Bool.and_assoc, ← key]
 congr 1
 cases decide ((t.fFields.length : Int) ≤ 5) <;> simp
end Go.Sh

namespace Go.Sh
open Go.AE
set_option linter.unusedVariables false
set_option linter.unusedSimpArgs false
def C7 (ts : List b8) : Nat → Int → List Int
 | 0, _ => []
 | d + 1, x => if 0 ≤ x then (match ts[x.toNat]? with | some t => C7 ts d t.fParent ++ [x] | none => []) else []
def way (ts : List b8) (x : Nat) : List Int := C7 ts (x + 1) (x : Int)
def Up (ts : List b8) (n : Nat) : Prop := ∀ j (h : j < ts.length), j < n → (ts[j]).fParent < (j : Int)
theorem Up.mono {ts : List b8} {n m : Nat} (h : Up ts n) (hm : m ≤ n) : Up ts m := fun j hj hjm => h j hj (by omega)
theorem S3 {ts : List b8} {d : Nat} {x : Int} (h : x < 0) : C7 ts d x = [] := by
 cases d with
 | zero => rfl
 | succ d => rw [C7, if_neg (by omega)]
theorem dM {ts : List b8} {n : Nat} (hu : Up ts n) : ∀ (d d' : Nat) (x : Int), x < (d : Int) → x < (d' : Int) → x < (n : Int) → C7 ts d x = C7 ts d' x
 | 0, d', x, h, h', hn => by rw [S3 (d := 0) (by omega), S3 (by omega)]
 | d + 1, 0, x, h, h', hn => by rw [S3 (by omega), S3 (by omega)]
 | d + 1, d' + 1, x, h, h', hn => by
  by_cases h0 : 0 ≤ x
  ·simp only [C7, if_pos h0]
   cases ht : ts[x.toNat]? with
   | none => rfl
   | some t =>
    have hlt : x.toNat < ts.length := by
     rcases Nat.lt_or_ge x.toNat ts.length with h1 | h1
     ·exact h1
     ·rw [List.getElem?_eq_none h1] at ht; cases ht
    have he : ts[x.toNat] = t := by rw [List.getElem?_eq_getElem hlt] at ht; exact Option.some.inj ht
    have := hu x.toNat hlt (by omega)
    rw [he] at this
    simp only
    rw [dM hu d d' t.fParent (by omega) (by omega) (by omega)]
  ·rw [S3 (by omega), S3 (by omega)]
theorem wb {ts : List b8} {n d : Nat} (hu : Up ts n) {x : Int} (h0 : 0 ≤ x) (hd : x < (d : Int)) (hn : x < (n : Int)) : C7 ts d x = way ts x.toNat := by
 unfold way
 rw [show ((x.toNat : Nat) : Int) = x by omega]
 exact dM hu _ _ x hd (by omega) hn
theorem mm {ts : List b8} {n x : Nat} (hu : Up ts n) (hn : x < n) (hx : x < ts.length) : way ts x = C7 ts n (ts[x]).fParent ++ [(x : Int)] := by
 unfold way
 rw [C7, if_pos (by omega), Int.toNat_natCast, List.getElem?_eq_getElem hx]
 simp only
 have := hu x hx hn
 rw [dM hu x n _ this (by omega) (by omega)]
theorem gb {ts : List b8} {n : Nat} (hu : Up ts n) : ∀ (d : Nat) (x : Int), x < (n : Int) → ∀ y ∈ C7 ts d x, 0 ≤ y ∧ y ≤ x
 | 0, _, _, y, hy => by cases hy
 | d + 1, x, hn, y, hy => by
  by_cases h0 : 0 ≤ x
  ·simp only [C7, if_pos h0] at hy
   cases ht : ts[x.toNat]? with
   | none => rw [ht] at hy; cases hy
   | some t =>
    rw [ht] at hy
    have hlt : x.toNat < ts.length := by
     rcases Nat.lt_or_ge x.toNat ts.length with h1 | h1
     ·exact h1
     ·rw [List.getElem?_eq_none h1] at ht; cases ht
    have he : ts[x.toNat] = t := by rw [List.getElem?_eq_getElem hlt] at ht; exact Option.some.inj ht
    have hp := hu x.toNat hlt (by omega)
    rw [he] at hp
    simp only [List.mem_append, List.mem_singleton] at hy
    rcases hy with hy | hy
    ·have := gb hu d t.fParent (by omega) y hy
     omega
    ·omega
  ·rw [S3 (by omega)] at hy; cases hy
theorem ga {ts : List b8} : ∀ (d : Nat) (x : Int), (C7 ts d x).length ≤ d
 | 0, _ => Nat.le_refl 0
 | d + 1, x => by
  rw [C7]
  split
  ·split
   ·have := ga (ts := ts) d (by assumption : b8).fParent
    simp
    omega
   ·exact Nat.zero_le _
  ·exact Nat.zero_le _
theorem Ab {α : Type} {l : List α} {p : α → Bool} {j : Nat} (h : j < l.length) (hp : p l[j] = true) (hb : ∀ i (h : i < l.length), i < j → p l[i] = false) : pos l p = (j : Int) := by
 rcases L6 l p with ⟨h1, _⟩ | ⟨q, h1, h2, h3, h4⟩
 ·rw [h1 j h] at hp; cases hp
 ·rw [h4]
  rcases Nat.lt_trichotomy q j with h5 | h5 | h5
  ·rw [hb q h1 h5] at h2; cases h2
  ·rw [h5]
  ·rw [h3 j h h5] at hp; cases hp
theorem Ac {α : Type} {l : List α} {p : α → Bool} (h : l.any p = false) : pos l p = -1 := by
 rcases L6 l p with ⟨_, h2⟩ | ⟨j, h1, h2, _, _⟩
 ·exact h2
 ·rw [List.any_eq_false] at h
  have := h _ (List.getElem_mem h1)
  rw [h2] at this; simp at this
theorem vR {ts : List b8} {n : Nat} (hu : Up ts n) : ∀ (d : Nat) (x : Int), x < (d : Int) → x < (n : Int) → ∀ y : Int, y ∈ C7 ts d x → (C7 ts d x).take ((pos (C7 ts d x) (fun z => y == z)) + 1).toNat = way ts y.toNat
 | 0, _, _, _, y, hy => by cases hy
 | d + 1, x, hd, hn, y, hy => by
  by_cases h0 : 0 ≤ x
  ·have hy1 := hy
   simp only [C7, if_pos h0] at hy1 ⊢
   cases ht : ts[x.toNat]? with
   | none => rw [ht] at hy1; cases hy1
   | some t =>
    rw [ht] at hy1
    simp only at hy1 ⊢
    have hlt : x.toNat < ts.length := by
     rcases Nat.lt_or_ge x.toNat ts.length with h1 | h1
     ·exact h1
     ·rw [List.getElem?_eq_none h1] at ht; cases ht
    have he : ts[x.toNat] = t := by rw [List.getElem?_eq_getElem hlt] at ht; exact Option.some.inj ht
    have hp := hu x.toNat hlt (by omega)
    rw [he] at hp
    have hlow := gb hu d t.fParent (by omega)
    by_cases hyx : y = x
    ·subst hyx
     have hps : pos (C7 ts d t.fParent ++ [y]) (fun z => y == z) = ((C7 ts d t.fParent).length : Int) := by
      refine Ab (by simp) (by simp) (fun i hi hij => ?_)
      rw [List.getElem_append_left hij]
      have := hlow _ (List.getElem_mem hij)
      simp only [beq_eq_false_iff_ne, ne_eq]
      omega
     rw [hps]
     have e1 : (((C7 ts d t.fParent).length : Int) + 1).toNat = (C7 ts d t.fParent).length + 1 := by omega
     rw [e1, List.take_of_length_le (by simp)]
     rw [mm hu (show y.toNat < n by omega) hlt, he]
     rw [dM hu d n t.fParent (by omega) (by omega) (by omega)]
     rw [show ((y.toNat : Nat) : Int) = y by omega]
    ·have hy2 : y ∈ C7 ts d t.fParent := by
      simp only [List.mem_append, List.mem_singleton] at hy1
      rcases hy1 with h | h
      ·exact h
      ·exact absurd h hyx
     rcases L6 (C7 ts d t.fParent) (fun z => y == z) with ⟨g1, _⟩ | ⟨j, g1, g2, g3, g4⟩
     ·obtain ⟨i, hi, he2⟩ := List.getElem_of_mem hy2
      have := g1 i hi
      rw [he2] at this; simp at this
     ·have hps : pos (C7 ts d t.fParent ++ [x]) (fun z => y == z) = (j : Int) := by
       refine Ab (by simp; omega) (by rw [List.getElem_append_left g1]; exact g2) (fun i hi hij => ?_)
       rw [List.getElem_append_left (by omega)]
       exact g3 i (by omega) hij
      have ih := vR hu d t.fParent (by omega) (by omega) y hy2
      rw [g4] at ih
      rw [hps, List.take_append_of_le_length (by omega)]
      exact ih
  ·rw [S3 (by omega)] at hy; cases hy
def fq (ts : List b8) (i : Nat) : Bool := at' ts (fun t => (ts.take i).any (fun g => g.fName == t.fName)) i
def bB (t : b8) : Bool := (t.fParent != (-1)) || (decide (t.fKey < 0) || (!t.fUnique || (match idx t.fFields t.fKey with | some f => decide (f.fBytes > 24) | none => true)))
def J9 (ts : List b8) : Nat → List Int
 | 0 => []
 | i + 1 => way ts i
def az (ts : List b8) (i : Nat) : Bool := at' ts (fun t => (!A2 t || fq ts i) || ((bif Nat.beq i 0 then bB t else !(J9 ts i).any (fun z => t.fParent == z)) || decide (((way ts i).length : Int) > 5))) i
def fK (ts : List b8) : Bool := !(decide ((ts.length : Int) < 1) || decide ((ts.length : Int) > 8)) && !W0 (az ts) ts.length
theorem vQ {ts : List b8} : ∀ (n : Nat), (∀ j, j < n → az ts j = false) → Up ts n
 | 0, _ => fun j _ h => by omega
 | n + 1, h => by
  have ih := vQ n (fun j hj => h j (by omega))
  intro j hj hjn
  by_cases e : j < n
  ·exact ih j hj e
  ·have hjn' : j = n := by omega
   subst hjn'
   have hb := h j (by omega)
   rw [az, u7 hj] at hb
   cases j with
   | zero =>
    simp only [Bool.or_eq_false_iff, show Nat.beq 0 0 = true from rfl, cond_true, bB] at hb
    have := hb.2.1.1
    simp at this
    omega
   | succ q =>
    simp only [Bool.or_eq_false_iff, show Nat.beq (q + 1) 0 = false from rfl, cond_false] at hb
    have h2 := hb.2.1
    simp only [Bool.not_eq_false', List.any_eq_true] at h2
    obtain ⟨z, hz, he⟩ := h2
    have hz' : z ∈ way ts q := hz
    have := gb ih (q + 1) q (by omega) z hz'
    have he' : (ts[q + 1]).fParent = z := by simpa using he
    omega
theorem lc {k : Nat} {ts : List b8} (hk : maxLen + 8 ≤ k) (hw : wfL F0 ts) : bi k ts = some (fK ts) := by
 obtain ⟨k, rfl, hq⟩ := i9 hk
 obtain ⟨hl, hw⟩ := hw
 have e63 := m0
 unfold bi fK
 by_cases hlen : 1 ≤ ts.length ∧ ts.length ≤ 8
 ·obtain ⟨hlen1, hlen2⟩ := hlen
  simp only [show decide ((ts.length : Int) < 1) = false by simp; omega, show decide ((ts.length : Int) > 8) = false by simp; omega, cond_false, Option.bind_some, Bool.or_false, Bool.not_false, Bool.true_and]
  refine Eq.trans (HZ (L := fun m x s => I7 k ts _ m x s) (n := ts.length) (σ := J9 ts) (g := az ts) (r := fun _ => some false) (z := some true) ?_ ?_ (by omega) rfl) ?_
  rotate_left 2
  ·rw [C1]
   cases W0 (az ts) ts.length <;> rfl
  ·intro m i hi hb
   have h1 := hw _ (List.getElem_mem hi)
   have hup := vQ i hb
   have hc : B2 k (ts.take i) (fun j x0 => X0 j x0 ts[i]) = some (fq ts i) := by
    rw [fq, u7 hi]
    refine kX (by rw [List.length_take]; omega) (by rw [List.length_take]; omega) (fun k' e x hx => ?_)
    obtain ⟨k', rfl, _⟩ := i9 (show 0 + 1 ≤ k' by omega)
    rfl
   have hbl : (J9 ts i).length ≤ 8 := by
    cases i with
    | zero => exact Nat.zero_le _
    | succ q => have := ga (ts := ts) (q + 1) q; show (way ts q).length ≤ 8; unfold way; omega
   simp only [I7, p6 hi, m8 hi hl, Option.bind_some, show decide ((i : Int) < (ts.length : Int)) = true by simp; exact hi, cond_true, nV (show maxLen + 6 ≤ k by omega) h1, iH (show i ≤ ts.length by omega), hc,
    qM (show (J9 ts i).length + 2 ≤ k by omega) (show (J9 ts i).length ≤ maxLen by omega)]
   rw [az, u7 hi]
   cases hto : A2 ts[i] with
   | false => rfl
   | true =>
    cases hdt : fq ts i with
    | true => rfl
    | false =>
     simp only [Bool.not_true, cond_false, Option.bind_some, Bool.or_false, Bool.false_or]
     cases i with
     | zero =>
      simp only [show (((0 : Nat) : Int) == 0) = true from rfl, cond_true, show Nat.beq 0 0 = true from rfl, show decide (((0 : Nat) : Int) > 0) = false from rfl, cond_false]
      have hroot : (bif ((ts[0]).fParent != (-1)) then (some (true)) else (bif (decide ((ts[0]).fKey < 0)) then (some (true)) else (bif (!(ts[0]).fUnique) then (some (true)) else ((idx (ts[0]).fFields (ts[0]).fKey).bind fun v25 => (bif (decide (v25.fBytes > 24)) then (some (true)) else some false))))) = some (bB ts[0]) := by
       unfold bB
       cases hx : idx (ts[0]).fFields (ts[0]).fKey with
       | none =>
        -- the key of a type that is right is there, or negative
        have hneg : decide ((ts[0]).fKey < 0) = true := by
         simp only [decide_eq_true_eq]
         by_cases h0 : (ts[0]).fKey < 0
         ·exact h0
         ·exfalso
          have hko : lm ts[0] = true := by
           unfold A2 at hto
           simp only [Bool.and_eq_true] at hto
           exact hto.2
          unfold lm at hko
          have : ((ts[0]).fKey == (-1)) = false := by simp; omega
          rw [this, cond_false] at hko
          unfold gO at hko
          rw [hx] at hko
          simp at hko
        rw [hneg]
        cases ((ts[0]).fParent != (-1)) <;> rfl
       | some f =>
        simp only [Option.bind_some]
        cases ((ts[0]).fParent != (-1)) <;> cases decide ((ts[0]).fKey < 0) <;> cases (ts[0]).fUnique <;> cases decide (f.fBytes > 24) <;> rfl
      rw [hroot]
      cases hrb : bB ts[0] with
      | true => simp
      | false =>
       have hpar : (ts[0]).fParent = -1 := by
        unfold bB at hrb
        simp only [Bool.or_eq_false_iff] at hrb
        simpa using hrb.1
       have hway : way ts 0 = [0] := by
        unfold way
        rw [C7, if_pos (by omega), Int.toNat_natCast, List.getElem?_eq_getElem hi]
        simp [C7]
       have hpn : pos (J9 ts 0) (fun x => (ts[0]).fParent == x) = -1 := rfl
       rw [hpn]
       have hup0 : sH (J9 ts 0) (Go.IntKind.wrap .i64 (-1 + 1)) = some 0 := rfl
       simp only [Option.bind_some, cond_false, hup0]
       rw [bH (by simp [J9, l4])]
       simp only [Option.bind_some, J9, List.take_nil, List.nil_append, hway]
       rfl
     | succ q =>
      simp only [show ((((q + 1 : Nat)) : Int) == 0) = false by simp; omega, cond_false, show Nat.beq (q + 1) 0 = false from rfl, show decide ((((q + 1 : Nat)) : Int) > 0) = true by simp, cond_true, Option.bind_some]
      have hbe : J9 ts (q + 1) = C7 ts (q + 1) q := rfl
      cases hany : (J9 ts (q + 1)).any (fun z => (ts[q + 1]).fParent == z) with
      | false =>
       rw [Ac hany]
       rfl
      | true =>
       obtain ⟨y, hy, he⟩ := List.any_eq_true.1 hany
       have he' : (ts[q + 1]).fParent = y := by simpa using he
       have hylt := gb hup (q + 1) q (by omega) y (by rw [← hbe]; exact hy)
       have hcut := vR hup (q + 1) q (by omega) (by omega) y (by rw [← hbe]; exact hy)
       rw [← hbe] at hcut
       rcases L6 (J9 ts (q + 1)) (fun z => (ts[q + 1]).fParent == z) with ⟨g1, _⟩ | ⟨j, g1, g2, g3, g4⟩
       ·exfalso
        obtain ⟨ii, hii, hee⟩ := List.getElem_of_mem hy
        have := g1 ii hii
        rw [hee] at this
        rw [this] at he; cases he
       ·have hcut' : (J9 ts (q + 1)).take ((pos (J9 ts (q + 1)) (fun z => (ts[q + 1]).fParent == z)) + 1).toNat = way ts y.toNat := by
         rw [he']; exact hcut
        rw [g4] at hcut' ⊢
        have hdn : decide ((j : Int) < 0) = false := by simp
        have hwr : Go.IntKind.wrap .i64 ((j : Int) + 1) = ((j + 1 : Nat) : Int) := m8 (n := (J9 ts (q + 1)).length) g1 (by omega)
        have hut : sH (J9 ts (q + 1)) ((j + 1 : Nat) : Int) = some (j + 1) := by
         unfold sH
         rw [if_pos ⟨by omega, by omega⟩]
         simp
        have hcut2 : (J9 ts (q + 1)).take (j + 1) = way ts y.toNat := by
         rw [← hcut']; congr 1
        have hwl : (way ts y.toNat).length ≤ 8 := by
         have := ga (ts := ts) (y.toNat + 1) (y.toNat : Int)
         show (C7 ts (y.toNat + 1) (y.toNat : Int)).length ≤ 8
         omega
        have hnext : way ts (q + 1) = way ts y.toNat ++ [((q + 1 : Nat) : Int)] := by
         have hup2 : Up ts (q + 2) := by
          intro jj hjj hjn
          by_cases e : jj < q + 1
          ·exact hup jj hjj e
          ·have : jj = q + 1 := by omega
           subst this
           omega
         rw [mm hup2 (by omega) hi, he', wb hup2 hylt.1 (by omega) (by omega)]
        simp only [hdn, hwr, hut, cond_false, Option.bind_some, hcut2]
        rw [bH (by simp only [List.length_cons, List.length_nil, l4]; omega)]
        simp only [Option.bind_some, ← hnext, Bool.not_true, Bool.false_or]
        rfl
  ·intro m _
   simp only [I7, show decide ((ts.length : Int) < (ts.length : Int)) = false by simp, cond_false]
 ·by_cases h1 : ts.length < 1
  ·simp only [show decide ((ts.length : Int) < 1) = true by simp; omega, cond_true, Option.bind_some, Bool.true_or, Bool.not_true, Bool.false_and]
  ·have h2 : ts.length > 8 := by omega
   simp only [show decide ((ts.length : Int) < 1) = false by simp; omega, show decide ((ts.length : Int) > 8) = true by simp; omega, cond_true, cond_false, Option.bind_some, Bool.or_true, Bool.not_true, Bool.false_and]
end Go.Sh

namespace Go.Sh
open Go.AE
set_option linter.unusedVariables false
set_option linter.unusedSimpArgs false
def bj (xs : List j1) (i : Nat) : Bool := at' xs (fun t => (xs.take i).any (fun g => g.fName == t.fName)) i
def oY (ts : List b8) (x : j1) : Bool :=
 match idx ts x.fType with | none => true | some t => decide (x.fField < 0) || (decide (x.fField ≥ (t.fFields.length : Int)) || (match idx t.fFields x.fField with | none => true | some f => decide (f.fBytes > 20)))
def bf (ts : List b8) (xs : List j1) (i : Nat) : Bool :=
 at' xs (fun x => ((!D5 x.fName) || (decide (x.fType < 0) || (decide (x.fType ≥ (ts.length : Int)) || (decide ((x.fSparse.length : Int) > 1) || bj xs i)))) || oY ts x) i
def jt (ts : List b8) (xs : List j1) : Bool := !W0 (bf ts xs) xs.length && decide ((xs.length : Int) ≤ 3)
theorem jC {k : Nat} {ts : List b8} {xs : List j1} (hk : maxLen + 6 ≤ k) (hw : wfL aG xs) : W9 k xs ts = some (jt ts xs) := by
 obtain ⟨k, rfl, hq⟩ := i9 hk
 obtain ⟨hl, hw⟩ := hw
 unfold W9 jt
 refine Eq.trans (aQ (L := fun m x => F1 k xs ts _ m x) (n := xs.length) (g := bf ts xs) (r := fun _ => some false) (z := some (decide ((xs.length : Int) ≤ 3))) ?_ ?_ (by omega)) ?_
 rotate_left 2
 ·rw [C1]
  cases W0 (bf ts xs) xs.length <;> rfl
 ·intro m i hi _
  have h1 := hw _ (List.getElem_mem hi)
  have hc : z6 k (xs.take i) (fun j x0 => S4 j x0 xs[i]) = some (bj xs i) := by
   rw [bj, u7 hi]
   refine jx (by rw [List.length_take]; omega) (by rw [List.length_take]; omega) (fun k' e x hx => ?_)
   obtain ⟨k', rfl, _⟩ := i9 (show 0 + 1 ≤ k' by omega)
   rfl
  simp only [F1, bf, u7 hi, p6 hi, m8 hi hl, Option.bind_some, show decide ((i : Int) < (xs.length : Int)) = true by simp; exact hi, cond_true, ez (show maxLen + 2 ≤ k by omega) h1.1, iH (show i ≤ xs.length by omega), hc]
  unfold oY
  cases hn : D5 xs[i].fName with
  | false => rfl
  | true =>
   cases h2 : decide (xs[i].fType < 0) with
   | true => rfl
   | false =>
    cases h3 : decide (xs[i].fType ≥ (ts.length : Int)) with
    | true => rfl
    | false =>
     cases decide ((xs[i].fSparse.length : Int) > 1) with
     | true => rfl
     | false =>
      cases bj xs i with
      | true => rfl
      | false =>
       simp only [decide_eq_false_iff_not] at h2 h3
       rw [bl (show 0 ≤ xs[i].fType by omega) (by omega)]
       simp only [Bool.not_true, cond_false, Option.bind_some, Bool.or_false, Bool.false_or]
       generalize ts[(xs[i].fType).toNat]'_ = t
       cases h4 : decide (xs[i].fField < 0) with
       | true => rfl
       | false =>
        cases h5 : decide (xs[i].fField ≥ (t.fFields.length : Int)) with
        | true => rfl
        | false =>
         simp only [decide_eq_false_iff_not] at h4 h5
         rw [bl (show 0 ≤ xs[i].fField by omega) (by omega)]
         simp only [cond_false, Option.bind_some, Bool.false_or]
 ·intro m _
  simp only [F1, show decide ((xs.length : Int) < (xs.length : Int)) = false by simp, cond_false]
def valid (b : a8) : Bool := D5 b.fName && (decide (b.fKind ≥ 1) && (decide (b.fKind ≤ 4) && (fK b.fTypes && jt b.fTypes b.fIndexes)))
theorem my {k : Nat} {b : a8} (hk : maxLen + 9 ≤ k) (hw : d8 b) : bK k b = some (valid b) := by
 obtain ⟨k, rfl, hq⟩ := i9 hk
 obtain ⟨h1, _, h3, h4, _⟩ := hw
 simp only [bK, ez (show maxLen + 2 ≤ k by omega) h1, lc hq h3, jC (show maxLen + 6 ≤ k by omega) h4, Option.bind_some]
 unfold valid
 cases D5 b.fName <;> cases decide (b.fKind ≥ 1) <;> cases decide (b.fKind ≤ 4) <;> cases fK b.fTypes <;> rfl
theorem fH {b : a8} {n : Nat} (hu : Up b.fTypes n) (hlen : n ≤ b.fTypes.length) (hs : n ≤ 1000) : ∀ (d : Nat) (x : Int) (w : List Int) (m : Nat), x < (d : Int) → x < (n : Int) → d < m → w.length + d ≤ 1000 →
  U1 b (fun y11 y12 => some y12) m x w = some (C7 b.fTypes d x ++ w)
 | d, x, w, 0, _, _, hm, _ => by omega
 | d, x, w, m + 1, hd, hn, hm, hwl => by
  rw [U1]
  by_cases h0 : 0 ≤ x
  ·have hx : x.toNat < b.fTypes.length := by omega
   have hp := hu x.toNat hx (by omega)
   cases d with
   | zero => omega
   | succ d =>
    simp only [show decide (x ≥ 0) = true by simp; omega, cond_true, bl h0 (show x < (b.fTypes.length : Int) by omega), Option.bind_some]
    rw [bH (by simp only [List.length_cons, List.length_nil, l4]; omega)]
    simp only [Option.bind_some]
    rw [fH hu hlen hs d _ _ m (by omega) (by omega) (by omega) (by simp; omega)]
    rw [C7, if_pos h0, List.getElem?_eq_getElem hx]
    simp
  ·rw [S3 (by omega)]
   simp only [show decide (x ≥ 0) = false by simp; omega, cond_false, List.nil_append]
theorem pE {k : Nat} {b : a8} {n i : Nat} (hu : Up b.fTypes n) (hlen : n ≤ b.fTypes.length) (hs : n ≤ 500) (hi : i < n) (hk : 1000 ≤ k) : eg k b (i : Int) = some (way b.fTypes i) := by
 obtain ⟨k, rfl, hq⟩ := i9 (c := 999) (by omega : 999 + 1 ≤ k)
 refine Eq.trans (show eg (k + 1) b (i : Int) = U1 b (fun y11 y12 => some y12) k (i : Int) [] from rfl) ?_
 rw [fH hu hlen (by omega) (i + 1) (i : Int) [] k (by omega) (by omega) (by omega) (by simp; omega)]
 rw [List.append_nil]; rfl
theorem dK {b : a8} {n : Nat} {a : Int} (hu : Up b.fTypes n) (hlen : n ≤ b.fTypes.length) : ∀ (d : Nat) (x : Int) (m : Nat), x < (d : Int) → x < (n : Int) → d < m →
  S7 b a (fun y8 => some false) m x = some ((C7 b.fTypes d x).any (fun z => a == z))
 | d, x, 0, _, _, hm => by omega
 | d, x, m + 1, hd, hn, hm => by
  rw [S7]
  by_cases h0 : 0 ≤ x
  ·have hx : x.toNat < b.fTypes.length := by omega
   have hp := hu x.toNat hx (by omega)
   cases d with
   | zero => omega
   | succ d =>
    simp only [show decide (x ≥ 0) = true by simp; omega, cond_true, bl h0 (show x < (b.fTypes.length : Int) by omega), Option.bind_some]
    rw [C7, if_pos h0, List.getElem?_eq_getElem hx]
    simp only [List.any_append, List.any_cons, List.any_nil, Bool.or_false]
    by_cases e : x = a
    ·subst e; simp
    ·have e1 : (x == a) = false := by simpa using e
     have e2 : (a == x) = false := by simpa using fun h => e h.symm
     rw [e1, e2, cond_false, Bool.or_false]
     exact dK hu hlen d _ m (by omega) (by omega) (by omega)
  ·rw [S3 (by omega)]
   simp only [show decide (x ≥ 0) = false by simp; omega, cond_false, List.any_nil]
theorem gk {k : Nat} {b : a8} {n i : Nat} {a : Int} (hu : Up b.fTypes n) (hlen : n ≤ b.fTypes.length) (hs : n ≤ 500) (hi : i < n) (hk : 1000 ≤ k) : aU k b a (i : Int) = some ((C7 b.fTypes n ((b.fTypes[i]'(by omega)).fParent)).any (fun z => a == z)) := by
 obtain ⟨k, rfl, hq⟩ := i9 (c := 999) (by omega : 999 + 1 ≤ k)
 have hx : i < b.fTypes.length := by omega
 have hp := hu i hx hi
 simp only [aU, p6 hx, Option.bind_some]
 exact dK hu hlen n _ k (by omega) (by omega) (by omega)
theorem jF {b : a8} {i k : Nat} {K : Option Bool} (hi : i < b.fTypes.length) (hl : b.fTypes.length ≤ maxLen) (hk : i < k) : I1 b (i : Int) b.fTypes[i] (fun _ => K) k 0 = bif fq b.fTypes i then some false else K := by
 rw [fq, u7 hi, ← mq (show i ≤ b.fTypes.length by omega)]
 refine Eq.trans (aQ (L := fun m x => I1 b (i : Int) b.fTypes[i] _ m x) (n := i) (g := at' b.fTypes (fun g => g.fName == b.fTypes[i].fName)) (r := fun _ => some false) (z := K) ?_ ?_ hk) (C1 i)
 ·intro m j hj _
  have hj' : j < b.fTypes.length := by omega
  simp only [I1, u7 hj', p6 hj', m8 hj' hl, Option.bind_some, show decide ((j : Int) < (i : Int)) = true by simp; exact hj, cond_true]
 ·intro m _
  simp only [I1, show decide ((i : Int) < (i : Int)) = false by simp, cond_false]
theorem jH {b : a8} {i k : Nat} {K : Option Bool} (hi : i < b.fIndexes.length) (hl : b.fIndexes.length ≤ maxLen) (hk : i < k) : I3 b (i : Int) b.fIndexes[i] (fun _ => K) k 0 = bif bj b.fIndexes i then some false else K := by
 rw [bj, u7 hi, ← mq (show i ≤ b.fIndexes.length by omega)]
 refine Eq.trans (aQ (L := fun m x => I3 b (i : Int) b.fIndexes[i] _ m x) (n := i) (g := at' b.fIndexes (fun g => g.fName == b.fIndexes[i].fName)) (r := fun _ => some false) (z := K) ?_ ?_ hk) (C1 i)
 ·intro m j hj _
  have hj' : j < b.fIndexes.length := by omega
  simp only [I3, u7 hj', p6 hj', m8 hj' hl, Option.bind_some, show decide ((j : Int) < (i : Int)) = true by simp; exact hj, cond_true]
 ·intro m _
  simp only [I3, show decide ((i : Int) < (i : Int)) = false by simp, cond_false]
theorem jG {b : a8} {k : Nat} (hk : maxLen + 6 ≤ k) (hw : wfL aG b.fIndexes) : I2 k b (fun _ => some true) k 0 = some (!W0 (bf b.fTypes b.fIndexes) b.fIndexes.length) := by
 obtain ⟨hl, hw⟩ := hw
 refine Eq.trans (aQ (L := fun m x => I2 k b _ m x) (n := b.fIndexes.length) (g := bf b.fTypes b.fIndexes) (r := fun _ => some false) (z := some true) ?_ ?_ (by omega)) ?_
 rotate_left 2
 ·rw [C1]
  cases W0 (bf b.fTypes b.fIndexes) b.fIndexes.length <;> rfl
 ·intro m i hi _
  have h1 := hw _ (List.getElem_mem hi)
  simp only [I2, bf, u7 hi, p6 hi, m8 hi hl, Option.bind_some, show decide ((i : Int) < (b.fIndexes.length : Int)) = true by simp; exact hi, cond_true, dQ (show maxLen + 2 ≤ k by omega) h1.1, jH hi hl (show i < k by omega)]
  unfold oY
  cases hn : D5 b.fIndexes[i].fName with
  | false => rfl
  | true =>
   cases h2 : decide (b.fIndexes[i].fType < 0) with
   | true => rfl
   | false =>
    cases h3 : decide (b.fIndexes[i].fType ≥ (b.fTypes.length : Int)) with
    | true => rfl
    | false =>
     simp only [decide_eq_false_iff_not] at h2 h3
     rw [bl (show 0 ≤ b.fIndexes[i].fType by omega) (by omega)]
     simp only [Bool.not_true, cond_false, Option.bind_some, Bool.or_false, Bool.false_or]
     generalize b.fTypes[(b.fIndexes[i].fType).toNat]'_ = t
     cases h4 : decide (b.fIndexes[i].fField < 0) with
     | true => cases decide ((b.fIndexes[i].fSparse.length : Int) > 1) <;> cases bj b.fIndexes i <;> rfl
     | false =>
      cases h5 : decide (b.fIndexes[i].fField ≥ (t.fFields.length : Int)) with
      | true => cases decide ((b.fIndexes[i].fSparse.length : Int) > 1) <;> cases bj b.fIndexes i <;> rfl
      | false =>
       simp only [decide_eq_false_iff_not] at h4 h5
       rw [bl (show 0 ≤ b.fIndexes[i].fField by omega) (by omega)]
       simp only [cond_false, Option.bind_some, Bool.false_or]
       generalize t.fFields[(b.fIndexes[i].fField).toNat]'_ = f
       cases decide (f.fBytes > 20) <;> cases decide ((b.fIndexes[i].fSparse.length : Int) > 1) <;> cases bj b.fIndexes i <;> rfl
 ·intro m _
  simp only [I2, show decide ((b.fIndexes.length : Int) < (b.fIndexes.length : Int)) = false by simp, cond_false]
theorem wK (t : b8) : A2 t = !((!D5 t.fName) || (decide (t.fMin < 1) || (decide (t.fMin > t.fSize) || (decide (t.fSize > 40) || !gH t)))) := by
 rw [uE]
 unfold A2
 cases D5 t.fName <;> cases decide (t.fMin < 1) <;> cases decide (t.fMin > t.fSize) <;> cases decide (t.fSize > 40) <;> cases eC t <;> cases lm t <;> rfl
theorem jE {b : a8} {k : Nat} {K : Option Bool} (hk : maxLen + 8 ≤ k) (hw : wfL F0 b.fTypes) (h8 : b.fTypes.length ≤ 8) : F8 k b (fun _ => K) k 0 = bif W0 (az b.fTypes) b.fTypes.length then some false else K := by
 obtain ⟨hl, hw⟩ := hw
 have e63 := m0
 refine Eq.trans (aQ (L := fun m x => F8 k b _ m x) (n := b.fTypes.length) (g := az b.fTypes) (r := fun _ => some false) (z := K) ?_ ?_ (by omega)) (C1 _)
 ·intro m i hi hb
  have h1 := hw _ (List.getElem_mem hi)
  have hup := vQ i hb
  simp only [F8, p6 hi, m8 hi hl, Option.bind_some, show decide ((i : Int) < (b.fTypes.length : Int)) = true by simp; exact hi, cond_true, dQ (show maxLen + 2 ≤ k by omega) h1.1, lT (show maxLen + 5 ≤ k by omega) h1, jF hi hl (show i < k by omega)]
  rw [az, u7 hi]
  have hshape : (bif (!D5 (b.fTypes[i]).fName) then (some (true)) else (bif (decide ((b.fTypes[i]).fMin < 1)) then (some (true)) else (bif (decide ((b.fTypes[i]).fMin > (b.fTypes[i]).fSize)) then (some (true)) else (bif (decide ((b.fTypes[i]).fSize > 40)) then (some (true)) else (some ((!gH b.fTypes[i]))))))) = some (!A2 b.fTypes[i]) := by
   rw [wK]
   cases D5 (b.fTypes[i]).fName <;> cases decide ((b.fTypes[i]).fMin < 1) <;> cases decide ((b.fTypes[i]).fMin > (b.fTypes[i]).fSize) <;> cases decide ((b.fTypes[i]).fSize > 40) <;> cases gH b.fTypes[i] <;> rfl
  rw [hshape]
  cases hto : A2 b.fTypes[i] with
  | false => rfl
  | true =>
   cases hdt : fq b.fTypes i with
   | true => rfl
   | false =>
    simp only [Bool.not_true, cond_false, Option.bind_some, Bool.or_false, Bool.false_or]
    cases i with
    | zero =>
     simp only [show (((0 : Nat) : Int) == 0) = true from rfl, cond_true, show Nat.beq 0 0 = true from rfl]
     have hway : (bB b.fTypes[0] = false) → decide (((way b.fTypes 0).length : Int) > 5) = false := by
      intro hrb
      have hpar : (b.fTypes[0]).fParent = -1 := by
       unfold bB at hrb
       simp only [Bool.or_eq_false_iff] at hrb
       simpa using hrb.1
      have : way b.fTypes 0 = [0] := by
       unfold way
       rw [C7, if_pos (by omega), Int.toNat_natCast, List.getElem?_eq_getElem hi]
       simp [C7]
      rw [this]; rfl
     have hroot : (bif ((b.fTypes[0]).fParent != (-1)) then (some (true)) else (bif (decide ((b.fTypes[0]).fKey < 0)) then (some (true)) else (bif (!(b.fTypes[0]).fUnique) then (some (true)) else ((idx (b.fTypes[0]).fFields (b.fTypes[0]).fKey).bind fun v32 => (some ((decide (v32.fBytes > 24)))))))) = some (bB b.fTypes[0]) := by
      unfold bB
      cases hx : idx (b.fTypes[0]).fFields (b.fTypes[0]).fKey with
      | none =>
       have hneg : decide ((b.fTypes[0]).fKey < 0) = true := by
        simp only [decide_eq_true_eq]
        by_cases h0 : (b.fTypes[0]).fKey < 0
        ·exact h0
        ·exfalso
         have hko : lm b.fTypes[0] = true := by
          unfold A2 at hto
          simp only [Bool.and_eq_true] at hto
          exact hto.2
         unfold lm at hko
         have : ((b.fTypes[0]).fKey == (-1)) = false := by simp; omega
         rw [this, cond_false] at hko
         unfold gO at hko
         rw [hx] at hko
         simp at hko
       rw [hneg]
       cases ((b.fTypes[0]).fParent != (-1)) <;> rfl
      | some f =>
       simp only [Option.bind_some]
       cases ((b.fTypes[0]).fParent != (-1)) <;> cases decide ((b.fTypes[0]).fKey < 0) <;> cases (b.fTypes[0]).fUnique <;> cases decide (f.fBytes > 24) <;> rfl
     rw [hroot]
     cases hrb : bB b.fTypes[0] with
     | true => rfl
     | false => rw [hway hrb]; rfl
    | succ q =>
     have hq1 : q < b.fTypes.length := by omega
     have hpq := hup q hq1 (by omega)
     have hbe : J9 b.fTypes (q + 1) = C7 b.fTypes (q + 1) q := rfl
     have hbw : J9 b.fTypes (q + 1) = C7 b.fTypes (q + 1) (b.fTypes[q]).fParent ++ [(q : Int)] := mm hup (by omega) hq1
     have hab := gk (k := k) (a := (b.fTypes[q + 1]).fParent) hup (by omega) (by omega) (show q < q + 1 by omega) (by omega)
     have hwr : Go.IntKind.wrap .i64 (((q + 1 : Nat) : Int) - 1) = (q : Int) := by
      rw [W7 (by omega) (by omega)]; omega
     simp only [show ((((q + 1 : Nat)) : Int) == 0) = false by simp; omega, cond_false, show Nat.beq (q + 1) 0 = false from rfl, hwr, hab, Option.bind_some]
     have hmem : (J9 b.fTypes (q + 1)).any (fun z => (b.fTypes[q + 1]).fParent == z) = ((C7 b.fTypes (q + 1) (b.fTypes[q]).fParent).any (fun z => (b.fTypes[q + 1]).fParent == z) || ((b.fTypes[q + 1]).fParent == (q : Int))) := by
      rw [hbw]; simp only [List.any_append, List.any_cons, List.any_nil, Bool.or_false]
     have hin : ((C7 b.fTypes (q + 1) (b.fTypes[q]).fParent).any (fun z => (b.fTypes[q + 1]).fParent == z) || ((b.fTypes[q + 1]).fParent == (q : Int))) = true → ¬ (b.fTypes[q + 1]).fParent < 0 ∧ ¬ (b.fTypes[q + 1]).fParent ≥ ((q + 1 : Nat) : Int) := by
      intro h
      rw [← hmem] at h
      obtain ⟨y, hy, he⟩ := List.any_eq_true.1 h
      have he' : (b.fTypes[q + 1]).fParent = y := by simpa using he
      have := gb hup (q + 1) q (by omega) y (by rw [← hbe]; exact hy)
      omega
     rw [hmem]
     cases hany : ((C7 b.fTypes (q + 1) (b.fTypes[q]).fParent).any (fun z => (b.fTypes[q + 1]).fParent == z) || ((b.fTypes[q + 1]).fParent == (q : Int))) with
     | false =>
      rw [Bool.or_eq_false_iff] at hany
      obtain ⟨g1, g2⟩ := hany
      rw [g1]
      have g3 : ((b.fTypes[q + 1]).fParent != (q : Int)) = true := by rw [bne, g2]; rfl
      rw [g3]
      cases decide ((b.fTypes[q + 1]).fParent < 0) <;> cases decide ((b.fTypes[q + 1]).fParent ≥ ((q + 1 : Nat) : Int)) <;> rfl
     | true =>
      obtain ⟨g1, g2⟩ := hin hany
      have hup2 : Up b.fTypes (q + 2) := by
       intro jj hjj hjn
       by_cases e : jj < q + 1
       ·exact hup jj hjj e
       ·have : jj = q + 1 := by omega
        subst this
        omega
      have hwy := pE (k := k) hup2 (by omega) (by omega) (show q + 1 < q + 2 by omega) (by omega)
      rw [hwy]
      simp only [show decide ((b.fTypes[q + 1]).fParent < 0) = false by simp; omega, show decide ((b.fTypes[q + 1]).fParent ≥ ((q + 1 : Nat) : Int)) = false by simp; omega, cond_false, Option.bind_some]
      rw [Bool.or_eq_true] at hany
      rcases hany with g3 | g3
      ·rw [g3]
       cases ((b.fTypes[q + 1]).fParent != (q : Int)) <;> cases decide (((way b.fTypes (q + 1)).length : Int) > 5) <;> rfl
      ·have g4 : ((b.fTypes[q + 1]).fParent != (q : Int)) = false := by rw [bne, g3]; rfl
       rw [g4]
       cases decide (((way b.fTypes (q + 1)).length : Int) > 5) <;> rfl
 ·intro m _
  simp only [F8, show decide ((b.fTypes.length : Int) < (b.fTypes.length : Int)) = false by simp, cond_false]
theorem fG {k : Nat} {b : a8} (hk : maxLen + 9 ≤ k) (hw : d8 b) : T4 k b = some (valid b) := by
 obtain ⟨k, rfl, hq⟩ := i9 hk
 obtain ⟨h1, _, h3, h4, _⟩ := hw
 simp only [T4, dQ (show maxLen + 2 ≤ k by omega) h1, Option.bind_some]
 unfold valid fK jt
 have e1 : decide (b.fKind < 1) = !decide (b.fKind ≥ 1) := by rw [← decide_not]; apply decide_eq_decide.2; omega
 have e2 : decide (b.fKind > 4) = !decide (b.fKind ≤ 4) := by rw [← decide_not]; apply decide_eq_decide.2; omega
 have e3 : decide ((b.fIndexes.length : Int) > 3) = !decide ((b.fIndexes.length : Int) ≤ 3) := by rw [← decide_not]; apply decide_eq_decide.2; omega
 rw [e1, e2, e3]
 by_cases h8 : b.fTypes.length ≤ 8
 ·rw [jE hq h3 h8, jG (show maxLen + 6 ≤ k by omega) h4]
  cases D5 b.fName <;> cases decide (b.fKind ≥ 1) <;> cases decide (b.fKind ≤ 4) <;> cases decide ((b.fTypes.length : Int) < 1) <;> cases decide ((b.fTypes.length : Int) > 8) <;> cases decide ((b.fIndexes.length : Int) ≤ 3) <;> cases W0 (az b.fTypes) b.fTypes.length <;> cases W0 (bf b.fTypes b.fIndexes) b.fIndexes.length <;> rfl
 ·have e4 : decide ((b.fTypes.length : Int) > 8) = true := by simp; omega
  rw [e4]
  cases D5 b.fName <;> cases decide (b.fKind ≥ 1) <;> cases decide (b.fKind ≤ 4) <;> cases decide ((b.fTypes.length : Int) < 1) <;> rfl
end Go.Sh

namespace Go.Sh
open Go.AE
set_option linter.unusedVariables false
set_option linter.unusedSimpArgs false
def aC (b : a8) (x : Int) : Bool := decide (x < 0) || decide (x ≥ (b.fTypes.length : Int))
def s6 (b : a8) (l : List Int) : Int := bif !valid b then 100 else bif l.any (aC b) then 2 else 0
theorem ey {k : Nat} {b : a8} {l : List Int} (hk : maxLen + 10 ≤ k) (hw : d8 b) (hl : l.length ≤ 1000) : bM k b l = some (s6 b l) := by
 have e63 := m0
 obtain ⟨k, rfl, hq⟩ := i9 hk
 have hc : B7 k l (fun j x0 => aP j x0 b) = some (l.any (aC b)) := by
  refine mt (by omega) (by omega) (fun k' e x hx => ?_)
  obtain ⟨k', rfl, _⟩ := i9 (show 0 + 1 ≤ k' by omega)
  simp only [aP, aC]
  cases decide (x < 0) <;> cases decide (x ≥ (b.fTypes.length : Int)) <;> rfl
 simp only [bM, my (show maxLen + 9 ≤ k by omega) hw, hc, Option.bind_some]
 unfold s6
 cases valid b <;> cases l.any (aC b) <;> rfl
theorem ep {b : a8} {l : List Int} (h : s6 b l = 0) : valid b = true ∧ ∀ x ∈ l, 0 ≤ x ∧ x < (b.fTypes.length : Int) := by
 unfold s6 at h
 cases hv : valid b with
 | false => rw [hv] at h; simp at h
 | true =>
  rw [hv] at h
  cases ha : l.any (aC b) with
  | true => rw [ha] at h; simp at h
  | false =>
   refine ⟨rfl, fun x hx => ?_⟩
   rw [List.any_eq_false] at ha
   have := ha x hx
   unfold aC at this
   simp at this
   omega
theorem pY {b : a8} (h : valid b = true) : Up b.fTypes b.fTypes.length ∧ 1 ≤ b.fTypes.length ∧ b.fTypes.length ≤ 8 := by
 unfold valid fK at h
 simp only [Bool.and_eq_true, Bool.not_eq_true', Bool.or_eq_false_iff, decide_eq_false_iff_not] at h
 obtain ⟨_, _, _, ⟨⟨h1, h2⟩, h3⟩, _⟩ := h
 exact ⟨vQ _ (T6.1 h3), by omega, by omega⟩
theorem hZ {b : a8} {n : Nat} {K : Int → List Int → Option (List Int)} (hu : Up b.fTypes n) (hlen : n ≤ b.fTypes.length) (hs : n ≤ 1000) : ∀ (d : Nat) (x : Int) (w : List Int) (m : Nat), x < (d : Int) → x < (n : Int) → d < m → w.length + d ≤ 1000 →
  ∃ y, aK b K m x w = K y (w ++ (C7 b.fTypes d x).reverse)
 | d, x, w, 0, _, _, hm, _ => by omega
 | d, x, w, m + 1, hd, hn, hm, hwl => by
  rw [aK]
  by_cases h0 : 0 ≤ x
  ·have hx : x.toNat < b.fTypes.length := by omega
   have hp := hu x.toNat hx (by omega)
   cases d with
   | zero => omega
   | succ d =>
    simp only [show decide (x ≥ 0) = true by simp; omega, cond_true, bl h0 (show x < (b.fTypes.length : Int) by omega), Option.bind_some]
    rw [bH (by simp only [List.length_cons, List.length_nil, l4]; omega)]
    simp only [Option.bind_some]
    obtain ⟨y, hy⟩ := hZ (K := K) hu hlen hs d (b.fTypes[x.toNat]).fParent (w ++ [x]) m (by omega) (by omega) (by omega) (by simp; omega)
    refine ⟨y, hy.trans ?_⟩
    rw [C7, if_pos h0, List.getElem?_eq_getElem hx]
    simp
  ·rw [S3 (by omega)]
   refine ⟨x, ?_⟩
   simp only [show decide (x ≥ 0) = false by simp; omega, cond_false, List.reverse_nil, List.append_nil]
theorem ld {k : Nat} {b : a8} {n i : Nat} (hu : Up b.fTypes n) (hlen : n ≤ b.fTypes.length) (hs : n ≤ 500) (hi : i < n) (hk : 1000 ≤ k) : js k b (i : Int) = some (way b.fTypes i) := by
 obtain ⟨k, rfl, hq⟩ := i9 (c := 999) (by omega : 999 + 1 ≤ k)
 obtain ⟨y, hy⟩ := hZ (K := fun y11 y12 => (((slices_Reverse_int k y12).bind (cq y12)).bind fun o14 => (some o14))) hu hlen (by omega) (i + 1) (i : Int) [] k (by omega) (by omega) (by omega) (by simp; omega)
 refine Eq.trans (show js (k + 1) b (i : Int) = aK b (fun y11 y12 => (((slices_Reverse_int k y12).bind (cq y12)).bind fun o14 => (some o14))) k (i : Int) [] from rfl) (hy.trans ?_)
 rw [List.nil_append]
 obtain ⟨k, rfl, _⟩ := i9 (show 0 + 1 ≤ k by omega)
 have hl := ga (ts := b.fTypes) (i + 1) (i : Int)
 have hble : Nat.ble (C7 b.fTypes (i + 1) (i : Int)).length 9223372036854775807 = true := Nat.ble_eq_true_of_le (by omega)
 simp only [slices_Reverse_int, ns, List.length_reverse, hble, cond_true, List.reverse_reverse, Option.bind_some, cq, if_pos]
 rfl
def tQ (b : a8) (t : Int) : List Int × Int := bif s6 b [t] != 0 then ([], s6 b [t]) else (way b.fTypes t.toNat, 0)
theorem rM {k : Nat} {b : a8} {t : Int} (hk : maxLen + 11 ≤ k) (hw : d8 b) : kZ k b t = some (tQ b t) := by
 have e63 := m0
 obtain ⟨k, rfl, hq⟩ := i9 hk
 simp only [kZ, ey hq hw (show [t].length ≤ 1000 by simp), Option.bind_some]
 unfold tQ
 by_cases h : s6 b [t] = 0
 ·obtain ⟨hv, hx⟩ := ep h
  have ht := hx t (by simp)
  obtain ⟨hup, h1, h8⟩ := pY hv
  have := ld (k := k) hup (Nat.le_refl _) (by omega) (show t.toNat < b.fTypes.length by omega) (by omega)
  rw [show ((t.toNat : Nat) : Int) = t by omega] at this
  simp only [this, h, Option.bind_some]
  rfl
 ·have : (s6 b [t] != 0) = true := by simpa using h
  simp only [this, cond_true]
end Go.Sh

namespace Go.Sh
open Go.AE
set_option linter.unusedVariables false
set_option linter.unusedSimpArgs false
theorem rJ {k : Nat} {l : List Int} {y : Int} (hk : l.length + 3 ≤ k) (hn : l.length ≤ maxLen) : J7 k l y = some (l.any (fun x => y == x)) := by
 obtain ⟨k, rfl, hq⟩ := i9 hk
 simp only [J7, qM hq hn, Option.bind_some, fE]
theorem bY {k : Nat} {b : a8} {l : List Int} (hk : maxLen + 10 ≤ k) (hw : d8 b) (hl : l.length ≤ 10) : Y1 k b l = some (s6 b l) := by
 have e63 := m0
 obtain ⟨k, rfl, hq⟩ := i9 hk
 simp only [Y1, fG (show maxLen + 9 ≤ k by omega) hw, Option.bind_some]
 unfold s6
 cases valid b with
 | false => rfl
 | true =>
  simp only [Bool.not_true, cond_false]
  rw [← kP]
  refine Eq.trans (aQ (L := fun m x => N0 k b l _ m x) (n := l.length) (g := at' l (aC b)) (r := fun _ => some 2) (z := some 0) ?_ ?_ (by omega)) ?_
  rotate_left 2
  ·rw [C1]
   cases W0 (at' l (aC b)) l.length <;> rfl
  ·intro m i hi _
   obtain ⟨k, rfl, _⟩ := i9 (show 0 + 1 ≤ k by omega)
   simp only [N0, bu, u7 hi, p6 hi, m8 hi (show l.length ≤ maxLen by omega), Option.bind_some, show decide ((i : Int) < (l.length : Int)) = true by simp; exact hi, cond_true, aC]
   have e1 : decide (l[i] ≥ 0) = !decide (l[i] < 0) := by rw [← decide_not]; apply decide_eq_decide.2; omega
   have e2 : decide (l[i] < (b.fTypes.length : Int)) = !decide (l[i] ≥ (b.fTypes.length : Int)) := by rw [← decide_not]; apply decide_eq_decide.2; omega
   rw [e1, e2]
   cases decide (l[i] < 0) <;> cases decide (l[i] ≥ (b.fTypes.length : Int)) <;> rfl
  ·intro m _
   simp only [N0, show decide ((l.length : Int) < (l.length : Int)) = false by simp, cond_false]
theorem oH {k : Nat} {b : a8} {t : Int} (hk : maxLen + 12 ≤ k) (hw : d8 b) : gd k b t = some (((tQ b t).1.length : Int), (tQ b t).2) := by
 obtain ⟨k, rfl, hq⟩ := i9 hk
 simp only [gd, rM hq hw, Option.bind_some]
def Y7 (b : a8) (a t : Int) : Bool × Int := bif s6 b [a, t] != 0 then (false, s6 b [a, t]) else ((a != t) && (way b.fTypes t.toNat).any (fun z => a == z), 0)
theorem mu {k : Nat} {b : a8} {a t : Int} (hk : maxLen + 11 ≤ k) (hw : d8 b) : cx k b a t = some (Y7 b a t) := by
 have e63 := m0
 obtain ⟨k, rfl, hq⟩ := i9 hk
 simp only [cx, ey hq hw (show [a, t].length ≤ 1000 by simp), Option.bind_some]
 unfold Y7
 by_cases h : s6 b [a, t] = 0
 ·obtain ⟨hv, hx⟩ := ep h
  have ht := hx t (by simp)
  obtain ⟨hup, h1, h8⟩ := pY hv
  have := ld (k := k) hup (Nat.le_refl _) (by omega) (show t.toNat < b.fTypes.length by omega) (by omega)
  rw [show ((t.toNat : Nat) : Int) = t by omega] at this
  have hl := ga (ts := b.fTypes) (t.toNat + 1) (t.toNat : Int)
  have hl' : (way b.fTypes t.toNat).length ≤ 8 := by unfold way; omega
  simp only [this, h, bne_self_eq_false, cond_false, Option.bind_some, rJ (show (way b.fTypes t.toNat).length + 3 ≤ k by omega) (show (way b.fTypes t.toNat).length ≤ maxLen by omega)]
  cases (a != t) <;> rfl
 ·have : (s6 b [a, t] != 0) = true := by simpa using h
  simp only [this, cond_true]
theorem kz {k : Nat} {b : a8} {a t : Int} (hk : maxLen + 11 ≤ k) (hw : d8 b) : ar k b a t = some (Y7 b a t) := by
 have e63 := m0
 obtain ⟨k, rfl, hq⟩ := i9 hk
 simp only [ar, bY hq hw (show [a, t].length ≤ 10 by simp), Option.bind_some]
 unfold Y7
 by_cases h : s6 b [a, t] = 0
 ·obtain ⟨hv, hx⟩ := ep h
  have ht := hx t (by simp)
  obtain ⟨hup, h1, h8⟩ := pY hv
  have htl : t.toNat < b.fTypes.length := by omega
  have := gk (k := k) (a := a) hup (Nat.le_refl _) (by omega) htl (by omega)
  rw [show ((t.toNat : Nat) : Int) = t by omega] at this
  have hp := hup t.toNat htl htl
  have hsame : (C7 b.fTypes b.fTypes.length (b.fTypes[t.toNat]).fParent).any (fun z => a == z) = ((a != t) && (way b.fTypes t.toNat).any (fun z => a == z)) := by
   rw [mm hup htl htl, show ((t.toNat : Nat) : Int) = t by omega]
   simp only [List.any_append, List.any_cons, List.any_nil, Bool.or_false]
   by_cases e : a = t
   ·subst e
    simp only [bne_self_eq_false, Bool.false_and]
    rw [List.any_eq_false]
    intro z hz
    have := gb hup _ _ (by omega) z hz
    simp
    omega
   ·have e1 : (a == t) = false := by simpa using e
    have e2 : (a != t) = true := by simpa using e
    rw [e1, e2, Bool.or_false, Bool.true_and]
  simp only [this, h, bne_self_eq_false, cond_false, Option.bind_some, hsame]
 ·have : (s6 b [a, t] != 0) = true := by simpa using h
  simp only [this, cond_true]
def dJ (x : Int) : Int × Int := bif decide (x < 0) then (0, 5) else (x, 0)
theorem oL {k : Nat} {x : Int} (hk : 1 ≤ k) : ge k x = some (dJ x) := by
 obtain ⟨k, rfl, hq⟩ := i9 (c := 0) hk
 simp only [ge, dJ]
 cases decide (x < 0) <;> rfl
theorem qH {α : Type} (l : List α) (p : α → Bool) : dJ (pos l p) = eX (at' l p) (fun i => ((i : Int), (0 : Int))) (0, 5) l.length 0 := by
 unfold pos
 rw [jh dJ]
 refine kI _ _ (fun j _ _ _ => ⟨rfl, fun _ => ?_⟩) (fun _ => rfl)
 unfold dJ
 rw [show decide ((j : Int) < 0) = false by simp]
 rfl
def r9 (b : a8) (s : Str) : Int × Int := bif s6 b [] != 0 then (0, s6 b []) else dJ (pos b.fTypes (fun t => t.fName == s))
theorem jM {k : Nat} {b : a8} {s : Str} (hk : maxLen + 11 ≤ k) (hw : d8 b) : cy k b s = some (r9 b s) := by
 obtain ⟨k, rfl, hq⟩ := i9 hk
 have hl := hw.2.2.1.1
 have hi : D4 k b.fTypes (fun j x0 => ex j x0 s) = some (pos b.fTypes (fun t => t.fName == s)) := by
  refine iP (by omega) hl (fun k' e x hx => ?_)
  obtain ⟨k', rfl, _⟩ := i9 (show 0 + 1 ≤ k' by omega)
  rfl
 simp only [cy, ey hq hw (show ([] : List Int).length ≤ 1000 by simp), hi, oL (show 1 ≤ k by omega), Option.bind_some]
 unfold r9
 cases (s6 b [] != 0) <;> rfl
theorem dq {k : Nat} {b : a8} {s : Str} (hk : maxLen + 11 ≤ k) (hw : d8 b) : M9 k b s = some (r9 b s) := by
 obtain ⟨k, rfl, hq⟩ := i9 hk
 have hl := hw.2.2.1.1
 simp only [M9, bY hq hw (show ([] : List Int).length ≤ 10 by simp), Option.bind_some]
 unfold r9
 cases (s6 b [] != 0) with
 | true => rfl
 | false =>
  simp only [cond_false]
  rw [qH, jh some]
  refine aQ (L := fun m x => R2 b s _ m x) (n := b.fTypes.length) (g := at' b.fTypes (fun t => t.fName == s)) (r := fun i => some ((i : Int), (0 : Int))) (z := some (0, 5)) ?_ ?_ (by omega)
  ·intro m i hi _
   simp only [R2, u7 hi, p6 hi, m8 hi hl, Option.bind_some, show decide ((i : Int) < (b.fTypes.length : Int)) = true by simp; exact hi, cond_true]
  ·intro m _
   simp only [R2, show decide ((b.fTypes.length : Int) < (b.fTypes.length : Int)) = false by simp, cond_false]
def rT (b : a8) (t : Int) (s : Str) : Int × Int := bif s6 b [t] != 0 then (0, s6 b [t]) else match idx b.fTypes t with | some x => dJ (pos x.fFields (fun f => f.fName == s)) | none => (0, 0)
theorem nc {k : Nat} {b : a8} {t : Int} {s : Str} (hk : maxLen + 11 ≤ k) (hw : d8 b) : cJ k b t s = some (rT b t s) := by
 obtain ⟨k, rfl, hq⟩ := i9 hk
 simp only [cJ, bY hq hw (show [t].length ≤ 10 by simp), Option.bind_some]
 unfold rT
 by_cases h : s6 b [t] = 0
 ·obtain ⟨hv, hx⟩ := ep h
  have ht := hx t (by simp)
  have htl : t.toNat < b.fTypes.length := by omega
  have hl := (hw.2.2.1.2 _ (List.getElem_mem htl)).2.2.2.2.1.1
  have hix := bl (l := b.fTypes) ht.1 ht.2
  rw [hix]
  simp only [h, bne_self_eq_false, cond_false]
  rw [qH, jh some]
  refine aQ (L := fun m x => M8 b t s _ m x) (n := (b.fTypes[t.toNat]).fFields.length) (g := at' (b.fTypes[t.toNat]).fFields (fun f => f.fName == s)) (r := fun i => some ((i : Int), (0 : Int))) (z := some (0, 5)) ?_ ?_ (by omega)
  ·intro m i hi _
   simp only [M8, hix, u7 hi, p6 hi, m8 hi hl, Option.bind_some, show decide ((i : Int) < ((b.fTypes[t.toNat]).fFields.length : Int)) = true by simp; exact hi, cond_true]
  ·intro m _
   simp only [M8, hix, Option.bind_some, show decide (((b.fTypes[t.toNat]).fFields.length : Int) < ((b.fTypes[t.toNat]).fFields.length : Int)) = false by simp, cond_false]
 ·have : (s6 b [t] != 0) = true := by simpa using h
  simp only [this, cond_true]
end Go.Sh

namespace Go.Sh
open Go.AE
set_option linter.unusedVariables false
set_option linter.unusedSimpArgs false
theorem ow {b : a8} (hv : valid b = true) {i : Nat} (hi : i < b.fTypes.length) : A2 b.fTypes[i] = true := by
 unfold valid fK at hv
 simp only [Bool.and_eq_true, Bool.not_eq_true'] at hv
 obtain ⟨_, _, _, ⟨_, h3⟩, _⟩ := hv
 have := T6.1 h3 i hi
 rw [az, u7 hi] at this
 simp only [Bool.or_eq_false_iff] at this
 simpa using this.1.1
theorem cC {t : b8} (ht : A2 t = true) {j : Nat} (hj : j < t.fFields.length) : 0 ≤ (t.fFields[j]).fAt ∧ 1 ≤ (t.fFields[j]).fBytes ∧ (t.fFields[j]).fAt + (t.fFields[j]).fBytes ≤ 40 := by
 unfold A2 eC at ht
 simp only [Bool.and_eq_true, Bool.not_eq_true', Bool.or_eq_false_iff, Bool.not_eq_false', decide_eq_false_iff_not] at ht
 obtain ⟨⟨_, h1, h2, h3, h4, _⟩, _⟩ := ht
 have := T6.1 h4 j hj
 rw [U4, u7 hj] at this
 simp only [Bool.or_eq_false_iff, decide_eq_false_iff_not] at this
 obtain ⟨⟨_, g1, g2, g3, g4⟩, _⟩ := this
 rw [W7 (by omega) (by omega)] at g4
 omega
end Go.Sh

namespace Go.Sh
open Go.AE
set_option linter.unusedVariables false
set_option linter.unusedSimpArgs false
abbrev y4 := List (List a6)
theorem pd {k : Nat} {l : List a6} {p : a6 → Bool} {f : Nat → a6 → Option Bool} (hk : l.length + 2 ≤ k) (hn : l.length ≤ maxLen) (hp : ∀ k', k' + 1 = k → ∀ x ∈ l, f k' x = some (p x)) : N7 k l f = some (pos l p) := by
 obtain ⟨k, rfl, hq⟩ := i9 hk
 exact K8 (hp k rfl) (L := fun m x => D6 k l f _ m x) (fun m x => rfl) rfl hn (by omega)
theorem kW {k : Nat} {l : List a6} {p : a6 → Bool} {f : Nat → a6 → Option Bool} (hk : l.length + 3 ≤ k) (hn : l.length ≤ maxLen) (hp : ∀ k', k' + 2 = k → ∀ x ∈ l, f k' x = some (p x)) : B1 k l f = some (l.any p) := by
 obtain ⟨k, rfl, hq⟩ := i9 hk
 simp only [B1, pd hq hn (fun k' e => hp k' (by omega)), Option.bind_some, fE]
theorem nW {k : Nat} {l : List (List a6)} {p : List a6 → Bool} {f : Nat → List a6 → Option Bool} (hk : l.length + 2 ≤ k) (hn : l.length ≤ maxLen) (hp : ∀ k', k' + 1 = k → ∀ x ∈ l, f k' x = some (p x)) : K6 k l f = some (pos l p) := by
 obtain ⟨k, rfl, hq⟩ := i9 hk
 exact K8 (hp k rfl) (L := fun m x => C9 k l f _ m x) (fun m x => rfl) rfl hn (by omega)
theorem jW {k : Nat} {l : List (List a6)} {p : List a6 → Bool} {f : Nat → List a6 → Option Bool} (hk : l.length + 3 ≤ k) (hn : l.length ≤ maxLen) (hp : ∀ k', k' + 2 = k → ∀ x ∈ l, f k' x = some (p x)) : A6 k l f = some (l.any p) := by
 obtain ⟨k, rfl, hq⟩ := i9 hk
 simp only [A6, nW hq hn (fun k' e => hp k' (by omega)), Option.bind_some, fE]
theorem mJ {k : Nat} {l : List (List (List a6))} {p : List (List a6) → Bool} {f : Nat → List (List a6) → Option Bool} (hk : l.length + 2 ≤ k) (hn : l.length ≤ maxLen) (hp : ∀ k', k' + 1 = k → ∀ x ∈ l, f k' x = some (p x)) : I6 k l f = some (pos l p) := by
 obtain ⟨k, rfl, hq⟩ := i9 hk
 exact K8 (hp k rfl) (L := fun m x => C4 k l f _ m x) (fun m x => rfl) rfl hn (by omega)
theorem jy {k : Nat} {l : List (List (List a6))} {p : List (List a6) → Bool} {f : Nat → List (List a6) → Option Bool} (hk : l.length + 3 ≤ k) (hn : l.length ≤ maxLen) (hp : ∀ k', k' + 2 = k → ∀ x ∈ l, f k' x = some (p x)) : z7 k l f = some (l.any p) := by
 obtain ⟨k, rfl, hq⟩ := i9 hk
 simp only [z7, mJ hq hn (fun k' e => hp k' (by omega)), Option.bind_some, fE]
def fieldAt (x : b8) (s : Str) : Int := pos x.fFields (fun f => f.fName == s)
def T1 (x : b8) (t : a6) : Bool := decide (fieldAt x t.fField ≥ 0) && (decide (t.fOp ≥ 1) && (decide (t.fOp ≤ 6) && (match idx x.fFields (fieldAt x t.fField) with | some f => ((t.fValue.length : Int) == f.fBytes) | none => false)))
def bk (x : b8) (g : List a6) : Bool := decide ((g.length : Int) < 1) || (decide ((g.length : Int) > 4) || g.any (fun t => !T1 x t))
def B5 (x : b8) (c : y4) : Bool := decide ((c.length : Int) ≤ 4) && !c.any (bk x)
theorem kh (x : b8) (s : Str) : fieldAt x s < (x.fFields.length : Int) := by
 unfold fieldAt
 rcases L6 x.fFields (fun f => f.fName == s) with ⟨_, h⟩ | ⟨j, h1, _, _, h⟩ <;> rw [h] <;> omega
theorem M6 {k : Nat} {b : a8} {t : Int} (hk : maxLen + 13 ≤ k) (hw : d8 b) : X9 k b t = some (s6 b [t]) := by
 obtain ⟨k, rfl, hq⟩ := i9 hk
 simp only [X9, oH hq hw, Option.bind_some, tQ]
 by_cases h : s6 b [t] = 0
 ·rw [h]; rfl
 ·have : (s6 b [t] != 0) = true := by simpa using h
  simp only [this, cond_true]
theorem V1 {k : Nat} {b : a8} {t : Int} (hk : maxLen + 10 ≤ k) (hw : d8 b) : ac k b t = some (s6 b [t]) := by
 obtain ⟨k, rfl, hq⟩ := i9 hk
 simp only [ac, fG hq hw, Option.bind_some, s6, List.any_cons, List.any_nil, Bool.or_false, aC]
 cases valid b <;> cases decide (t < 0) <;> cases decide (t ≥ (b.fTypes.length : Int)) <;> rfl
theorem Y0 {k : Nat} {x : b8} {s : Str} (hk : maxLen + 4 ≤ k) (hx : x.fFields.length ≤ maxLen) : aS k x s = some (fieldAt x s, decide (fieldAt x s ≥ 0)) := by
 obtain ⟨k, rfl, hq⟩ := i9 hk
 have : C6 k x.fFields (fun j x0 => ao j x0 s) = some (fieldAt x s) := by
  refine ia (by omega) hx (fun k' e f hf => ?_)
  obtain ⟨k', rfl, _⟩ := i9 (show 0 + 1 ≤ k' by omega)
  rfl
 simp only [aS, this, Option.bind_some]
theorem dl {k : Nat} {x : b8} {t : a6} (hk : maxLen + 5 ≤ k) (hx : x.fFields.length ≤ maxLen) : bm k x t = some (T1 x t) := by
 obtain ⟨k, rfl, hq⟩ := i9 hk
 simp only [bm, Y0 hq hx, Option.bind_some, T1]
 by_cases h : fieldAt x t.fField ≥ 0
 ·rw [decide_eq_true h, bl h (kh x _)]
  cases decide (t.fOp ≥ 1) <;> cases decide (t.fOp ≤ 6) <;> rfl
 ·rw [decide_eq_false h]
  rfl
theorem bT {k : Nat} {x : b8} {g : List a6} (hk : maxLen + 9 ≤ k) (hx : x.fFields.length ≤ maxLen) (hg : g.length ≤ maxLen) : Q9 k g x = some (bk x g) := by
 obtain ⟨k, rfl, hq⟩ := i9 hk
 have : B1 k g (fun j x0 => O7 j x0 x) = some (g.any (fun t => !T1 x t)) := by
  refine kW (by omega) hg (fun k' e t _ => ?_)
  obtain ⟨k', rfl, hq'⟩ := i9 (show maxLen + 5 + 1 ≤ k' by omega)
  simp only [O7, dl hq' hx, Option.bind_some]
 simp only [Q9, this, bk]
 cases decide ((g.length : Int) < 1) <;> cases decide ((g.length : Int) > 4) <;> rfl
theorem M7 {k : Nat} {x : b8} {c : y4} (hk : maxLen + 13 ≤ k) (hx : x.fFields.length ≤ maxLen) (hc : wfL (wfL o0) c) : T3 k x c = some (B5 x c) := by
 obtain ⟨k, rfl, hq⟩ := i9 hk
 have : A6 k c (fun j x0 => Q9 j x0 x) = some (c.any (bk x)) :=
  jW (by have := hc.1; omega) hc.1 (fun k' e g hg => bT (by omega) hx (hc.2 g hg).1)
 simp only [T3, this, B5]
 cases decide ((c.length : Int) ≤ 4) <;> rfl
def vT : b8 := { fName := [], fParent := 0, fMin := 0, fSize := 0, fFields := [], fKey := 0, fUnique := false, fLast := false }
def R7 (b : a8) (t : Int) (cs : List y4) : b8 × Int := bif s6 b [t] != 0 then (vT, s6 b [t]) else match idx b.fTypes t with
 | some x => bif cs.any (fun c => !B5 x c) then (vT, 110) else (x, 0)
 | none => (vT, 0)
theorem aI {b : a8} {t : Int} (hw : d8 b) (h : s6 b [t] = 0) : ∃ x, idx b.fTypes t = some x ∧ F0 x ∧ A2 x = true ∧ 0 ≤ t ∧ t < (b.fTypes.length : Int) ∧ x ∈ b.fTypes := by
 obtain ⟨hv, hx⟩ := ep h
 have ht := hx t (by simp)
 have htl : t.toNat < b.fTypes.length := by omega
 exact ⟨_, bl ht.1 ht.2, hw.2.2.1.2 _ (List.getElem_mem htl), ow hv htl, ht.1, ht.2, List.getElem_mem htl⟩
theorem R8 {k : Nat} {b : a8} {t : Int} {cs : List y4} (hk : maxLen + 18 ≤ k) (hw : d8 b) (hl : cs.length ≤ 10) (hc : ∀ c ∈ cs, wfL (wfL o0) c) : L4 k b t cs = some (R7 b t cs) := by
 have e63 := m0
 obtain ⟨k, rfl, hq⟩ := i9 hk
 simp only [L4, M6 (show maxLen + 13 ≤ k by omega) hw, Option.bind_some, R7]
 by_cases h : s6 b [t] = 0
 ·obtain ⟨x, hx, hwx, hok, _, _, _⟩ := aI hw h
  have : z7 k cs (fun j x0 => H1 j x0 x) = some (cs.any (fun c => !B5 x c)) := by
   refine jy (by omega) (by omega) (fun k' e c hcc => ?_)
   obtain ⟨k', rfl, hq'⟩ := i9 (show maxLen + 13 + 1 ≤ k' by omega)
   simp only [H1, M7 hq' hwx.2.2.2.2.1.1 (hc c hcc), Option.bind_some]
  simp only [h, bne_self_eq_false, cond_false, hx, Option.bind_some, this]
  cases cs.any (fun c => !B5 x c) <;> rfl
 ·have : (s6 b [t] != 0) = true := by simpa using h
  simp only [this, cond_true]
  rfl
theorem dx {k : Nat} {b : a8} {t : Int} {x : b8} {g : a6} (hk : maxLen + 12 ≤ k) (hw : d8 b) (h : s6 b [t] = 0) (hx : idx b.fTypes t = some x) : Z9 k b t g = some (T1 x g) := by
 obtain ⟨k, rfl, hq⟩ := i9 hk
 simp only [Z9, nc hq hw, Option.bind_some, rT, h, bne_self_eq_false, cond_false, hx, T1]
 show _ = some (decide (fieldAt x g.fField ≥ 0) && _)
 change ((bif ((dJ (fieldAt x g.fField)).2 == 0) then _ else _ : Option Bool).bind _) = _
 change ((bif ((dJ (fieldAt x g.fField)).2 == 0) then (bif decide (g.fOp ≥ 1) then (bif decide (g.fOp ≤ 6) then ((idx x.fFields (dJ (fieldAt x g.fField)).1).bind fun v4 => some ((g.fValue.length : Int) == v4.fBytes)) else some false) else some false) else some false : Option Bool).bind _) = _
 unfold dJ
 by_cases hp : fieldAt x g.fField ≥ 0
 ·rw [decide_eq_true hp, decide_eq_false (show ¬ fieldAt x g.fField < 0 by omega), bl hp (kh x _)]
  simp only [cond_false, beq_self_eq_true, cond_true, bl hp (kh x _), Option.bind_some]
  cases decide (g.fOp ≥ 1) <;> cases decide (g.fOp ≤ 6) <;> rfl
 ·rw [decide_eq_false hp, decide_eq_true (show fieldAt x g.fField < 0 by omega)]
  rfl
theorem ph {k : Nat} {b : a8} {t : Int} {x : b8} {c : y4} {i m : Nat} {K : Option Bool} (hk : maxLen + 12 ≤ k) (hw : d8 b) (h : s6 b [t] = 0) (hx : idx b.fTypes t = some x) (hi : i < c.length) (hl : (c[i]).length ≤ maxLen) (hm : maxLen < m) :
  A3 k b t c (i : Int) (fun _ => K) m 0 = bif (c[i]).any (fun g => !T1 x g) then some false else K := by
 refine Eq.trans (aQ (L := fun m x => A3 k b t c (i : Int) (fun _ => K) m x) (n := (c[i]).length) (g := at' c[i] (fun g => !T1 x g)) (r := fun _ => some false) (z := K) ?_ ?_ (by omega)) ?_
 rotate_left 2
 ·rw [C1, kP]
 ·intro m j hj _
  simp only [A3, p6 hi, p6 hj, u7 hj, Option.bind_some, m8 hj hl, show decide ((j : Int) < ((c[i]).length : Int)) = true by simp; exact hj, cond_true, dx hk hw h hx]
 ·intro m _
  simp only [A3, p6 hi, Option.bind_some, show decide (((c[i]).length : Int) < ((c[i]).length : Int)) = false by simp, cond_false]
theorem w7 {k : Nat} {b : a8} {t : Int} {x : b8} {c : y4} (hk : maxLen + 13 ≤ k) (hw : d8 b) (hc : wfL (wfL o0) c) (h : s6 b [t] = 0) (hx : idx b.fTypes t = some x) : B3 k b t c = some (B5 x c) := by
 obtain ⟨k, rfl, hq⟩ := i9 hk
 simp only [B3]
 refine Eq.trans (aQ (L := fun m x => C0 k b t c _ m x) (n := c.length) (g := at' c (bk x)) (r := fun _ => some false) (z := some (decide ((c.length : Int) ≤ 4))) ?_ ?_ (by have := hc.1; omega)) ?_
 rotate_left 2
 ·rw [C1, kP, B5]
  cases c.any (bk x) <;> cases decide ((c.length : Int) ≤ 4) <;> rfl
 ·intro m i hi _
  simp only [C0, p6 hi, u7 hi, Option.bind_some, m8 hi hc.1, show decide ((i : Int) < (c.length : Int)) = true by simp; exact hi, cond_true, ph (m := k) hq hw h hx hi (hc.2 _ (List.getElem_mem hi)).1 (by omega), bk]
  cases decide (((c[i]).length : Int) < 1) <;> cases decide (((c[i]).length : Int) > 4) <;> rfl
 ·intro m _
  simp only [C0, show decide ((c.length : Int) < (c.length : Int)) = false by simp, cond_false]
theorem eS {k : Nat} {b : a8} {t : Int} {c d : y4} (hk : maxLen + 14 ≤ k) (hw : d8 b) (hc : wfL (wfL o0) c) (hd : wfL (wfL o0) d) : cM k b t c d = some (R7 b t [c, d]).2 := by
 obtain ⟨k, rfl, hq⟩ := i9 hk
 simp only [cM, V1 (show maxLen + 10 ≤ k by omega) hw, Option.bind_some, R7]
 by_cases h : s6 b [t] = 0
 ·obtain ⟨x, hx, _⟩ := aI hw h
  simp only [h, hx, bne_self_eq_false, beq_self_eq_true, cond_true, cond_false, w7 hq hw hc h hx, w7 hq hw hd h hx, Option.bind_some, List.any_cons, List.any_nil, Bool.or_false]
  cases B5 x c <;> cases B5 x d <;> rfl
 ·have h1 : (s6 b [t] != 0) = true := by simpa using h
  have h2 : (s6 b [t] == 0) = false := by simpa using h
  simp only [h1, h2, cond_true, cond_false, Option.bind_some]
end Go.Sh

namespace Go.Sh
open Go.AE
set_option linter.unusedVariables false
set_option linter.unusedSimpArgs false
theorem pV {S β : Type} {n : Nat} {L : Nat → Int → S → Option β}
  (hs : ∀ m i s, i < n → (∃ r, L (m + 1) (i : Int) s = some r) ∨ ∃ s', L (m + 1) (i : Int) s = L m ((i + 1 : Nat) : Int) s')
  (he : ∀ m s, ∃ r, L (m + 1) (n : Int) s = some r) : ∀ d i m, i + d = n → d < m → ∀ s, ∃ r, L m (i : Int) s = some r
 | 0, i, m, hd, hm, s => by
  obtain ⟨m, rfl⟩ : ∃ q, m = q + 1 := ⟨m - 1, by omega⟩
  obtain rfl : i = n := by omega
  exact he m s
 | d + 1, i, m, hd, hm, s => by
  obtain ⟨m, rfl⟩ : ∃ q, m = q + 1 := ⟨m - 1, by omega⟩
  rcases hs m i s (by omega) with h | ⟨s', h⟩
  ·exact h
  ·rw [h]
   exact pV hs he d (i + 1) m (by omega) (by omega) s'
theorem bif3 {b1 b2 b3 : Bool} {β : Type} {f : Bool → Option β} : ((bif b1 then some true else (bif b2 then some true else some b3)).bind f) = f (b1 || (b2 || b3)) := by
 cases b1 <;> cases b2 <;> rfl
theorem vI {β : Type} {n : Nat} {L : Nat → Int → Option β} (hs : ∀ m i, i < n → (∃ r, L (m + 1) (i : Int) = some r) ∨ L (m + 1) (i : Int) = L m ((i + 1 : Nat) : Int)) (he : ∀ m, ∃ r, L (m + 1) (n : Int) = some r) {m : Nat} (hm : n < m) : ∃ r, L m 0 = some r :=
 pV (S := Unit) (L := fun m x _ => L m x) (fun m i _ hi => (hs m i hi).imp id (fun h => ⟨(), h⟩)) (fun m _ => he m) n 0 m (by omega) hm ()
theorem Fr {β : Type} {n : Nat} {L : Nat → Int → Option β} {K : Option β} (hs : ∀ m i, i < n → (∃ r, L (m + 1) (i : Int) = some r) ∨ L (m + 1) (i : Int) = L m ((i + 1 : Nat) : Int)) (he : ∀ m, (∃ r, L (m + 1) (n : Int) = some r) ∨ L (m + 1) (n : Int) = K) {m : Nat} (hm : n < m) : (∃ r, L m 0 = some r) ∨ L m 0 = K := by
 have : ∀ d i m, i + d = n → d < m → (∃ r, L m (i : Int) = some r) ∨ L m (i : Int) = K := by
  intro d
  induction d with
  | zero =>
   intro i m hd hm
   obtain ⟨m, rfl⟩ : ∃ q, m = q + 1 := ⟨m - 1, by omega⟩
   obtain rfl : i = n := by omega
   exact he m
  | succ d ih =>
   intro i m hd hm
   obtain ⟨m, rfl⟩ : ∃ q, m = q + 1 := ⟨m - 1, by omega⟩
   rcases hs m i (by omega) with h | h
   ·exact .inl h
   ·rw [h]; exact ih (i + 1) m (by omega) (by omega)
 exact this n 0 m (by omega) hm
theorem Fw {b1 b2 : Bool} {β : Type} {f : Bool → Option β} : ((bif b1 then some true else some b2).bind f) = f (b1 || b2) := by
 cases b1 <;> rfl
theorem sG {β : Type} {b : Bool} {r : β} {x : Option β} : (∃ q, (bif b then some r else x) = some q) ∨ (bif b then some r else x) = x := by
 cases b
 ·exact .inr rfl
 ·exact .inl ⟨_, rfl⟩
theorem tq {k : Nat} {b : a8} (hk : maxLen + 2 ≤ k) (hw : d8 b) : ∃ r, cG k b = some r := by
 obtain ⟨k, rfl, hq⟩ := i9 (c := maxLen + 1) hk
 have hl := hw.2.2.1.1
 have hl3 := hw.2.2.2.1.1
 simp only [cG, bif3]
 cases decide ((b.fTypes.length : Int) > 20) || (decide ((b.fIndexes.length : Int) > 20) || decide ((b.fName.length : Int) > 40)) with
 | true => exact ⟨_, rfl⟩
 | false =>
  simp only [cond_false]
  refine vI (L := fun m x => M2 k b _ m x) (n := b.fTypes.length) ?_ ?_ (by omega)
  ·intro m i hi
   simp only [M2, p6 hi, Option.bind_some, m8 hi hl, show decide ((i : Int) < (b.fTypes.length : Int)) = true by simp; exact hi, cond_true, Fw]
   cases decide (((b.fTypes[i]).fFields.length : Int) > 20) || decide (((b.fTypes[i]).fName.length : Int) > 40) with
   | true => exact .inl ⟨_, rfl⟩
   | false =>
    simp only [cond_false]
    have hlf := (hw.2.2.1.2 _ (List.getElem_mem hi)).2.2.2.2.1.1
    refine Fr (L := fun m x => M3 b (i : Int) _ m x) (n := (b.fTypes[i]).fFields.length) ?_ ?_ (by omega)
    ·intro m j hj
     simp only [M3, p6 hi, p6 hj, Option.bind_some, m8 hj hlf, show decide ((j : Int) < ((b.fTypes[i]).fFields.length : Int)) = true by simp; exact hj, cond_true]
     exact sG
    ·intro m
     simp only [M3, p6 hi, Option.bind_some, show decide (((b.fTypes[i]).fFields.length : Int) < ((b.fTypes[i]).fFields.length : Int)) = false by simp, cond_false]
     exact .inr trivial
  ·intro m
   simp only [M2, show decide ((b.fTypes.length : Int) < (b.fTypes.length : Int)) = false by simp, cond_false]
   refine vI (L := fun m x => M4 b _ m x) (n := b.fIndexes.length) ?_ ?_ (by omega)
   ·intro m i hi
    simp only [M4, p6 hi, Option.bind_some, m8 hi hl3, show decide ((i : Int) < (b.fIndexes.length : Int)) = true by simp; exact hi, cond_true, Fw]
    exact sG
   ·intro m
    simp only [M4, show decide ((b.fIndexes.length : Int) < (b.fIndexes.length : Int)) = false by simp, cond_false]
    exact ⟨_, rfl⟩
theorem uQ {k : Nat} {c : y4} (hk : maxLen + 2 ≤ k) (hc : wfL (wfL o0) c) : ∃ r, eF k c = some r := by
 obtain ⟨k, rfl, hq⟩ := i9 (c := maxLen + 1) hk
 simp only [eF]
 refine vI (L := fun m x => Q6 k c _ m x) (n := c.length) ?_ ?_ (by have := hc.1; omega)
 ·intro m i hi
  simp only [Q6, p6 hi, Option.bind_some, m8 hi hc.1, show decide ((i : Int) < (c.length : Int)) = true by simp; exact hi, cond_true]
  cases decide (((c[i]).length : Int) > 20) with
  | true => exact .inl ⟨_, rfl⟩
  | false =>
   simp only [cond_false]
   have hlf := (hc.2 _ (List.getElem_mem hi)).1
   refine Fr (L := fun m x => Q7 c (i : Int) _ m x) (n := (c[i]).length) ?_ ?_ (by omega)
   ·intro m j hj
    simp only [Q7, p6 hi, p6 hj, Option.bind_some, m8 hj hlf, show decide ((j : Int) < ((c[i]).length : Int)) = true by simp; exact hj, cond_true, Fw]
    exact sG
   ·intro m
    simp only [Q7, p6 hi, Option.bind_some, show decide (((c[i]).length : Int) < ((c[i]).length : Int)) = false by simp, cond_false]
    exact .inr trivial
 ·intro m
  simp only [Q6, show decide ((c.length : Int) < (c.length : Int)) = false by simp, cond_false]
  exact ⟨_, rfl⟩
theorem G3 {l : Str} (h : l.length ≤ 1000) : wfS l := by
 have e63 := m0
 show l.length ≤ maxLen
 omega
theorem L8 {n : Int} (h : -1000 ≤ n) (h' : n ≤ 1000) : wfI .i64 n := by
 unfold wfI Lit.wf
 have e1 : IntKind.i64.min = -9223372036854775808 := by decide
 have e2 : IntKind.i64.max = 9223372036854775807 := by decide
 simp only [e1, e2, Bool.and_eq_true, decide_eq_true_eq]
 omega
end Go.Sh

namespace Go.Sh
open Go.AE
set_option linter.unusedVariables false
set_option linter.unusedSimpArgs false
theorem kV {x : b8} {c : y4} (h : B5 x c = true) : ∀ g ∈ c, ∀ t ∈ g, T1 x t = true := by
 intro g hg t ht
 unfold B5 at h
 simp only [Bool.and_eq_true, Bool.not_eq_true'] at h
 have h2 := h.2
 rw [List.any_eq_false] at h2
 have h3 := h2 g hg
 unfold bk at h3
 simp only [Bool.or_eq_true, not_or, Bool.not_eq_true] at h3
 have h4 := h3.2.2
 rw [List.any_eq_false] at h4
 have := h4 t ht
 simpa using this
end Go.Sh

namespace Go.Sh
open Go.AE
set_option linter.unusedVariables false
set_option linter.unusedSimpArgs false
def tEq (t u : a6) : Bool := (t.fField == u.fField && (t.fOp == u.fOp && (t.fValue == u.fValue && true)))
def gNe (g h : List a6) (j : Nat) : Bool := match g[j]?, h[j]? with | some a, some b => !tEq a b | _, _ => true
def gEq (g h : List a6) : Bool := bif ((g.length : Int) != (h.length : Int)) then false else !W0 (gNe g h) g.length
def cNe (c d : y4) (j : Nat) : Bool := match c[j]?, d[j]? with | some a, some b => !gEq a b | _, _ => true
def cEq (c d : y4) : Bool := bif ((c.length : Int) != (d.length : Int)) then false else !W0 (cNe c d) c.length
theorem uG {g h : List a6} {j : Nat} (h1 : j < g.length) (h2 : j < h.length) : gNe g h j = !tEq g[j] h[j] := by
 unfold gNe; rw [List.getElem?_eq_getElem h1, List.getElem?_eq_getElem h2]
theorem uf {c d : y4} {j : Nat} (h1 : j < c.length) (h2 : j < d.length) : cNe c d j = !gEq c[j] d[j] := by
 unfold cNe; rw [List.getElem?_eq_getElem h1, List.getElem?_eq_getElem h2]
theorem rZ {m n : Nat} (h : ((m : Int) != (n : Int)) = false) : m = n := Int.ofNat.inj (by simpa using h)
theorem zx (g : List a6) : gEq g g = true := by
 unfold gEq
 rw [bne_self_eq_false, cond_false]
 have : W0 (gNe g g) g.length = false := T6.2 (fun i hi => by rw [uG hi hi]; simp [tEq])
 rw [this]; rfl
theorem sN (c : y4) : cEq c c = true := by
 unfold cEq
 rw [bne_self_eq_false, cond_false]
 have : W0 (cNe c c) c.length = false := T6.2 (fun i hi => by rw [uf hi hi, zx]; rfl)
 rw [this]; rfl
theorem Y5 {k : Nat} {g h : List a6} (hk : maxLen + 2 ≤ k) (hg : g.length ≤ maxLen) : G1 k g h = some (gEq g h) := by
 obtain ⟨k, rfl, hq⟩ := i9 (c := maxLen + 1) hk
 simp only [G1, gEq]
 cases hne : ((g.length : Int) != (h.length : Int)) with
 | true => rfl
 | false =>
  have hl := rZ hne
  simp only [cond_false]
  refine Eq.trans (aQ (L := fun m x => C2 g h _ m x) (n := g.length) (g := gNe g h) (r := fun _ => some false) (z := some true) ?_ ?_ (by omega)) ?_
  rotate_left 2
  ·rw [C1]; cases W0 (gNe g h) g.length <;> rfl
  ·intro m i hi _
   simp only [C2, p6 hi, p6 (show i < h.length by omega), uG hi (show i < h.length by omega), Option.bind_some, m8 hi hg, show decide ((i : Int) < (g.length : Int)) = true by simp; exact hi, cond_true, tEq]
  ·intro m _
   simp only [C2, show decide ((g.length : Int) < (g.length : Int)) = false by simp, cond_false]
theorem fN {k : Nat} {c d : y4} (hk : maxLen + 6 ≤ k) (hc : wfL (wfL o0) c) : eJ k c d = some (cEq c d) := by
 obtain ⟨k, rfl, hq⟩ := i9 (c := maxLen + 5) hk
 obtain ⟨k, rfl, hq2⟩ := i9 (c := maxLen + 4) hq
 simp only [eJ, G0, cEq]
 cases hne : ((c.length : Int) != (d.length : Int)) with
 | true => rfl
 | false =>
  have hl := rZ hne
  simp only [cond_false]
  have : n9 k c d (fun j x0 x1 => G1 j x0 x1) (fun y14 => some true) k 0 = some (!W0 (cNe c d) c.length) := by
   refine Eq.trans (aQ (L := fun m x => n9 k c d _ _ m x) (n := c.length) (g := cNe c d) (r := fun _ => some false) (z := some true) ?_ ?_ (by have := hc.1; omega)) ?_
   rotate_left 2
   ·rw [C1]; cases W0 (cNe c d) c.length <;> rfl
   ·intro m i hi _
    simp only [n9, p6 hi, p6 (show i < d.length by omega), uf hi (show i < d.length by omega), Option.bind_some, m8 hi hc.1, show decide ((i : Int) < (c.length : Int)) = true by simp; exact hi, cond_true, Y5 (show maxLen + 2 ≤ k by omega) (hc.2 _ (List.getElem_mem hi)).1]
   ·intro m _
    simp only [n9, show decide ((c.length : Int) < (c.length : Int)) = false by simp, cond_false]
  rw [this]
  rfl
theorem Bj {c d : y4} {i m : Nat} {K : Option Bool} (h1 : i < c.length) (h2 : i < d.length) (hg : (c[i]).length ≤ maxLen) (he : (c[i]).length = (d[i]).length) (hm : maxLen < m) : L3 c d (i : Int) (fun _ => K) m 0 = bif W0 (gNe c[i] d[i]) (c[i]).length then some false else K := by
 refine Eq.trans (aQ (L := fun m x => L3 c d (i : Int) (fun _ => K) m x) (n := (c[i]).length) (g := gNe c[i] d[i]) (r := fun _ => some false) (z := K) ?_ ?_ (by omega)) ?_
 rotate_left 2
 ·rw [C1]
 ·intro m j hj _
  simp only [L3, p6 h1, p6 h2, p6 hj, p6 (show j < (d[i]).length by omega), uG hj (show j < (d[i]).length by omega), Option.bind_some, m8 hj hg, show decide ((j : Int) < ((c[i]).length : Int)) = true by simp; exact hj, cond_true, tEq]
 ·intro m _
  simp only [L3, p6 h1, Option.bind_some, show decide (((c[i]).length : Int) < ((c[i]).length : Int)) = false by simp, cond_false]
theorem fQ {k : Nat} {c d : y4} (hk : maxLen + 3 ≤ k) (hc : wfL (wfL o0) c) : eR k c d = some (cEq c d) := by
 obtain ⟨k, rfl, hq⟩ := i9 (c := maxLen + 2) hk
 simp only [eR, cEq]
 cases hne : ((c.length : Int) != (d.length : Int)) with
 | true => rfl
 | false =>
  have hl := rZ hne
  simp only [cond_false]
  refine Eq.trans (aQ (L := fun m x => R3 k c d _ m x) (n := c.length) (g := cNe c d) (r := fun _ => some false) (z := some true) ?_ ?_ (by have := hc.1; omega)) ?_
  rotate_left 2
  ·rw [C1]; cases W0 (cNe c d) c.length <;> rfl
  ·intro m i hi _
   have hd : i < d.length := by omega
   simp only [R3, p6 hi, p6 hd, uf hi hd, Option.bind_some, m8 hi hc.1, show decide ((i : Int) < (c.length : Int)) = true by simp; exact hi, cond_true, gEq]
   cases hne2 : (((c[i]).length : Int) != ((d[i]).length : Int)) with
   | true => rfl
   | false =>
    simp only [cond_false, Bool.not_not]
    exact Bj hi hd (hc.2 _ (List.getElem_mem hi)).1 (rZ hne2) (by omega)
  ·intro m _
   simp only [R3, show decide ((c.length : Int) < (c.length : Int)) = false by simp, cond_false]
theorem sO {x : b8} {c : y4} (h : B5 x c = true) : c.length ≤ 4 ∧ ∀ g ∈ c, g.length ≤ 4 := by
 unfold B5 at h
 simp only [Bool.and_eq_true, Bool.not_eq_true', decide_eq_true_eq] at h
 refine ⟨by omega, fun g hg => ?_⟩
 have h2 := h.2
 rw [List.any_eq_false] at h2
 have h3 := h2 g hg
 unfold bk at h3
 simp only [Bool.or_eq_true, not_or, Bool.not_eq_true, decide_eq_false_iff_not] at h3
 omega
end Go.Sh

namespace Go.Sh
open Go.AE
set_option linter.unusedVariables false
set_option linter.unusedSimpArgs false
def Z5 (s : Str) : Str := s ++ List.replicate (8 - s.length) 32
def C5 (op : Int) : Str := bif op == 1 then [61, 32] else bif op == 2 then [60, 62] else bif op == 3 then [60, 32] else bif op == 4 then [60, 61] else bif op == 5 then [62, 32] else [62, 61]
def E9 (t : a6) : Str := Z5 t.fField ++ (C5 t.fOp ++ t.fValue)
def N9 : List a6 → Str
 | [] => []
 | t :: r => 38 :: (E9 t ++ N9 r)
def D0 : List a6 → Str
 | [] => []
 | t :: r => E9 t ++ N9 r
def T5 : y4 → Str
 | [] => []
 | g :: r => 124 :: (D0 g ++ T5 r)
def R5 : y4 → Str
 | [] => []
 | g :: r => D0 g ++ T5 r
theorem w8 {a b : Str} (h : a.length + b.length ≤ l4) : cat a b = some (a ++ b) := by
 unfold cat; rw [if_pos h]
theorem eh (op : Int) : (C5 op).length = 2 := by
 unfold C5
 cases op == 1 <;> cases op == 2 <;> cases op == 3 <;> cases op == 4 <;> cases op == 5 <;> rfl
theorem aq {s : Str} (h : s.length ≤ 8) : (Z5 s).length = 8 := by
 unfold Z5
 rw [List.length_append, List.length_replicate]
 omega
theorem ap {k : Nat} {op : Int} (hk : 1 ≤ k) (h1 : 1 ≤ op) (h6 : op ≤ 6) : aM k op = some (C5 op) := by
 obtain ⟨k, rfl, _⟩ := i9 (show 0 + 1 ≤ k by omega)
 rcases (show op = 1 ∨ op = 2 ∨ op = 3 ∨ op = 4 ∨ op = 5 ∨ op = 6 by omega) with rfl | rfl | rfl | rfl | rfl | rfl
 all_goals rfl
theorem H9 {k : Nat} {op : Int} (hk : 1 ≤ k) : H3 k op = some (C5 op) := by
 obtain ⟨k, rfl, _⟩ := i9 (show 0 + 1 ≤ k by omega)
 simp only [H3, C5]
 cases op == 1 <;> cases op == 2 <;> cases op == 3 <;> cases op == 4 <;> cases op == 5 <;> rfl
theorem wo {s : Str} (h : s.length < 8) : Z5 (s ++ [32]) = Z5 s := by
 unfold Z5
 rw [List.length_append, List.length_singleton, List.append_assoc, show 8 - s.length = (8 - (s.length + 1)) + 1 by omega, List.replicate_succ]
 rfl
theorem re {K : Str → Option Str} : ∀ (d : Nat) (s : Str) (m : Nat), 8 - s.length = d → d < m → s.length ≤ 1000000 → J2 K m s = K (Z5 s)
 | 0, s, m, hd, hm, hs => by
  obtain ⟨m, rfl⟩ : ∃ q, m = q + 1 := ⟨m - 1, by omega⟩
  have h0 : decide ((s.length : Int) < 8) = false := by simp; omega
  simp only [J2, h0, cond_false]
  unfold Z5
  rw [hd, List.replicate_zero, List.append_nil]
 | d + 1, s, m, hd, hm, hs => by
  obtain ⟨m, rfl⟩ : ∃ q, m = q + 1 := ⟨m - 1, by omega⟩
  have h0 : decide ((s.length : Int) < 8) = true := by simp; omega
  simp only [J2, h0, cond_true]
  rw [w8 (by simp only [List.length_singleton, l4]; omega), Option.bind_some, re d (s ++ [32]) m (by simp; omega) (by omega) (by simp; omega), wo (by omega)]
theorem u9 {k : Nat} {s : Str} (hk : 10 ≤ k) (hs : s.length ≤ 1000000) : A7 k s = some (Z5 s) := by
 obtain ⟨k, rfl, hq⟩ := i9 (show 9 + 1 ≤ k by omega)
 unfold A7
 exact re (8 - s.length) s k rfl (by omega) hs
theorem uJ (c : UInt8) : ∀ (l : List Str) (a : Str), List.intercalate [c] (a :: l) = a ++ (l.map (c :: ·)).flatten
 | [], a => by simp [List.intercalate]
 | b :: l, a => by
  have ih := uJ c l b
  simp only [List.intercalate, List.intersperse] at ih ⊢
  simp only [List.flatten_cons, List.map_cons, ih]
  simp
theorem rq : ∀ l : List a6, ((l.map E9).map (38 :: ·)).flatten = N9 l
 | [] => rfl
 | t :: l => by
  simp only [List.map_cons, List.flatten_cons, rq l, N9, List.cons_append]
theorem rh : ∀ c : y4, ((c.map D0).map (124 :: ·)).flatten = T5 c
 | [] => rfl
 | g :: c => by
  simp only [List.map_cons, List.flatten_cons, rh c, T5, List.cons_append]
theorem tl {l : List a6} (hl : l.length ≤ 1000000) (h : (D0 l).length ≤ 140737488355328) : jN (l.map E9) [38] = some (D0 l) := by
 have e : List.intercalate [38] (l.map E9) = D0 l := by
  cases l with
  | nil => rfl
  | cons t l => rw [List.map_cons, uJ, rq]; rfl
 unfold jN
 rw [e, if_pos ⟨by simpa using hl, h⟩]
theorem uK {c : y4} (hl : c.length ≤ 1000000) (h : (R5 c).length ≤ 140737488355328) : jN (c.map D0) [124] = some (R5 c) := by
 have e : List.intercalate [124] (c.map D0) = R5 c := by
  cases c with
  | nil => rfl
  | cons g c => rw [List.map_cons, uJ, rh]; rfl
 unfold jN
 rw [e, if_pos ⟨by simpa using hl, h⟩]
def Y4 (t : a6) : Prop := t.fField.length ≤ 8 ∧ t.fValue.length ≤ 40 ∧ 1 ≤ t.fOp ∧ t.fOp ≤ 6
theorem en {t : a6} (h : Y4 t) : (E9 t).length = 10 + t.fValue.length := by
 unfold E9
 rw [List.length_append, List.length_append, aq h.1, eh]
 omega
theorem ro : ∀ (l : List a6), (∀ t ∈ l, Y4 t) → (N9 l).length ≤ 51 * l.length
 | [], _ => Nat.le_refl _
 | t :: l, h => by
  have h1 := ro l (fun u hu => h u (List.mem_cons_of_mem _ hu))
  have h2 := en (h t (by simp))
  have h3 := (h t (by simp)).2.1
  simp only [N9, List.length_cons, List.length_append]
  omega
theorem kj (l : List a6) (h : ∀ t ∈ l, Y4 t) : (D0 l).length ≤ 51 * l.length := by
 cases l with
 | nil => exact Nat.le_refl _
 | cons t l =>
  have h1 := ro l (fun u hu => h u (List.mem_cons_of_mem _ hu))
  have h2 := en (h t (by simp))
  have h3 := (h t (by simp)).2.1
  simp only [D0, List.length_cons, List.length_append]
  omega
def pN (c : y4) : Prop := c.length ≤ 4 ∧ ∀ g ∈ c, g.length ≤ 4 ∧ ∀ t ∈ g, Y4 t
theorem rg : ∀ (c : y4), (∀ g ∈ c, g.length ≤ 4 ∧ ∀ t ∈ g, Y4 t) → (T5 c).length ≤ 205 * c.length
 | [], _ => Nat.le_refl _
 | g :: c, h => by
  have h1 := rg c (fun u hu => h u (List.mem_cons_of_mem _ hu))
  have h2 := kj g (h g (by simp)).2
  have h3 := (h g (by simp)).1
  simp only [T5, List.length_cons, List.length_append]
  omega
theorem dZ {c : y4} (h : pN c) : (R5 c).length ≤ 1024 := by
 obtain ⟨h0, h⟩ := h
 cases c with
 | nil => exact Nat.zero_le _
 | cons g c =>
  have h1 := rg c (fun u hu => h u (List.mem_cons_of_mem _ hu))
  have h2 := kj g (h g (by simp)).2
  have h3 := (h g (by simp)).1
  simp only [R5, List.length_cons, List.length_append] at h0 ⊢
  omega
theorem tD {n : Nat} (h : n ≤ 8) : wv [32] (Go.IntKind.wrap .i64 (8 - (n : Int))) = some (List.replicate (8 - n) 32) := by
 rw [W7 (by omega) (by omega)]
 unfold wv
 rw [if_pos ⟨by omega, by omega, by simp⟩, show (8 - (n : Int)).toNat = 8 - n by omega]
 congr 1
 generalize 8 - n = m
 induction m with
 | zero => rfl
 | succ m ih => rw [List.replicate_succ, List.replicate_succ, List.flatten_cons, ih]; rfl
theorem zt {k : Nat} {g : List a6} {K : Int → List Str → Option (Str × Int)} {K' : List Str → Option (Str × Int)} (hK : ∀ z y, K z y = K' y) (hk : 2 ≤ k) (hg : g.length ≤ 1000) (hs : ∀ t ∈ g, Y4 t) : ∀ (d i m : Nat), i + d = g.length → d < m → J0 k g K m (i : Int) ((g.take i).map E9) = K' (g.map E9)
 | 0, i, m, hd, hm => by
  obtain ⟨m, rfl⟩ : ∃ q, m = q + 1 := ⟨m - 1, by omega⟩
  obtain rfl : i = g.length := by omega
  simp only [J0, show decide ((g.length : Int) < (g.length : Int)) = false by simp, cond_false, List.take_length, hK]
 | d + 1, i, m, hd, hm => by
  have e63 := m0
  obtain ⟨m, rfl⟩ : ∃ q, m = q + 1 := ⟨m - 1, by omega⟩
  have hi : i < g.length := by omega
  have h := hs _ (List.getElem_mem hi)
  have hrep : strings_Repeat k [32] (Go.IntKind.wrap .i64 (8 - ((g[i]).fField.length : Int))) = some (List.replicate (8 - (g[i]).fField.length) 32) := by
   obtain ⟨k, rfl, _⟩ := i9 (show 1 + 1 ≤ k by omega)
   exact tD h.1
  have hp : (g[i]).fField ++ List.replicate (8 - (g[i]).fField.length) 32 = Z5 (g[i]).fField := rfl
  have hpl := aq h.1
  have hsl := eh (g[i]).fOp
  simp only [J0, show decide ((i : Int) < (g.length : Int)) = true by simp; omega, cond_true, p6 hi, Option.bind_some, hrep, ap (show 1 ≤ k by omega) h.2.2.1 h.2.2.2]
  rw [w8 (by simp only [List.length_replicate, l4]; have := h.1; omega), Option.bind_some, hp, w8 (by simp only [hpl, hsl, l4]; omega), Option.bind_some, w8 (by rw [List.length_append, hpl, hsl]; simp only [l4]; have := h.2.1; omega), Option.bind_some, bH (by simp only [List.length_map, List.length_take, List.length_singleton, l4]; omega), Option.bind_some, m8 hi (by omega)]
  have e : (g.take i).map E9 ++ [Z5 (g[i]).fField ++ C5 (g[i]).fOp ++ (g[i]).fValue] = (g.take (i + 1)).map E9 := by
   rw [List.take_succ_eq_append_getElem hi, List.map_append]
   simp only [List.map_cons, List.map_nil, E9, List.append_assoc]
  rw [e]
  exact zt hK hk hg hs d (i + 1) m (by omega) (by omega)
theorem zr {k : Nat} {c : y4} {K : List Str → Int → Option (Str × Int)} {K' : List Str → Option (Str × Int)} (hK : ∀ y z, K y z = K' y) (hk : 1000 ≤ k) (hc : pN c) : ∀ (d i m : Nat), i + d = c.length → d < m → G4 k c K m ((c.take i).map D0) (i : Int) = K' (c.map D0)
 | 0, i, m, hd, hm => by
  obtain ⟨m, rfl⟩ : ∃ q, m = q + 1 := ⟨m - 1, by omega⟩
  obtain rfl : i = c.length := by omega
  simp only [G4, show decide ((c.length : Int) < (c.length : Int)) = false by simp, cond_false, List.take_length, hK]
 | d + 1, i, m, hd, hm => by
  have e63 := m0
  obtain ⟨m, rfl⟩ : ∃ q, m = q + 1 := ⟨m - 1, by omega⟩
  have hi : i < c.length := by omega
  obtain ⟨hgl, hgt⟩ := hc.2 _ (List.getElem_mem hi)
  have hc1 := hc.1
  simp only [G4, show decide ((i : Int) < (c.length : Int)) = true by simp; omega, cond_true, p6 hi, Option.bind_some]
  have hjoin : strings_Join k ((c[i]).map E9) [38] = some (D0 c[i]) := by
   obtain ⟨k, rfl, _⟩ := i9 (show 0 + 1 ≤ k by omega)
   exact tl (by omega) (by have := kj _ hgt; omega)
  refine (zt (g := c[i]) (K' := fun y => ((strings_Join k y [38]).bind fun v56 => (app ((c.take i).map D0) [v56])).bind fun o58 => G4 k c K m o58 (Go.IntKind.wrap .i64 ((i : Int) + 1))) (fun z y => rfl) (by omega) (by omega) hgt (c[i]).length 0 k (by omega) (by omega)).trans ?_
  simp only [hjoin, Option.bind_some]
  rw [bH (by simp only [List.length_map, List.length_take, List.length_singleton, l4]; omega), Option.bind_some, m8 hi (by omega)]
  have e : (c.take i).map D0 ++ [D0 c[i]] = (c.take (i + 1)).map D0 := by
   rw [List.take_succ_eq_append_getElem hi, List.map_append]
   simp only [List.map_cons, List.map_nil]
  rw [e]
  exact zr hK hk hc d (i + 1) m (by omega) (by omega)
theorem qF (k : Nat) (c : y4) (p : Int) (K : Str → Int → Option Str) : ∀ m s i, J3 k c p K m s i = w4 k c p K m s i
 | 0, _, _ => rfl
 | m + 1, s, i => by simp only [J3, w4, qF k c p K m]
theorem pK {k : Nat} {c : y4} {p : Nat} {K : Str → Int → Option Str} {K' : Str → Option Str} (hK : ∀ y z, K y z = K' y) (hk : 10 ≤ k) (hp : p < c.length) (hg : (c[p]).length ≤ 1000) (hs : ∀ t ∈ c[p], Y4 t) : ∀ (d i m : Nat) (s : Str), 1 ≤ i → i + d = (c[p]).length → d < m → s.length + (N9 ((c[p]).drop i)).length ≤ 1000000 → w4 k c (p : Int) K m s (i : Int) = K' (s ++ N9 ((c[p]).drop i))
 | 0, i, m, s, h1, hd, hm, hb => by
  obtain ⟨m, rfl⟩ : ∃ q, m = q + 1 := ⟨m - 1, by omega⟩
  have hi : i = (c[p]).length := by omega
  subst hi
  simp only [w4, p6 hp, Option.bind_some, show decide (((c[p]).length : Int) < ((c[p]).length : Int)) = false by simp, cond_false, hK, List.drop_length, N9, List.append_nil]
 | d + 1, i, m, s, h1, hd, hm, hb => by
  have e63 := m0
  obtain ⟨m, rfl⟩ : ∃ q, m = q + 1 := ⟨m - 1, by omega⟩
  have hi : i < (c[p]).length := by omega
  have h := hs _ (List.getElem_mem hi)
  have hpl := aq h.1
  have hsl := eh ((c[p])[i]).fOp
  have hv := h.2.1
  have hdr : (c[p]).drop i = (c[p])[i] :: (c[p]).drop (i + 1) := List.drop_eq_getElem_cons hi
  rw [hdr] at hb ⊢
  have htl := en h
  simp only [N9, List.length_cons, List.length_append] at hb
  simp only [w4, p6 hp, p6 hi, Option.bind_some, show decide ((i : Int) < ((c[p]).length : Int)) = true by simp; omega, show decide ((i : Int) > 0) = true by simp; omega, cond_true, u9 hk (show ((c[p])[i]).fField.length ≤ 1000000 by have := h.1; omega), H9 (show 1 ≤ k by omega)]
  rw [w8 (by simp only [List.length_singleton, l4]; omega), Option.bind_some, w8 (by rw [hpl, hsl]; simp only [l4]; omega), Option.bind_some, w8 (by rw [List.length_append, hpl, hsl]; simp only [l4]; omega), Option.bind_some, w8 (by simp only [List.length_append, hpl, hsl, List.length_singleton, l4]; omega), Option.bind_some, m8 hi (by omega)]
  have e : s ++ [38] ++ (Z5 ((c[p])[i]).fField ++ C5 ((c[p])[i]).fOp ++ ((c[p])[i]).fValue) = s ++ 38 :: E9 ((c[p])[i]) := by
   simp only [E9, List.append_assoc, List.singleton_append]
  rw [e, pK hK hk hp hg hs d (i + 1) m _ (by omega) (by omega) (by omega) (by simp only [List.length_append, List.length_cons]; omega)]
  congr 1
  simp only [N9, List.append_assoc, List.cons_append]
theorem md {k : Nat} {c : y4} {p : Nat} {K : Str → Int → Option Str} {K' : Str → Option Str} (hK : ∀ y z, K y z = K' y) (hk : 10 ≤ k) (hp : p < c.length) (hg : (c[p]).length ≤ 1000) (hs : ∀ t ∈ c[p], Y4 t) (m : Nat) (s : Str) (hm : (c[p]).length < m) (hb : s.length + (D0 c[p]).length ≤ 1000000) : w4 k c (p : Int) K m s 0 = K' (s ++ D0 c[p]) := by
 have e63 := m0
 obtain ⟨m, rfl⟩ : ∃ q, m = q + 1 := ⟨m - 1, by omega⟩
 have hi0 : idx (c[p]) (0 : Int) = (c[p])[0]? := rfl
 cases hcp : c[p] with
 | nil =>
  simp only [w4, p6 hp, Option.bind_some, hcp, List.length_nil, show decide ((0 : Int) < ((0 : Nat) : Int)) = false by rfl, cond_false, hK, D0, List.append_nil]
 | cons t r =>
  have h := hs t (by rw [hcp]; simp)
  have hpl := aq h.1
  have hsl := eh t.fOp
  have hv := h.2.1
  have htl := en h
  have hx : idx (c[p]) (0 : Int) = some t := by rw [hi0, hcp]; rfl
  rw [hcp] at hb
  simp only [D0, List.length_append] at hb
  have hlen : (c[p]).length = r.length + 1 := by rw [hcp]; rfl
  simp only [w4, p6 hp, hx, Option.bind_some, show decide ((0 : Int) < ((c[p]).length : Int)) = true by rw [hlen, decide_eq_true_eq]; omega, show decide ((0 : Int) > 0) = false by rfl, cond_true, cond_false, u9 hk (show t.fField.length ≤ 1000000 by have := h.1; omega), H9 (show 1 ≤ k by omega)]
  rw [w8 (by rw [hpl, hsl]; simp only [l4]; omega), Option.bind_some, w8 (by rw [List.length_append, hpl, hsl]; simp only [l4]; omega), Option.bind_some, w8 (by simp only [List.length_append, hpl, hsl, l4]; omega), Option.bind_some]
  have e : s ++ (Z5 t.fField ++ C5 t.fOp ++ t.fValue) = s ++ E9 t := by
   simp only [E9, List.append_assoc]
  have hdr : (c[p]).drop 1 = r := by rw [hcp]; rfl
  rw [e, show Go.IntKind.wrap .i64 ((0 : Int) + 1) = ((1 : Nat) : Int) by rfl, pK hK hk hp hg hs r.length 1 m _ (by omega) (by omega) (by omega) (by rw [hdr, List.length_append]; omega), hdr]
  congr 1
  simp only [D0, List.append_assoc]
theorem pJ {k : Nat} {c : y4} {K : Str → Int → Option Str} {K' : Str → Option Str} (hK : ∀ y z, K y z = K' y) (hk : 1000 ≤ k) (hc : pN c) : ∀ (d i m : Nat) (s : Str), 1 ≤ i → i + d = c.length → d < m → s.length + (T5 (c.drop i)).length ≤ 1000000 → A9 k c K m s (i : Int) = K' (s ++ T5 (c.drop i))
 | 0, i, m, s, h1, hd, hm, hb => by
  obtain ⟨m, rfl⟩ : ∃ q, m = q + 1 := ⟨m - 1, by omega⟩
  have hi : i = c.length := by omega
  subst hi
  simp only [A9, show decide ((c.length : Int) < (c.length : Int)) = false by simp, cond_false, hK, List.drop_length, T5, List.append_nil]
 | d + 1, i, m, s, h1, hd, hm, hb => by
  have e63 := m0
  obtain ⟨m, rfl⟩ : ∃ q, m = q + 1 := ⟨m - 1, by omega⟩
  have hi : i < c.length := by omega
  obtain ⟨hgl, hgt⟩ := hc.2 _ (List.getElem_mem hi)
  have hc1 := hc.1
  rw [List.drop_eq_getElem_cons hi] at hb ⊢
  simp only [T5, List.length_cons, List.length_append] at hb
  simp only [A9, show decide ((i : Int) < (c.length : Int)) = true by simp; omega, show decide ((i : Int) > 0) = true by simp; omega, cond_true]
  rw [w8 (by simp only [List.length_singleton, l4]; omega), Option.bind_some]
  refine (md (K' := fun y => A9 k c K m y (Go.IntKind.wrap .i64 ((i : Int) + 1))) (fun y z => rfl) (by omega) hi (by omega) hgt k _ (by omega) (by simp only [List.length_append, List.length_singleton]; omega)).trans ?_
  rw [m8 hi (by omega), pJ hK hk hc d (i + 1) m _ (by omega) (by omega) (by omega) (by simp only [List.length_append, List.length_singleton]; omega)]
  congr 1
  simp only [T5, List.append_assoc, List.singleton_append, List.cons_append, List.nil_append]
theorem dv {k : Nat} {c : y4} (hk : 1001 ≤ k) (hc : pN c) : bw k c = some (R5 c) := by
 have e63 := m0
 obtain ⟨k, rfl, hq⟩ := i9 (show 1000 + 1 ≤ k by omega)
 have hcl := dZ hc
 unfold bw
 cases hcc : c with
 | nil =>
  obtain ⟨k, rfl, _⟩ := i9 (show 999 + 1 ≤ k by omega)
  rfl
 | cons g r =>
  have h0 : 0 < c.length := by rw [hcc]; simp
  obtain ⟨hgl, hgt⟩ := hc.2 _ (List.getElem_mem h0)
  have hc1 := hc.1
  have e0 : c[0] = g := by simp only [hcc, List.getElem_cons_zero]
  have er : c.drop 1 = r := by rw [hcc]; rfl
  rw [hcc] at hcl
  simp only [R5, List.length_append] at hcl
  rw [← hcc]
  obtain ⟨k, rfl, hq2⟩ := i9 (show 999 + 1 ≤ k by omega)
  simp only [A9, show decide ((0 : Int) < (c.length : Int)) = true by simp; omega, show decide ((0 : Int) > 0) = false by rfl, cond_true, cond_false, qF]
  refine (md (p := 0) (K' := fun y => A9 (k + 1) c (fun y247 y248 => some y247) k y (Go.IntKind.wrap .i64 ((0 : Int) + 1))) (fun y z => rfl) (by omega) h0 (by omega) hgt (k + 1) _ (by omega) (by rw [e0]; simp; omega)).trans ?_
  rw [show Go.IntKind.wrap .i64 ((0 : Int) + 1) = ((1 : Nat) : Int) by rfl, pJ (K' := fun y => some y) (fun y z => rfl) (by omega) hc (c.length - 1) 1 k _ (by omega) (by omega) (by omega) (by rw [er, e0]; simp; omega), er, e0, hcc]
  rfl
theorem lh {x : b8} (hok : A2 x = true) {j : Nat} (hj : j < x.fFields.length) : (x.fFields[j]).fName.length ≤ 8 ∧ D5 (x.fFields[j]).fName = true ∧ (x.fFields.take j).any (fun g => g.fName == (x.fFields[j]).fName) = false := by
 unfold A2 eC at hok
 simp only [Bool.and_eq_true, Bool.not_eq_true', Bool.or_eq_false_iff, Bool.not_eq_false', decide_eq_false_iff_not] at hok
 obtain ⟨⟨_, h1, h2, h3, h4, _⟩, _⟩ := hok
 have := T6.1 h4 j hj
 rw [U4, u7 hj] at this
 simp only [Bool.or_eq_false_iff, Bool.not_eq_false', decide_eq_false_iff_not] at this
 obtain ⟨⟨g0, _⟩, g5⟩ := this
 refine ⟨?_, g0, g5⟩
 unfold D5 at g0
 simp only [Bool.and_eq_true, decide_eq_true_eq] at g0
 omega
theorem ml {x : b8} {t : a6} (h : T1 x t = true) : ∃ j, ∃ hj : j < x.fFields.length, fieldAt x t.fField = (j : Int) ∧ (x.fFields[j]).fName = t.fField ∧ (t.fValue.length : Int) = (x.fFields[j]).fBytes ∧ 1 ≤ t.fOp ∧ t.fOp ≤ 6 := by
 unfold T1 at h
 simp only [Bool.and_eq_true, decide_eq_true_eq] at h
 obtain ⟨h1, h2, h3, h4⟩ := h
 rcases L6 x.fFields (fun f => f.fName == t.fField) with ⟨_, e⟩ | ⟨j, hj, hp, _, e⟩
 ·unfold fieldAt at h1; rw [e] at h1; omega
 ·have e' : fieldAt x t.fField = (j : Int) := e
  rw [e', p6 hj] at h4
  exact ⟨j, hj, e', eq_of_beq hp, by simpa using h4, h2, h3⟩
theorem bE {x : b8} (hok : A2 x = true) {t : a6} (h : T1 x t = true) : Y4 t := by
 obtain ⟨j, hj, _, h1, h2, h3, h4⟩ := ml h
 have h5 := (lh hok hj).1
 have h6 := cC hok hj
 rw [h1] at h5
 exact ⟨h5, by omega, h3, h4⟩
theorem T8 {x : b8} (hok : A2 x = true) {c : y4} (h : B5 x c = true) : pN c := by
 obtain ⟨h1, h2⟩ := sO h
 exact ⟨h1, fun g hg => ⟨h2 g hg, fun t ht => bE hok (kV h g hg t ht)⟩⟩
def U6 (b : a8) (t : Int) (c : y4) : Str × Int := bif (R7 b t [c]).2 != 0 then ([], (R7 b t [c]).2) else (R5 c, 0)
theorem ms {b : a8} {t : Int} {c : y4} (hw : d8 b) : (∃ e, R7 b t [c] = (vT, e) ∧ (R7 b t [c, []]).2 = e ∧ (e != 0) = true) ∨ ∃ x, R7 b t [c] = (x, 0) ∧ (R7 b t [c, []]).2 = 0 ∧ idx b.fTypes t = some x ∧ s6 b [t] = 0 ∧ F0 x ∧ A2 x = true ∧ B5 x c = true := by
 unfold R7
 by_cases h : s6 b [t] = 0
 ·obtain ⟨x, hx, hwx, hok, _⟩ := aI hw h
  have hn : B5 x [] = true := rfl
  simp only [h, hx, bne_self_eq_false, cond_false, List.any_cons, List.any_nil, Bool.or_false, hn, Bool.not_true]
  cases h1 : B5 x c with
  | false => exact .inl ⟨110, rfl, rfl, rfl⟩
  | true => refine .inr ⟨x, ?_, ?_, ?_, ?_, hwx, hok, ?_⟩ <;> first | rfl | trivial | assumption
 ·have : (s6 b [t] != 0) = true := by simpa using h
  simp only [this, cond_true]
  exact .inl ⟨_, rfl, rfl, this⟩
theorem lz {k : Nat} {b : a8} {t : Int} {c : y4} (hk : maxLen + 20 ≤ k) (hw : d8 b) (hc : wfL (wfL o0) c) : F7 k b t c = some (U6 b t c) := by
 have e63 := m0
 obtain ⟨k, rfl, hq⟩ := i9 (c := maxLen + 19) hk
 simp only [F7, R8 (cs := [c]) (show maxLen + 18 ≤ k by omega) hw (by simp) (fun d hd => by simp at hd; subst hd; exact hc), Option.bind_some, U6]
 rcases ms (t := t) (c := c) hw with ⟨e, h1, _, h3⟩ | ⟨x, h1, _, hx, ha, hwx, hok, hco⟩
 ·rw [h1]
  simp only [h3, cond_true]
 ·rw [h1]
  have hs := T8 hok hco
  have hs1 := hs.1
  have hl := dZ hs
  simp only [bne_self_eq_false, cond_false]
  refine (zr (c := c) (K' := fun y => ((strings_Join k y [124]).bind fun v61 => some (v61, 0)).bind fun o62 => some (o62.1, o62.2)) (fun y z => rfl) (by omega) hs c.length 0 k (by omega) (by omega)).trans ?_
  obtain ⟨k, rfl, _⟩ := i9 (show 0 + 1 ≤ k by omega)
  show (((jN (c.map D0) [124]).bind fun v61 => some (v61, 0)).bind fun o62 => some (o62.1, o62.2)) = _
  rw [uK (by omega) (by omega)]
  rfl
theorem lW {k : Nat} {b : a8} {t : Int} {c : y4} (hk : maxLen + 20 ≤ k) (hw : d8 b) (hc : wfL (wfL o0) c) : K4 k b t c = some (U6 b t c) := by
 have e63 := m0
 obtain ⟨k, rfl, hq⟩ := i9 (c := maxLen + 19) hk
 have hn : wfL (wfL o0) ([] : y4) := ⟨by simp, fun g hg => by cases hg⟩
 simp only [K4, eS (show maxLen + 14 ≤ k by omega) hw hc hn, Option.bind_some, U6]
 rcases ms (t := t) (c := c) hw with ⟨e, h1, h2, h3⟩ | ⟨x, h1, h2, hx, ha, hwx, hok, hco⟩
 ·rw [h1, h2]
  simp only [h3, cond_true]
 ·rw [h1, h2]
  simp only [bne_self_eq_false, cond_false, dv (show 1001 ≤ k by omega) (T8 hok hco), Option.bind_some]
end Go.Sh

namespace Go.Sh
open Go.AE
open Go.Lib (trimRightB)
set_option linter.unusedVariables false
set_option linter.unusedSimpArgs false
def opN (q : Str) : Int := bif C5 1 == q then 1 else bif C5 2 == q then 2 else bif C5 3 == q then 3 else bif C5 4 == q then 4 else bif C5 5 == q then 5 else bif C5 6 == q then 6 else 7
def sgn (s : Str) : Str := (s.take 10).drop 8
def Gi : a6 := { fField := [], fOp := 0, fValue := [] }
def W3 (x : b8) (s : Str) : Option (a6 × Str) :=
 bif decide ((s.length : Int) < 10) then none else match idx x.fFields (fieldAt x (trimRightB (s.take 8) 32)) with
 | none => none
 | some f => bif decide (opN (sgn s) > 6) then none else bif decide ((s.length : Int) < 10 + f.fBytes) then none else
  some ({ fField := trimRightB (s.take 8) 32, fOp := opN (sgn s), fValue := (s.drop 10).take f.fBytes.toNat }, s.drop (10 + f.fBytes.toNat))
def pS : Option (a6 × Str) → a6 × Str × Bool
 | none => (Gi, [], false)
 | some r => (r.1, r.2, true)
theorem mY (q : Str) : (opN q = 7 ∧ ∀ op : Int, 1 ≤ op → op ≤ 6 → C5 op ≠ q) ∨ (1 ≤ opN q ∧ opN q ≤ 6 ∧ C5 (opN q) = q) := by
 unfold opN
 cases h1 : C5 1 == q with
 | true => exact .inr ⟨show (1 : Int) ≤ 1 by decide, show (1 : Int) ≤ 6 by decide, eq_of_beq h1⟩
 | false =>
  cases h2 : C5 2 == q with
  | true => exact .inr ⟨show (1 : Int) ≤ 2 by decide, show (2 : Int) ≤ 6 by decide, eq_of_beq h2⟩
  | false =>
   cases h3 : C5 3 == q with
   | true => exact .inr ⟨show (1 : Int) ≤ 3 by decide, show (3 : Int) ≤ 6 by decide, eq_of_beq h3⟩
   | false =>
    cases h4 : C5 4 == q with
    | true => exact .inr ⟨show (1 : Int) ≤ 4 by decide, show (4 : Int) ≤ 6 by decide, eq_of_beq h4⟩
    | false =>
     cases h5 : C5 5 == q with
     | true => exact .inr ⟨show (1 : Int) ≤ 5 by decide, show (5 : Int) ≤ 6 by decide, eq_of_beq h5⟩
     | false =>
      cases h6 : C5 6 == q with
      | true => exact .inr ⟨show (1 : Int) ≤ 6 by decide, show (6 : Int) ≤ 6 by decide, eq_of_beq h6⟩
      | false =>
       refine .inl ⟨rfl, fun op g1 g6 e => ?_⟩
       rcases (show op = 1 ∨ op = 2 ∨ op = 3 ∨ op = 4 ∨ op = 5 ∨ op = 6 by omega) with rfl | rfl | rfl | rfl | rfl | rfl <;> simp_all
theorem zM {op : Int} (h1 : 1 ≤ op) (h6 : op ≤ 6) : opN (C5 op) = op := by
 rcases (show op = 1 ∨ op = 2 ∨ op = 3 ∨ op = 4 ∨ op = 5 ∨ op = 6 by omega) with rfl | rfl | rfl | rfl | rfl | rfl <;> decide
theorem jn (l : Str) (c b : UInt8) : trimRightB (l ++ [b]) c = if b = c then trimRightB l c else l ++ [b] := by
 unfold trimRightB
 rw [List.reverse_append, List.reverse_singleton, List.singleton_append, List.dropWhile_cons]
 by_cases h : b = c
 ·rw [if_pos h, if_pos (by simp [h])]
 ·rw [if_neg h, if_neg (by simp [h]), List.reverse_cons, List.reverse_reverse]
theorem pW (l : Str) (c : UInt8) : ∀ n : Nat, trimRightB (l ++ List.replicate n c) c = trimRightB l c
 | 0 => by rw [List.replicate_zero, List.append_nil]
 | n + 1 => by rw [List.replicate_succ', ← List.append_assoc, jn, if_pos rfl, pW l c n]
theorem jw (c : UInt8) : ∀ (n : Nat) (l : Str), l.length = n → ∃ m, l = trimRightB l c ++ List.replicate m c
 | 0, l, h => by
  obtain rfl := List.eq_nil_of_length_eq_zero h
  exact ⟨0, rfl⟩
 | n + 1, l, h => by
  obtain ⟨i, b, rfl⟩ : ∃ i b, l = i ++ [b] := by
   rcases List.eq_nil_or_concat l with e | ⟨i, b, e⟩
   ·subst e; simp at h
   ·exact ⟨i, b, by simpa using e⟩
  rw [jn]
  split
  ·rename_i e
   subst e
   obtain ⟨m, hm⟩ := jw b n i (by simpa using h)
   refine ⟨m + 1, ?_⟩
   rw [List.replicate_succ', ← List.append_assoc, ← hm]
  ·exact ⟨0, by simp⟩
theorem mX {n : Str} (h : D5 n = true) (m : Nat) : trimRightB (n ++ List.replicate m 32) 32 = n := by
 rw [pW]
 obtain ⟨i, b, rfl⟩ : ∃ i b, n = i ++ [b] := by
  rcases List.eq_nil_or_concat n with e | ⟨i, b, e⟩
  ·subst e
   unfold D5 at h
   simp at h
  ·exact ⟨i, b, by simpa using e⟩
 rw [jn, if_neg]
 rintro rfl
 unfold D5 at h
 simp only [Bool.and_eq_true, Bool.not_eq_true'] at h
 have := T6.1 h.1 i.length (by simp)
 rw [wP, u7 (by simp)] at this
 simp at this
theorem tB {n p : Str} (h : D5 n = true) (h8 : n.length ≤ 8) (hp : p.length = 8) : (p == Z5 n) = (n == trimRightB p 32) := by
 rw [Bool.eq_iff_iff]
 constructor
 ·intro e
  have := eq_of_beq e
  subst this
  unfold Z5
  rw [mX h, beq_self_eq_true]
 ·intro e
  have e := eq_of_beq e
  obtain ⟨m, hm⟩ := jw 32 _ p rfl
  rw [← e] at hm
  have hl : p.length = n.length + m := by rw [hm]; simp
  have : Z5 n = p := by
   unfold Z5
   rw [hm, show 8 - n.length = m by omega]
  rw [this, beq_self_eq_true]
theorem nM {p : Str} (hp : p.length = 8) : Z5 (trimRightB p 32) = p := by
 obtain ⟨m, hm⟩ := jw 32 _ p rfl
 have hl : p.length = (trimRightB p 32).length + m := by rw [← List.length_replicate (n := m) (a := (32 : UInt8)), ← List.length_append, ← hm]
 unfold Z5
 rw [show 8 - (trimRightB p 32).length = m by omega, ← hm]
theorem dN {α : Type} {l : List α} {i j : Nat} (h1 : i ≤ j) (h2 : j ≤ l.length) : cut l (i : Int) (j : Int) = some ((l.take j).drop i) := by
 unfold cut
 rw [if_pos ⟨by omega, by omega, by omega⟩, Int.toNat_natCast, Int.toNat_natCast]
theorem cw {α : Type} {l : List α} {i : Nat} (h : i ≤ l.length) : cut l (i : Int) (l.length : Int) = some (l.drop i) := by
 rw [dN h (Nat.le_refl _), List.take_length]
theorem em {k : Nat} {s : Str} {K : Int → Option (a6 × Str × Bool)} {m : Nat} {op : Int} (hk : 1 ≤ k) (hs : 10 ≤ s.length) (h1 : 1 ≤ op) (h6 : op ≤ 6) : H8 k s K (m + 1) op = bif C5 op == sgn s then K op else H8 k s K m (op + 1) := by
 have hc : cut s 8 10 = some (sgn s) := dN (i := 8) (j := 10) (by omega) hs
 simp only [H8, show decide (op ≤ 6) = true by simpa using h6, cond_true, ap hk h1 h6, hc, Option.bind_some, W7 (show -9223372036854775808 ≤ op + 1 by omega) (show op + 1 ≤ 9223372036854775807 by omega)]
 cases C5 op == sgn s <;> rfl
theorem Bl {k : Nat} {s : Str} {K : Int → Option (a6 × Str × Bool)} {m : Nat} (hk : 1 ≤ k) (hs : 10 ≤ s.length) (hm : 8 ≤ m) : H8 k s K m 1 = K (opN (sgn s)) := by
 obtain ⟨m, rfl⟩ : ∃ q, m = q + 1 + 1 + 1 + 1 + 1 + 1 + 1 := ⟨m - 7, by omega⟩
 rw [em hk hs (by decide) (by decide), show (1 : Int) + 1 = 2 by rfl, em hk hs (by decide) (by decide), show (2 : Int) + 1 = 3 by rfl, em hk hs (by decide) (by decide), show (3 : Int) + 1 = 4 by rfl, em hk hs (by decide) (by decide), show (4 : Int) + 1 = 5 by rfl, em hk hs (by decide) (by decide), show (5 : Int) + 1 = 6 by rfl, em hk hs (by decide) (by decide), show (6 : Int) + 1 = 7 by rfl]
 have h7 : H8 k s K (m + 1) 7 = K 7 := rfl
 rw [h7]
 unfold opN
 cases C5 1 == sgn s <;> cases C5 2 == sgn s <;> cases C5 3 == sgn s <;> cases C5 4 == sgn s <;> cases C5 5 == sgn s <;> cases C5 6 == sgn s <;> rfl
theorem fO {k : Nat} {x : b8} {s : Str} (hk : maxLen + 6 ≤ k) (hok : A2 x = true) (hx : x.fFields.length ≤ maxLen) : eK k x s = some (pS (W3 x s)) := by
 have e63 := m0
 obtain ⟨k, rfl, hq⟩ := i9 (c := maxLen + 5) hk
 unfold eK W3
 by_cases h10 : s.length < 10
 ·have : decide ((s.length : Int) < 10) = true := by simp; omega
  simp only [this, cond_true]
  rfl
 have hd : decide ((s.length : Int) < 10) = false := by simp; omega
 have hcut : cut s 0 8 = some (s.take 8) := by
  have := dN (l := s) (i := 0) (j := 8) (by omega) (by omega)
  simpa using this
 have htrim : G2 k (s.take 8) [32] = some (trimRightB (s.take 8) 32) := by
  obtain ⟨k, rfl, _⟩ := i9 (show 0 + 1 ≤ k by omega)
  simp only [G2, ru]
  rw [if_pos ⟨by decide, by rw [List.length_take]; omega⟩]
 simp only [hd, cond_false, hcut, Option.bind_some, htrim]
 rw [Bl (show 1 ≤ k by omega) (by omega) (by omega), Y0 (show maxLen + 4 ≤ k by omega) hx]
 generalize hn : trimRightB (s.take 8) 32 = name
 rcases L6 x.fFields (fun f => f.fName == name) with ⟨_, e⟩ | ⟨j, hj, hp, _, e⟩
 ·have e' : fieldAt x name = -1 := e
  rw [e']
  rfl
 have e' : fieldAt x name = (j : Int) := e
 rw [e']
 have hge : decide ((j : Int) ≥ 0) = true := by simp
 simp only [Option.bind_some, hge, Bool.not_true, cond_false, p6 hj]
 rcases mY (sgn s) with ⟨e7, _⟩ | ⟨_, h6, _⟩
 ·rw [e7]
  rfl
 have h6' : decide (opN (sgn s) > 6) = false := by simpa using h6
 have hf := cC hok hj
 obtain ⟨n, hn2⟩ : ∃ n : Nat, (x.fFields[j]).fBytes = (n : Int) := ⟨(x.fFields[j]).fBytes.toNat, (Int.toNat_of_nonneg (by omega)).symm⟩
 have hc10 : cut s 10 (s.length : Int) = some (s.drop 10) := cw (i := 10) (by omega)
 have hdl : (s.drop 10).length = s.length - 10 := List.length_drop
 simp only [h6', cond_false, hc10, Option.bind_some, hn2, Int.toNat_natCast]
 by_cases hlen : s.length < 10 + n
 ·have h1 : decide (((s.drop 10).length : Int) < (n : Int)) = true := by simp; omega
  have h2 : decide ((s.length : Int) < 10 + (n : Int)) = true := by simp; omega
  simp only [h1, h2, cond_true]
  rfl
 ·have h1 : decide (((s.drop 10).length : Int) < (n : Int)) = false := by simp; omega
  have h2 : decide ((s.length : Int) < 10 + (n : Int)) = false := by simp; omega
  simp only [h1, h2, cond_false, iH (show n ≤ (s.drop 10).length by omega), cw (show n ≤ (s.drop 10).length by omega), Option.bind_some, List.drop_drop]
  rfl
def qi (s : Str) (f : i4) : Bool := decide (10 + f.fBytes ≤ (s.length : Int)) && (s.take 8 == Z5 f.fName)
theorem Gf {s p z : Str} (hs : 10 ≤ s.length) (hp : p.length = 8) : (s.take 10 == p ++ z) = (s.take 8 == p && z == sgn s) := by
 have e : s.take 10 = s.take 8 ++ sgn s := by
  have := (List.take_append_drop 8 (s.take 10)).symm
  rw [List.take_take] at this
  exact this
 rw [Bool.eq_iff_iff]
 constructor
 ·intro h
  have h := eq_of_beq h
  rw [e] at h
  obtain ⟨h1, h2⟩ := List.append_inj h (by rw [hp, List.length_take]; omega)
  rw [h1, h2]
  simp
 ·intro h
  rw [Bool.and_eq_true] at h
  rw [e, eq_of_beq h.1, eq_of_beq h.2, beq_self_eq_true]
def mF (s : Str) (f : i4) (op : Int) : a6 × Str × Bool := ({ fField := f.fName, fOp := op, fValue := (s.drop 10).take f.fBytes.toNat }, s.drop (10 + f.fBytes.toNat), true)
theorem bO {k : Nat} {s : Str} {f : i4} {K : Int → Option (a6 × Str × Bool)} {m : Nat} {op : Int} (hk : 10 ≤ k) (hl : s.length ≤ maxLen) (h8 : f.fName.length ≤ 8) (hb : 1 ≤ f.fBytes) (hb2 : f.fBytes ≤ 40) (h1 : 1 ≤ op) (h6 : op ≤ 6) :
  F9 k s f K (m + 1) op = bif qi s f && (C5 op == sgn s) then some (mF s f op) else F9 k s f K m (op + 1) := by
 have e63 := m0
 have hpl := aq h8
 have hsl := eh op
 have hol : (Z5 f.fName ++ C5 op).length = 10 := by rw [List.length_append, hpl, hsl]
 obtain ⟨n, hn⟩ : ∃ n : Nat, f.fBytes = (n : Int) := ⟨f.fBytes.toNat, (Int.toNat_of_nonneg (by omega)).symm⟩
 simp only [F9, show decide (op ≤ 6) = true by simpa using h6, cond_true, u9 hk (show f.fName.length ≤ 1000000 by omega), H9 (show 1 ≤ k by omega), Option.bind_some]
 rw [w8 (by rw [hpl, hsl]; simp only [l4]; omega)]
 simp only [Option.bind_some, hol, qi, hn, W7 (show -9223372036854775808 ≤ ((10 : Nat) : Int) + (n : Int) by omega) (show ((10 : Nat) : Int) + (n : Int) ≤ 9223372036854775807 by omega), W7 (show -9223372036854775808 ≤ op + 1 by omega) (show op + 1 ≤ 9223372036854775807 by omega), mF, Int.toNat_natCast]
 by_cases hlen : 10 + n ≤ s.length
 ·have d1 : decide ((s.length : Int) ≥ ((10 : Nat) : Int) + (n : Int)) = true := by simp; omega
  have d2 : decide (10 + (n : Int) ≤ (s.length : Int)) = true := by simp; omega
  have hcut : cut s 0 ((10 : Nat) : Int) = some (s.take 10) := iH (by omega)
  have hc2 : cut s ((10 : Nat) : Int) (((10 : Nat) : Int) + (n : Int)) = some ((s.drop 10).take n) := by
   have := dN (l := s) (i := 10) (j := 10 + n) (by omega) hlen
   rw [Int.natCast_add] at this
   rw [this, List.drop_take, show 10 + n - 10 = n by omega]
  have hc3 : cut s (((10 : Nat) : Int) + (n : Int)) (s.length : Int) = some (s.drop (10 + n)) := by
   have := cw (l := s) (i := 10 + n) hlen
   rw [Int.natCast_add] at this
   exact this
  simp only [d1, d2, cond_true, hcut, Option.bind_some, Gf (show 10 ≤ s.length by omega) hpl, hc2, hc3, Bool.true_and]
 ·have d1 : decide ((s.length : Int) ≥ ((10 : Nat) : Int) + (n : Int)) = false := by simp; omega
  have d2 : decide (10 + (n : Int) ≤ (s.length : Int)) = false := by simp; omega
  simp only [d1, d2, cond_false, Option.bind_some, Bool.false_and]
theorem zw {k : Nat} {s : Str} {f : i4} {K : Int → Option (a6 × Str × Bool)} {m : Nat} (hk : 10 ≤ k) (hl : s.length ≤ maxLen) (h8 : f.fName.length ≤ 8) (hb : 1 ≤ f.fBytes) (hb2 : f.fBytes ≤ 40) (hm : 8 ≤ m) :
  F9 k s f K m 1 = bif qi s f && decide (opN (sgn s) ≤ 6) then some (mF s f (opN (sgn s))) else K 7 := by
 obtain ⟨m, rfl⟩ : ∃ q, m = q + 1 + 1 + 1 + 1 + 1 + 1 + 1 := ⟨m - 7, by omega⟩
 rw [bO hk hl h8 hb hb2 (by decide) (by decide), show (1 : Int) + 1 = 2 by rfl, bO hk hl h8 hb hb2 (by decide) (by decide), show (2 : Int) + 1 = 3 by rfl, bO hk hl h8 hb hb2 (by decide) (by decide), show (3 : Int) + 1 = 4 by rfl, bO hk hl h8 hb hb2 (by decide) (by decide), show (4 : Int) + 1 = 5 by rfl, bO hk hl h8 hb hb2 (by decide) (by decide), show (5 : Int) + 1 = 6 by rfl, bO hk hl h8 hb hb2 (by decide) (by decide), show (6 : Int) + 1 = 7 by rfl]
 have h7 : F9 k s f K (m + 1) 7 = K 7 := rfl
 rw [h7]
 unfold opN
 cases qi s f <;> cases C5 1 == sgn s <;> cases C5 2 == sgn s <;> cases C5 3 == sgn s <;> cases C5 4 == sgn s <;> cases C5 5 == sgn s <;> cases C5 6 == sgn s <;> rfl
theorem eQ {k : Nat} {b : a8} {t : Int} {x : b8} {s : Str} (hk : maxLen + 6 ≤ k) (hi : idx b.fTypes t = some x) (hok : A2 x = true) (hx : x.fFields.length ≤ maxLen) (hl : s.length ≤ maxLen) : cK k b t s = some (pS (W3 x s)) := by
 have e63 := m0
 obtain ⟨k, rfl, hq⟩ := i9 (c := maxLen + 5) hk
 unfold cK
 refine Eq.trans (aQ (L := fun m i => N2 k b t s (fun y52 => some (({ fField := [], fOp := 0, fValue := [] } : a6), ([] : Str), false)) m i) (n := x.fFields.length) (g := at' x.fFields fun f => qi s f && decide (opN (sgn s) ≤ 6)) (r := fun i => match x.fFields[i]? with | some f => some (mF s f (opN (sgn s))) | none => none) (z := some (pS none)) ?_ ?_ (by omega)) ?_
 ·intro m i hlt _
  obtain ⟨h8, _, _⟩ := lh hok hlt
  have hf := cC hok hlt
  simp only [N2, hi, Option.bind_some, p6 hlt, show decide ((i : Int) < (x.fFields.length : Int)) = true by simp; omega, cond_true, zw (show 10 ≤ k by omega) hl h8 hf.2.1 (show (x.fFields[i]).fBytes ≤ 40 by omega) (show 8 ≤ k by omega), u7 hlt, m8 hlt hx, List.getElem?_eq_getElem hlt]
 ·intro m _
  simp only [N2, hi, Option.bind_some, show decide ((x.fFields.length : Int) < (x.fFields.length : Int)) = false by simp, cond_false]
  rfl
 -- the same place
 unfold W3
 by_cases h10 : s.length < 10
 ·have : decide ((s.length : Int) < 10) = true := by simp; omega
  rw [this, cond_true]
  refine eY _ _ (fun j _ hj => ?_)
  have hjl : j < x.fFields.length := by omega
  have hf := cC hok hjl
  rw [u7 hjl]
  have : decide (10 + (x.fFields[j]).fBytes ≤ (s.length : Int)) = false := by simp; omega
  rw [qi, this]
  rfl
 have hd : decide ((s.length : Int) < 10) = false := by simp; omega
 rw [hd, cond_false]
 have hit : ∀ j (hj : j < x.fFields.length), qi s x.fFields[j] = (decide (10 + (x.fFields[j]).fBytes ≤ (s.length : Int)) && ((x.fFields[j]).fName == trimRightB (s.take 8) 32)) := by
  intro j hj
  obtain ⟨h8, hno, _⟩ := lh hok hj
  rw [qi, tB hno h8 (by rw [List.length_take]; omega)]
 generalize hn : trimRightB (s.take 8) 32 = name at hit
 rcases L6 x.fFields (fun f => f.fName == name) with ⟨hall, e⟩ | ⟨j, hj, hp, hbef, e⟩
 ·have e' : fieldAt x name = -1 := e
  rw [e']
  refine eY _ _ (fun j _ hj => ?_)
  have hjl : j < x.fFields.length := by omega
  rw [u7 hjl, hit j hjl, hall j hjl]
  simp
 have e' : fieldAt x name = (j : Int) := e
 rw [e', p6 hj]
 have hother : ∀ i (hi : i < x.fFields.length), i ≠ j → ((x.fFields[i]).fName == name) = false := by
  intro i hi hne
  rcases Nat.lt_or_ge i j with h | h
  ·exact hbef i hi h
  ·obtain ⟨_, _, hany⟩ := lh hok hi
   rw [List.any_eq_false] at hany
   have := hany x.fFields[j] (by rw [List.mem_take_iff_getElem]; exact ⟨j, by omega, rfl⟩)
   have hpj := eq_of_beq hp
   refine beq_eq_false_iff_ne.2 fun e2 => this ?_
   rw [hpj, e2, beq_self_eq_true]
 have hf := cC hok hj
 rcases mY (sgn s) with ⟨e7, _⟩ | ⟨_, h6, _⟩
 ·rw [e7]
  refine eY _ _ (fun i _ hi => ?_)
  have hil : i < x.fFields.length := by omega
  rw [u7 hil]
  simp
 have h6' : decide (opN (sgn s) > 6) = false := by simpa using h6
 have h6'' : decide (opN (sgn s) ≤ 6) = true := by simpa using h6
 simp only [h6', cond_false]
 by_cases hlen : (s.length : Int) < 10 + (x.fFields[j]).fBytes
 ·have d1 : decide ((s.length : Int) < 10 + (x.fFields[j]).fBytes) = true := by simpa using hlen
  rw [d1, cond_true]
  refine eY _ _ (fun i _ hi => ?_)
  have hil : i < x.fFields.length := by omega
  rw [u7 hil, hit i hil]
  by_cases e2 : i = j
  ·subst e2
   have : decide (10 + (x.fFields[i]).fBytes ≤ (s.length : Int)) = false := by simp; omega
   rw [this]
   rfl
  ·rw [hother i hil e2]
   simp
 ·have d1 : decide ((s.length : Int) < 10 + (x.fFields[j]).fBytes) = false := by simpa using hlen
  rw [d1, cond_false]
  have hgj : at' x.fFields (fun f => qi s f && decide (opN (sgn s) ≤ 6)) j = true := by
   rw [u7 hj, hit j hj, h6'', hp]
   have : decide (10 + (x.fFields[j]).fBytes ≤ (s.length : Int)) = true := by simp; omega
   rw [this]
   rfl
  rcases gY (at' x.fFields fun f => qi s f && decide (opN (sgn s) ≤ 6)) (fun i => match x.fFields[i]? with | some f => some (mF s f (opN (sgn s))) | none => none) (some (pS none)) x.fFields.length 0 with ⟨g1, _⟩ | ⟨i, _, g2, g3, _, g4⟩
  ·rw [g1 j (by omega) (by omega)] at hgj; cases hgj
  ·have hil : i < x.fFields.length := by omega
   have hij : i = j := by
    by_cases e2 : i = j
    ·exact e2
    ·rw [u7 hil, hit i hil, hother i hil e2] at g3
     simp at g3
   subst hij
   rw [g4, List.getElem?_eq_getElem hil]
   simp only [mF, pS, eq_of_beq hp]
end Go.Sh

namespace Go.Sh
open Go.AE
open Go.Lib (trimRightB)
set_option linter.unusedVariables false
set_option linter.unusedSimpArgs false
def W4 (x : b8) : Nat → Str → List a6 → y4 → Option y4
 | 0, _, _, _ => none
 | n + 1, s, g, out => match W3 x s with
  | none => none
  | some (t, r) => match r with
   | [] => some (out ++ [g ++ [t]])
   | c :: r => bif c == 38 then W4 x n r (g ++ [t]) out else bif c == 124 then W4 x n r [] (out ++ [g ++ [t]]) else none
def so (x : b8) : Option y4 → y4 × Int
 | none => ([], 3)
 | some c => bif B5 x c then (c, 0) else ([], 3)
def aD (b : a8) (t : Int) (s : Str) : y4 × Int := bif s6 b [t] != 0 then ([], s6 b [t]) else match idx b.fTypes t with
 | none => ([], 0)
 | some x => bif s == [] then ([], 0) else so x (W4 x (s.length + 1) s [] [])
theorem Bk {s : Str} : s.take 10 = s.take 8 ++ sgn s := by
 have := (List.take_append_drop 8 (s.take 10)).symm
 rw [List.take_take] at this
 exact this
theorem gK {x : b8} {s r : Str} {t : a6} (hok : A2 x = true) (h : W3 x s = some (t, r)) : s = E9 t ++ r ∧ T1 x t = true ∧ r.length + 11 ≤ s.length := by
 unfold W3 at h
 by_cases h10 : s.length < 10
 ·have : decide ((s.length : Int) < 10) = true := by simp; omega
  rw [this] at h
  cases h
 have hd : decide ((s.length : Int) < 10) = false := by simp; omega
 rw [hd, cond_false] at h
 have h8 : (s.take 8).length = 8 := by rw [List.length_take]; omega
 have hpad := nM h8
 generalize trimRightB (s.take 8) 32 = name at h hpad
 rcases L6 x.fFields (fun f => f.fName == name) with ⟨_, e⟩ | ⟨j, hj, hp, _, e⟩
 ·have e' : fieldAt x name = -1 := e
  rw [e'] at h
  cases h
 have e' : fieldAt x name = (j : Int) := e
 rw [e', p6 hj] at h
 simp only at h
 rcases mY (sgn s) with ⟨e7, _⟩ | ⟨h1, h6, hs⟩
 ·rw [e7] at h
  cases h
 have h6' : decide (opN (sgn s) > 6) = false := by simpa using h6
 rw [h6', cond_false] at h
 have hf := cC hok hj
 obtain ⟨n, hn⟩ : ∃ n : Nat, (x.fFields[j]).fBytes = (n : Int) := ⟨(x.fFields[j]).fBytes.toNat, (Int.toNat_of_nonneg (by omega)).symm⟩
 rw [hn] at h
 by_cases hlen : s.length < 10 + n
 ·have : decide ((s.length : Int) < 10 + (n : Int)) = true := by simp; omega
  rw [this] at h
  cases h
 have hl : decide ((s.length : Int) < 10 + (n : Int)) = false := by simp; omega
 rw [hl, cond_false, Int.toNat_natCast] at h
 obtain ⟨rfl, rfl⟩ := Prod.mk.inj (Option.some.inj h)
 refine ⟨?_, ?_, ?_⟩
 ·simp only [E9, hpad, hs]
  rw [← List.append_assoc (s.take 8), ← Bk, List.append_assoc, ← List.drop_drop, List.take_append_drop, List.take_append_drop]
 ·unfold T1
  simp only [e', p6 hj, hn, List.length_take, List.length_drop, Bool.and_eq_true, decide_eq_true_eq]
  refine ⟨by omega, h1, h6, ?_⟩
  rw [Nat.min_eq_left (by omega), beq_self_eq_true]
 ·rw [List.length_drop]
  omega
theorem X1 {x : b8} {t : a6} (r : Str) (hok : A2 x = true) (h : T1 x t = true) : W3 x (E9 t ++ r) = some (t, r) := by
 obtain ⟨j, hj, e, h1, h2, h3, h4⟩ := ml h
 obtain ⟨h8, hno, _⟩ := lh hok hj
 rw [h1] at h8 hno
 have hpl := aq h8
 have hsl := eh t.fOp
 have hlen : (E9 t ++ r).length = 10 + t.fValue.length + r.length := by
  unfold E9
  simp only [List.length_append, hpl, hsl]
  omega
 have ha : E9 t ++ r = Z5 t.fField ++ (C5 t.fOp ++ (t.fValue ++ r)) := by simp only [E9, List.append_assoc]
 have hb : E9 t ++ r = (Z5 t.fField ++ C5 t.fOp) ++ (t.fValue ++ r) := by simp only [E9, List.append_assoc]
 have hc : E9 t ++ r = ((Z5 t.fField ++ C5 t.fOp) ++ t.fValue) ++ r := by simp only [E9, List.append_assoc]
 have t8 : (E9 t ++ r).take 8 = Z5 t.fField := by rw [ha]; exact List.take_left' hpl
 have hpsl : (Z5 t.fField ++ C5 t.fOp).length = 10 := by rw [List.length_append, hpl, hsl]
 have t10 : (E9 t ++ r).take 10 = Z5 t.fField ++ C5 t.fOp := by rw [hb]; exact List.take_left' hpsl
 have hsg : sgn (E9 t ++ r) = C5 t.fOp := by unfold sgn; rw [t10]; exact List.drop_left' hpl
 have d10 : (E9 t ++ r).drop 10 = t.fValue ++ r := by rw [hb]; exact List.drop_left' hpsl
 have hname : trimRightB (Z5 t.fField) 32 = t.fField := mX hno _
 unfold W3
 have hd : decide (((E9 t ++ r).length : Int) < 10) = false := by rw [hlen]; simp; omega
 rw [hd, cond_false, t8, hname, e, p6 hj, hsg, zM h3 h4]
 have hd2 : decide (((E9 t ++ r).length : Int) < 10 + (t.fValue.length : Int)) = false := by rw [hlen]; simp; omega
 have hd3 : decide (t.fOp > 6) = false := by simpa using h4
 simp only [hd2, hd3, cond_false, ← h2, Int.toNat_natCast, d10, List.take_left]
 rw [← List.drop_drop, d10, List.drop_left]
def qJ (c : y4) : Prop := ∀ h ∈ c, h.length ≤ 1000000 ∧ ∀ u ∈ h, Y4 u
theorem pa {out : y4} {g : List a6} (h : qJ out) (hg : g.length ≤ 1000000) (hs : ∀ u ∈ g, Y4 u) : qJ (out ++ [g]) := by
 intro q hq
 rcases List.mem_append.1 hq with hq | hq
 ·exact h q hq
 ·rw [List.mem_singleton] at hq
  subst hq
  exact ⟨hg, hs⟩
theorem rj {g : List a6} {t : a6} (hs : ∀ u ∈ g, Y4 u) (ht : Y4 t) : ∀ u ∈ g ++ [t], Y4 u := by
 intro u hu
 rcases List.mem_append.1 hu with hu | hu
 ·exact hs u hu
 ·rw [List.mem_singleton] at hu
  subst hu
  exact ht
theorem gV {x : b8} (hok : A2 x = true) : ∀ (n : Nat) (s : Str) (g : List a6) (out c : y4), W4 x n s g out = some c → s.length + g.length + out.length ≤ 1000000 → qJ out → (∀ u ∈ g, Y4 u) → qJ c ∧ c.length ≤ 1000000
 | 0, s, g, out, c, h, _, _, _ => by cases h
 | n + 1, s, g, out, c, h, hb, ho, hg => by
  unfold W4 at h
  cases hf : W3 x s with
  | none => rw [hf] at h; cases h
  | some q =>
   obtain ⟨t, r⟩ := q
   obtain ⟨_, h2, h3⟩ := gK hok hf
   have ht := bE hok h2
   have hg' := rj hg ht
   rw [hf] at h
   simp only at h
   cases r with
   | nil =>
    obtain rfl := Option.some.inj h
    exact ⟨pa ho (by simp; omega) hg', by simp; omega⟩
   | cons a r =>
    simp only [List.length_cons] at h3
    simp only at h
    cases h38 : a == 38 with
    | true =>
     rw [h38, cond_true] at h
     exact gV hok n r _ out c h (by simp; omega) ho hg'
    | false =>
     rw [h38, cond_false] at h
     cases h124 : a == 124 with
     | true =>
      rw [h124, cond_true] at h
      exact gV hok n r [] _ c h (by simp; omega) (pa ho (by simp; omega) hg') (by simp)
     | false => rw [h124] at h; cases h
theorem At {t : a6} (h : Y4 t) : o0 t := ⟨G3 (by have := h.1; omega), L8 (by have := h.2.2.1; omega) (by have := h.2.2.2; omega), G3 (by have := h.2.1; omega), trivial⟩
theorem ov {c : y4} (h : qJ c) (hl : c.length ≤ 1000000) : wfL (wfL o0) c := by
 have e63 := m0
 exact ⟨by omega, fun g hg => ⟨by have := (h g hg).1; omega, fun u hu => At ((h g hg).2 u hu)⟩⟩
theorem nz (c n : UInt8) : (((c.toNat : Int)) == (n.toNat : Int)) = (c == n) := by
 by_cases h : c = n
 ·subst h; simp
 ·rw [beq_eq_false_iff_ne.2 h]
  refine beq_eq_false_iff_ne.2 fun hq => h ?_
  apply UInt8.toNat_inj.1
  omega
theorem wV (c : UInt8) : ((c.toNat : Int) == 38) = (c == 38) := nz c 38
theorem vz (c : UInt8) : ((c.toNat : Int) == 124) = (c == 124) := nz c 124
theorem ec (c : UInt8) (r : Str) : J5 (c :: r) 0 = some (c.toNat : Int) := rfl
theorem kY (c : UInt8) (r : Str) : cut (c :: r) 1 ((c :: r).length : Int) = some r := cw (l := c :: r) (i := 1) (by simp)
theorem pz {k : Nat} {b : a8} {t : Int} {x : b8} {K : Str → y4 → Option (y4 × Int)} (hk : maxLen + 6 ≤ k) (hi : idx b.fTypes t = some x) (hok : A2 x = true) (hx : x.fFields.length ≤ maxLen) :
  ∀ (n m : Nat) (s : Str) (g : List a6) (out : y4), s.length < n → n ≤ m → s.length + g.length + out.length ≤ 1000000 → M5 k b t K m s (out ++ [g]) = match W4 x n s g out with | none => some ([], 3) | some c => K [] c
 | 0, m, s, g, out, h, _, _ => by omega
 | n + 1, m, s, g, out, h, hm, hb => by
  obtain ⟨m, rfl⟩ : ∃ q, m = q + 1 := ⟨m - 1, by omega⟩
  have e63 := m0
  simp only [M5, hi, Option.bind_some, fO hk hok hx]
  unfold W4
  cases hf : W3 x s with
  | none => rfl
  | some q =>
   obtain ⟨u, r⟩ := q
   obtain ⟨_, _, h3⟩ := gK hok hf
   have hw : Go.IntKind.wrap .i64 (((out ++ [g]).length : Int) - 1) = (out.length : Int) := by
    rw [List.length_append, List.length_singleton, W7 (by omega) (by omega)]
    omega
   have h1 : inB (out ++ [g]).length (out.length : Int) = some () := by
    unfold inB
    rw [if_pos ⟨by omega, by rw [List.length_append, List.length_singleton]; omega⟩]
   have h2 : (out ++ [g])[0 + (out.length : Int).toNat]? = some g := by
    rw [Int.toNat_natCast, Nat.zero_add, List.getElem?_append_right (Nat.le_refl _), Nat.sub_self]
    rfl
   have h4 : (out ++ [g]).set (0 + (out.length : Int).toNat) (g ++ [u]) = out ++ [g ++ [u]] := by
    rw [Int.toNat_natCast, Nat.zero_add, List.set_append_right _ _ (Nat.le_refl _), Nat.sub_self]
    rfl
   simp only [pS, Bool.not_true, cond_false, hw, h1, h2, Option.bind_some]
   rw [bH (by simp only [List.length_singleton, l4]; omega)]
   simp only [Option.bind_some, h4]
   cases r with
   | nil => rfl
   | cons a r =>
    simp only [List.length_cons] at h3
    simp only [show ((a :: r : Str) == ([] : Str)) = false by rfl, cond_false, ec, Option.bind_some, wV, vz, kY]
    cases h38 : a == 38 with
    | true =>
     simp only [cond_true]
     exact pz hk hi hok hx n m r (g ++ [u]) out (by omega) (by omega) (by rw [List.length_append, List.length_singleton]; omega)
    | false =>
     simp only [cond_false]
     cases h124 : a == 124 with
     | true =>
      simp only [cond_true]
      rw [bH (by simp only [List.length_append, List.length_singleton, l4]; omega), Option.bind_some]
      exact pz hk hi hok hx n m r [] (out ++ [g ++ [u]]) (by omega) (by omega) (by simp only [List.length_append, List.length_singleton, List.length_nil]; omega)
     | false => rfl
theorem mT {k : Nat} {b : a8} {t : Int} {s : Str} (hk : maxLen + 20 ≤ k) (hw : d8 b) (hs : s.length ≤ 100000) : P6 k b t s = some (aD b t s) := by
 have e63 := m0
 obtain ⟨k, rfl, hq⟩ := i9 (c := maxLen + 19) hk
 simp only [P6, M6 (show maxLen + 13 ≤ k by omega) hw, Option.bind_some, aD]
 by_cases h : s6 b [t] = 0
 ·obtain ⟨x, hx, hwx, hok, _⟩ := aI hw h
  have hfl : x.fFields.length ≤ maxLen := hwx.2.2.2.2.1.1
  simp only [h, hx, bne_self_eq_false, cond_false]
  cases hse : s == ([] : Str) with
  | true => rfl
  | false =>
   simp only [cond_false]
   have e := pz (K := fun y39 y40 => (((idx b.fTypes t).bind fun v41 => ((T3 k v41 y40).bind fun v42 => (some ((!v42))))).bind fun o43 => (bif o43 then (some (([] : y4), 3)) else (some (y40, 0))))) (show maxLen + 6 ≤ k by omega) hx hok hfl (s.length + 1) k s [] [] (by omega) (by omega) (by simp; omega)
   simp only [hx, Option.bind_some] at e ⊢
   refine e.trans ?_
   cases hp : W4 x (s.length + 1) s [] [] with
   | none => rfl
   | some c =>
    obtain ⟨hg, hl⟩ := gV hok _ _ _ _ _ hp (by simp; omega) (by intro q hq; cases hq) (by intro q hq; cases hq)
    simp only [M7 (show maxLen + 13 ≤ k by omega) hfl (ov hg hl), Option.bind_some, so]
    cases B5 x c <;> rfl
 ·have : (s6 b [t] != 0) = true := by simpa using h
  simp only [this, cond_true]
theorem sn {x : b8} (hok : A2 x = true) : ∀ (cs : y4), (∀ h ∈ cs, h ≠ [] ∧ ∀ u ∈ h, T1 x u = true) → ∀ (ts : List a6) (t : a6) (n : Nat) (g : List a6) (out : y4), (∀ u ∈ t :: ts, T1 x u = true) → (E9 t ++ (N9 ts ++ T5 cs)).length < n →
  W4 x n (E9 t ++ (N9 ts ++ T5 cs)) g out = some (out ++ [g ++ t :: ts] ++ cs) := by
 intro cs
 induction cs with
 | nil =>
  intro _ ts
  induction ts with
  | nil =>
   intro t n g out ht hn
   obtain ⟨n, rfl⟩ : ∃ q, n = q + 1 := ⟨n - 1, by omega⟩
   unfold W4
   rw [X1 _ hok (ht t (by simp))]
   simp only [N9, T5, List.append_nil]
  | cons u us ih =>
   intro t n g out ht hn
   obtain ⟨n, rfl⟩ : ∃ q, n = q + 1 := ⟨n - 1, by omega⟩
   unfold W4
   rw [X1 _ hok (ht t (by simp))]
   simp only [N9, List.cons_append, List.length_append, List.length_cons, show ((38 : UInt8) == 38) = true by rfl, cond_true] at hn ⊢
   rw [List.append_assoc, ih u n (g ++ [t]) out (fun v hv => ht v (List.mem_cons_of_mem _ hv)) (by simp only [List.length_append]; omega)]
   simp only [List.append_assoc, List.cons_append, List.nil_append]
 | cons h cs ihc =>
  intro hcs ts
  have hh := hcs h (by simp)
  have ihc := ihc (fun q hq => hcs q (by simp [hq]))
  induction ts with
  | nil =>
   intro t n g out ht hn
   obtain ⟨n, rfl⟩ : ∃ q, n = q + 1 := ⟨n - 1, by omega⟩
   unfold W4
   rw [X1 _ hok (ht t (by simp))]
   obtain ⟨v, vs, rfl⟩ : ∃ v vs, h = v :: vs := by
    cases h with
    | nil => exact absurd rfl hh.1
    | cons v vs => exact ⟨v, vs, rfl⟩
   simp only [N9, T5, List.nil_append, D0, List.length_append, List.length_cons, show ((124 : UInt8) == 38) = false by rfl, show ((124 : UInt8) == 124) = true by rfl, cond_true, cond_false] at hn ⊢
   rw [List.append_assoc, ihc vs v n [] (out ++ [g ++ [t]]) hh.2 (by simp only [List.length_append]; omega)]
   simp only [List.append_assoc, List.cons_append, List.nil_append]
  | cons u us ih =>
   intro t n g out ht hn
   obtain ⟨n, rfl⟩ : ∃ q, n = q + 1 := ⟨n - 1, by omega⟩
   unfold W4
   rw [X1 _ hok (ht t (by simp))]
   simp only [N9, List.cons_append, List.length_append, List.length_cons, show ((38 : UInt8) == 38) = true by rfl, cond_true] at hn ⊢
   rw [List.append_assoc, ih u n (g ++ [t]) out (fun v hv => ht v (List.mem_cons_of_mem _ hv)) (by simp only [List.length_append]; omega)]
   simp only [List.append_assoc, List.cons_append, List.nil_append]
theorem fM {x : b8} {c : y4} (h : B5 x c = true) : ∀ g ∈ c, g ≠ [] ∧ ∀ u ∈ g, T1 x u = true := by
 intro g hg
 refine ⟨?_, kV h g hg⟩
 rintro rfl
 unfold B5 at h
 simp only [Bool.and_eq_true, Bool.not_eq_true'] at h
 have := h.2
 rw [List.any_eq_false] at this
 exact this [] hg rfl
theorem Gc {b : a8} {t : Int} {c : y4} (hw : d8 b) (h : (U6 b t c).2 = 0) : aD b t (U6 b t c).1 = (c, 0) ∧ (U6 b t c).1.length ≤ 1024 := by
 unfold U6 at h ⊢
 rcases ms (t := t) (c := c) hw with ⟨e, h1, _, h3⟩ | ⟨x, h1, _, hx, ha, hwx, hok, hco⟩
 ·rw [h1] at h
  simp only [h3, cond_true] at h
  rw [h] at h3
  cases h3
 ·rw [h1]
  simp only [bne_self_eq_false, cond_false]
  have hl := dZ (T8 hok hco)
  refine ⟨?_, hl⟩
  unfold aD
  rw [ha, hx]
  simp only [bne_self_eq_false, cond_false]
  have hgs := fM hco
  cases hcc : c with
  | nil => rfl
  | cons g cs =>
   rw [hcc] at hgs
   obtain ⟨v, vs, rfl⟩ : ∃ v vs, g = v :: vs := by
    cases g with
    | nil => exact absurd rfl (hgs [] (by simp)).1
    | cons v vs => exact ⟨v, vs, rfl⟩
   have hv := bE hok ((hgs (v :: vs) (by simp)).2 v (by simp))
   have e : R5 ((v :: vs) :: cs) = E9 v ++ (N9 vs ++ T5 cs) := by simp only [R5, D0, List.append_assoc]
   have hne : (E9 v ++ (N9 vs ++ T5 cs) == ([] : Str)) = false := by
    refine beq_eq_false_iff_ne.2 fun e2 => ?_
    have := congrArg List.length e2
    rw [List.length_append, en hv] at this
    simp at this
   rw [e, hne, cond_false, sn hok cs (fun q hq => hgs q (by simp [hq])) vs v _ [] [] (fun u hu => (hgs (v :: vs) (by simp)).2 u hu) (Nat.lt_succ_self _)]
   rw [hcc] at hco
   simp only [List.nil_append, so, List.singleton_append, hco, cond_true]
theorem Aa {b : a8} {t : Int} {s : Str} (hw : d8 b) (hs : s.length ≤ 100000) : wfL (wfL o0) (aD b t s).1 := by
 have hn : wfL (wfL o0) ([] : y4) := ⟨by simp, fun g hg => by cases hg⟩
 unfold aD
 cases h0 : s6 b [t] != 0 with
 | true => exact hn
 | false =>
  have ha : s6 b [t] = 0 := by simpa using h0
  obtain ⟨x, hx, hwx, hok, _⟩ := aI hw ha
  rw [hx]
  simp only [cond_false]
  cases hse : s == ([] : Str) with
  | true => exact hn
  | false =>
   simp only [cond_false]
   cases hp : W4 x (s.length + 1) s [] [] with
   | none => exact hn
   | some c =>
    obtain ⟨hg, hl⟩ := gV hok _ _ _ _ _ hp (by simp; omega) (by intro q hq; cases hq) (by intro q hq; cases hq)
    simp only [so]
    cases B5 x c with
    | false => exact hn
    | true => exact ov hg hl
end Go.Sh

