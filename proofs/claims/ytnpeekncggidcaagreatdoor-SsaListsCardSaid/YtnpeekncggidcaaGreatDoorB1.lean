/- The functions as functions on lists, and what they come to: no program in sight. Conditions: those that each theorem names. -/
import Derived.Test.YtnpeekncggidcaaGreatDoorA3
import Derived.IntWalk
namespace Go.Sh
open Go.AE (idx G0 cut cat app rN inB bX mP wfI wfS wfL wfT mkN vP repL jz Fx cg quoI remE shlI shrI andI orI xorI catL hQ Hc repG qF fdS zA)
set_option linter.unusedVariables false
abbrev Str := List UInt8
structure d6 where
 fName : Str
 fAt : Int
 fBytes : Int
 deriving DecidableEq
structure b7 where
 fName : Str
 fParent : Int
 fMin : Int
 fSize : Int
 fFields : (List d6)
 fKey : Int
 fUnique : Bool
 fLast : Bool
 deriving DecidableEq
structure j0 where
 fName : Str
 fType : Int
 fField : Int
 fSparse : Str
 deriving DecidableEq
structure a7 where
 fName : Str
 fKind : Int
 fTypes : (List b7)
 fIndexes : (List j0)
 deriving DecidableEq
structure a6 where
 fField : Str
 fOp : Int
 fValue : Str
 deriving DecidableEq
structure a8 where
 fSegment : Str
 fCodes : Str
 fWhen : (List (List a6))
 deriving DecidableEq
structure D0 where
 e0 : Str
 e1 : Str
 e2 : Str
 e3 : Str
 e4 : Str
 e5 : Str
 deriving DecidableEq
def bm (a : d6) : Prop := wfS a.fName ∧ (wfI .i64) a.fAt ∧ (wfI .i64) a.fBytes ∧ wfT ()
def D5 (a : b7) : Prop := wfS a.fName ∧ (wfI .i64) a.fParent ∧ (wfI .i64) a.fMin ∧ (wfI .i64) a.fSize ∧ (wfL bm) a.fFields ∧ (wfI .i64) a.fKey ∧ wfT a.fUnique ∧ wfT a.fLast ∧ wfT ()
def aj (a : j0) : Prop := wfS a.fName ∧ (wfI .i64) a.fType ∧ (wfI .i64) a.fField ∧ wfS a.fSparse ∧ wfT ()
def i1 (a : a7) : Prop := wfS a.fName ∧ (wfI .i64) a.fKind ∧ (wfL D5) a.fTypes ∧ (wfL aj) a.fIndexes ∧ wfT ()
def u3 (a : a6) : Prop := wfS a.fField ∧ (wfI .i64) a.fOp ∧ wfS a.fValue ∧ wfT ()
def n6 (a : a8) : Prop := wfS a.fSegment ∧ wfS a.fCodes ∧ (wfL (wfL u3)) a.fWhen ∧ wfT ()
def zL (a : D0) : Prop := wfS a.e0 ∧ wfS a.e1 ∧ wfS a.e2 ∧ wfS a.e3 ∧ wfS a.e4 ∧ wfS a.e5 ∧ wfT ()
def L4 (a0 : a7) (x17 : Int)  (K0 : Int → Option Bool) : Nat → Int → Option Bool
 | 0, _ => none
 | m + 1, x26 =>
  (((idx a0.fTypes x17).bind fun v27 => (some ((decide (x26 < (v27.fFields.length : Int)))))).bind fun o28 =>
    (bif o28 then (((idx a0.fTypes x17).bind fun v29 => ((idx v29.fFields x26).bind fun v30 => (some ((decide ((v30.fName.length : Int) > 40)))))).bind fun o31 =>
     (bif o31 then (some true) else
     (L4 a0 x17 K0 m (Go.IntKind.wrap .i64 (x26 + 1))))) else
    (K0 x26)))
def L3 (k : Nat) (a0 : a7)  (K0 : Int → Option Bool) : Nat → Int → Option Bool
 | 0, _ => none
 | m + 1, x17 =>
  (bif (decide (x17 < (a0.fTypes.length : Int))) then (((idx a0.fTypes x17).bind fun v18 => (bif (decide ((v18.fFields.length : Int) > 20)) then (some (true)) else ((idx a0.fTypes x17).bind fun v19 => (some ((decide ((v19.fName.length : Int) > 40))))))).bind fun o20 =>
        (bif o20 then (some true) else
        (L4 a0 x17 (fun y32 =>
         (L3 k a0 K0 m (Go.IntKind.wrap .i64 (x17 + 1)))) k 0))) else
    (K0 x17))
def L5 (a0 : a7)  (K0 : Int → Option Bool) : Nat → Int → Option Bool
 | 0, _ => none
 | m + 1, x37 =>
  (bif (decide (x37 < (a0.fIndexes.length : Int))) then (((idx a0.fIndexes x37).bind fun v38 => (bif (decide ((v38.fName.length : Int) > 40)) then (some (true)) else ((idx a0.fIndexes x37).bind fun v39 => (some ((decide ((v39.fSparse.length : Int) > 40))))))).bind fun o40 =>
        (bif o40 then (some true) else
        (L5 a0 K0 m (Go.IntKind.wrap .i64 (x37 + 1))))) else
    (K0 x37))
def ck : Nat → (a7) → Option Bool
 | 0, _ => none
 | k + 1, a0 =>
  ((bif (decide ((a0.fTypes.length : Int) > 20)) then (some (true)) else (bif (decide ((a0.fIndexes.length : Int) > 20)) then (some (true)) else (some ((decide ((a0.fName.length : Int) > 40)))))).bind fun o1 =>
   (bif o1 then (some true) else
   (L3 k a0 (fun y33 =>
    (L5 a0 (fun y41 =>
     (some false)) k 0)) k 0)))
def P4 (a0 : (List (List a6))) (x19 : Int)  (K0 : Int → Option Bool) : Nat → Int → Option Bool
 | 0, _ => none
 | m + 1, x29 =>
  (((idx a0 x19).bind fun v30 => (some ((decide (x29 < (v30.length : Int)))))).bind fun o31 =>
    (bif o31 then (((idx a0 x19).bind fun v32 => ((idx v32 x29).bind fun v33 => (bif (decide ((v33.fField.length : Int) > 100)) then (some (true)) else ((idx a0 x19).bind fun v34 => ((idx v34 x29).bind fun v35 => (some ((decide ((v35.fValue.length : Int) > 100))))))))).bind fun o36 =>
     (bif o36 then (some true) else
     (P4 a0 x19 K0 m (Go.IntKind.wrap .i64 (x29 + 1))))) else
    (K0 x29)))
def P3 (k : Nat) (a0 : (List (List a6)))  (K0 : Int → Option Bool) : Nat → Int → Option Bool
 | 0, _ => none
 | m + 1, x19 =>
  (bif (decide (x19 < (a0.length : Int))) then (((idx a0 x19).bind fun v20 => (some ((decide ((v20.length : Int) > 20))))).bind fun o21 =>
        (bif o21 then (some true) else
        (P4 a0 x19 (fun y37 =>
         (P3 k a0 K0 m (Go.IntKind.wrap .i64 (x19 + 1)))) k 0))) else
    (K0 x19))
def eb : Nat → ((List (List a6))) → Option Bool
 | 0, _ => none
 | k + 1, a0 =>
  (P3 k a0 (fun y38 =>
   (some (decide ((a0.length : Int) > 20)))) k 0)
def P5 (k : Nat) (a0 : (List a8))  (K0 : Int → Option Bool) : Nat → Int → Option Bool
 | 0, _ => none
 | m + 1, x6 =>
  (bif (decide (x6 < (a0.length : Int))) then (((idx a0 x6).bind fun v7 => (bif (decide ((v7.fSegment.length : Int) > 100)) then (some (true)) else ((idx a0 x6).bind fun v8 => (bif (decide ((v8.fCodes.length : Int) > 100)) then (some (true)) else ((idx a0 x6).bind fun v9 => (eb k v9.fWhen)))))).bind fun o11 =>
        (bif o11 then (some true) else
        (P5 k a0 K0 m (Go.IntKind.wrap .i64 (x6 + 1))))) else
    (K0 x6))
def ef : Nat → ((List a8)) → Option Bool
 | 0, _ => none
 | k + 1, a0 =>
  (P5 k a0 (fun y12 =>
   (some (decide ((a0.length : Int) > 20)))) k 0)
def bu : Nat → Option a7
 | 0 => none
 | k + 1 =>
  (some ({ fName := ([83, 72, 79, 80] : Str), fKind := 4, fTypes := ([({ fName := ([67, 85, 83, 84] : Str), fParent := (-1), fMin := 4, fSize := 10, fFields := ([({ fName := ([67, 85, 83, 84, 78, 79] : Str), fAt := 0, fBytes := 4 } : d6)] : List d6), fKey := 0, fUnique := true, fLast := false } : b7), ({ fName := ([79, 82, 68, 69, 82] : Str), fParent := 0, fMin := 4, fSize := 8, fFields := ([({ fName := ([79, 82, 68, 78, 79] : Str), fAt := 0, fBytes := 4 } : d6)] : List d6), fKey := 0, fUnique := false, fLast := false } : b7)] : List b7), fIndexes := ([] : List j0) } : a7))
def G6 (a0 : Str)  (K0 : Int → Option Bool) : Nat → Int → Option Bool
 | 0, _ => none
 | m + 1, x7 =>
  (bif (decide (x7 < (a0.length : Int))) then (((G0 a0 x7).bind fun v8 => (bif (decide (v8 ≥ 65)) then ((G0 a0 x7).bind fun v9 => (some ((decide (v9 ≤ 90))))) else (some (false)))).bind fun o10 =>
        ((bif (!o10) then (bif (x7 == 0) then (some (true)) else ((G0 a0 x7).bind fun v11 => (bif (decide (v11 < 48)) then (some (true)) else ((G0 a0 x7).bind fun v12 => (some ((decide (v12 > 57)))))))) else (some (false))).bind fun o13 =>
        (bif o13 then (some false) else
        (G6 a0 K0 m (Go.IntKind.wrap .i64 (x7 + 1)))))) else
    (K0 x7))
def R7 : Nat → (Str) → Option Bool
 | 0, _ => none
 | k + 1, a0 =>
  (G6 a0 (fun y14 =>
   ((bif (decide ((a0.length : Int) ≥ 1)) then (some ((decide ((a0.length : Int) ≤ 8)))) else (some (false))).bind fun o15 =>
    (some o15))) k 0)
def B6 (k : Nat) (a0 : (List d6)) (a1 : Nat → d6 → Option Bool) (K0 : Int → Option Int) : Nat → Int → Option Int
 | 0, _ => none
 | m + 1, x4 =>
  (bif (decide (x4 < (a0.length : Int))) then (((idx a0 x4).bind fun v5 => (a1 k v5)).bind fun o7 =>
        (bif o7 then (some x4) else
        (B6 k a0 a1 K0 m (Go.IntKind.wrap .i64 (x4 + 1))))) else
    (K0 x4))
def B4 : Nat → ((List d6)) → (Nat → d6 → Option Bool) → Option Int
 | 0, _, _ => none
 | k + 1, a0, a1 =>
  (B6 k a0 a1 (fun y8 =>
   (some (-1))) k 0)
def y9 : Nat → ((List d6)) → (Nat → d6 → Option Bool) → Option Bool
 | 0, _, _ => none
 | k + 1, a0, a1 =>
  (((B4 k a0 a1).bind fun v1 => (some ((decide (v1 ≥ 0))))).bind fun o2 =>
   (some o2))
def S7 : Nat → (d6) → (d6) → Option Bool
 | 0, _, _ => none
 | k + 1, a0, a1 =>
  (some (a0.fName == a1.fName))
def F9 (k : Nat) (a0 : (List d6)) (a1 : Int)  (K0 : Int → Option Bool) : Nat → Int → Option Bool
 | 0, _ => none
 | m + 1, x8 =>
  (bif (decide (x8 < (a0.length : Int))) then (((idx a0 x8).bind fun v9 => (some (x8, v9))).bind fun o10 =>
        (((R7 k o10.2.fName).bind fun v11 => (bif (!v11) then (some (true)) else (bif (decide (o10.2.fAt < 0)) then (some (true)) else (bif (decide (o10.2.fAt ≥ a1)) then (some (true)) else (bif (decide (o10.2.fBytes < 1)) then (some (true)) else (some ((decide (o10.2.fBytes > (Go.IntKind.wrap .i64 (a1 - o10.2.fAt))))))))))).bind fun o12 =>
        (bif o12 then (some false) else
        (((cut a0 0 o10.1).bind fun v13 => (y9 k v13 (fun j x0 => (S7 j x0 o10.2)))).bind fun o15 =>
         (bif o15 then (some false) else
         (F9 k a0 a1 K0 m (Go.IntKind.wrap .i64 (x8 + 1)))))))) else
    (K0 x8))
def Z1 : Nat → ((List d6)) → (Int) → Option Bool
 | 0, _, _ => none
 | k + 1, a0, a1 =>
  (F9 k a0 a1 (fun y16 =>
   (some (decide ((a0.length : Int) ≤ 5)))) k 0)
def dV : Nat → (b7) → Option Bool
 | 0, _ => none
 | k + 1, a0 =>
  (((R7 k a0.fName).bind fun v1 => (bif (!v1) then (some (true)) else (bif (decide (a0.fMin < 1)) then (some (true)) else (bif (decide (a0.fMin > a0.fSize)) then (some (true)) else (bif (decide (a0.fSize > 40)) then (some (true)) else ((Z1 k a0.fFields a0.fSize).bind fun v2 => (some ((!v2))))))))).bind fun o3 =>
   (bif o3 then (some false) else
   (bif (a0.fKey == (-1)) then (some (!a0.fUnique)) else
    ((bif (decide (a0.fKey < 0)) then (some (true)) else (some ((decide (a0.fKey ≥ (a0.fFields.length : Int)))))).bind fun o4 =>
     (bif o4 then (some false) else
     (((idx a0.fFields a0.fKey).bind fun v5 => ((idx a0.fFields a0.fKey).bind fun v6 => (some ((decide ((Go.IntKind.wrap .i64 (v5.fAt + v6.fBytes)) ≤ a0.fMin)))))).bind fun o7 =>
      (some o7)))))))
def C5 (k : Nat) (a0 : (List b7)) (a1 : Nat → b7 → Option Bool) (K0 : Int → Option Int) : Nat → Int → Option Int
 | 0, _ => none
 | m + 1, x4 =>
  (bif (decide (x4 < (a0.length : Int))) then (((idx a0 x4).bind fun v5 => (a1 k v5)).bind fun o7 =>
        (bif o7 then (some x4) else
        (C5 k a0 a1 K0 m (Go.IntKind.wrap .i64 (x4 + 1))))) else
    (K0 x4))
def C2 : Nat → ((List b7)) → (Nat → b7 → Option Bool) → Option Int
 | 0, _, _ => none
 | k + 1, a0, a1 =>
  (C5 k a0 a1 (fun y8 =>
   (some (-1))) k 0)
def A1 : Nat → ((List b7)) → (Nat → b7 → Option Bool) → Option Bool
 | 0, _, _ => none
 | k + 1, a0, a1 =>
  (((C2 k a0 a1).bind fun v1 => (some ((decide (v1 ≥ 0))))).bind fun o2 =>
   (some o2))
def V0 : Nat → (b7) → (b7) → Option Bool
 | 0, _, _ => none
 | k + 1, a0, a1 =>
  (some (a0.fName == a1.fName))
def I8 (a0 : (List Int)) (a1 : Int)  (K0 : Int → Option Int) : Nat → Int → Option Int
 | 0, _ => none
 | m + 1, x3 =>
  (bif (decide (x3 < (a0.length : Int))) then (((idx a0 x3).bind fun v4 => (some ((a1 == v4)))).bind fun o5 =>
        (bif o5 then (some x3) else
        (I8 a0 a1 K0 m (Go.IntKind.wrap .i64 (x3 + 1))))) else
    (K0 x3))
def R3 : Nat → ((List Int)) → (Int) → Option Int
 | 0, _, _ => none
 | k + 1, a0, a1 =>
  (I8 a0 a1 (fun y6 =>
   (some (-1))) k 0)
def H6 (k : Nat) (a0 : (List b7))  (K0 : Int → (List Int) → Option Bool) : Nat → Int → (List Int) → Option Bool
 | 0, _, _ => none
 | m + 1, x15, x16 =>
  (bif (decide (x15 < (a0.length : Int))) then (((idx a0 x15).bind fun v17 => (some (x15, v17))).bind fun o18 =>
        (((dV k o18.2).bind fun v19 => (bif (!v19) then (some (true)) else ((cut a0 0 o18.1).bind fun v20 => (A1 k v20 (fun j x0 => (V0 j x0 o18.2)))))).bind fun o22 =>
        (bif o22 then (some false) else
        ((R3 k x16 o18.2.fParent).bind fun o24 =>
         ((bif (o18.1 == 0) then (bif (o18.2.fParent != (-1)) then (some (true)) else (bif (decide (o18.2.fKey < 0)) then (some (true)) else (bif (!o18.2.fUnique) then (some (true)) else ((idx o18.2.fFields o18.2.fKey).bind fun v25 => (bif (decide (v25.fBytes > 24)) then (some (true)) else (bif (decide (o18.1 > 0)) then (some ((decide (o24 < 0)))) else (some (false)))))))) else (bif (decide (o18.1 > 0)) then (some ((decide (o24 < 0)))) else (some (false)))).bind fun o26 =>
         (bif o26 then (some false) else
         (((rN x16 (Go.IntKind.wrap .i64 (o24 + 1))).bind fun v27 => (app (List.take v27 x16) ([o18.1] : List Int))).bind fun o29 =>
          (bif (decide ((o29.length : Int) > 5)) then (some false) else
          (H6 k a0 K0 m (Go.IntKind.wrap .i64 (x15 + 1)) o29))))))))) else
    (K0 x15 x16))
def aM : Nat → ((List b7)) → Option Bool
 | 0, _ => none
 | k + 1, a0 =>
  ((bif (decide ((a0.length : Int) < 1)) then (some (true)) else (some ((decide ((a0.length : Int) > 8))))).bind fun o1 =>
   (bif o1 then (some false) else
   (H6 k a0 (fun y30 y31 =>
    (some true)) k 0 ([] : List Int))))
def B0 (k : Nat) (a0 : (List j0)) (a1 : Nat → j0 → Option Bool) (K0 : Int → Option Int) : Nat → Int → Option Int
 | 0, _ => none
 | m + 1, x4 =>
  (bif (decide (x4 < (a0.length : Int))) then (((idx a0 x4).bind fun v5 => (a1 k v5)).bind fun o7 =>
        (bif o7 then (some x4) else
        (B0 k a0 a1 K0 m (Go.IntKind.wrap .i64 (x4 + 1))))) else
    (K0 x4))
def H4 : Nat → ((List j0)) → (Nat → j0 → Option Bool) → Option Int
 | 0, _, _ => none
 | k + 1, a0, a1 =>
  (B0 k a0 a1 (fun y8 =>
   (some (-1))) k 0)
def w7 : Nat → ((List j0)) → (Nat → j0 → Option Bool) → Option Bool
 | 0, _, _ => none
 | k + 1, a0, a1 =>
  (((H4 k a0 a1).bind fun v1 => (some ((decide (v1 ≥ 0))))).bind fun o2 =>
   (some o2))
def Q5 : Nat → (j0) → (j0) → Option Bool
 | 0, _, _ => none
 | k + 1, a0, a1 =>
  (some (a0.fName == a1.fName))
def D6 (k : Nat) (a0 : (List j0)) (a1 : (List b7))  (K0 : Int → Option Bool) : Nat → Int → Option Bool
 | 0, _ => none
 | m + 1, x11 =>
  (bif (decide (x11 < (a0.length : Int))) then (((idx a0 x11).bind fun v12 => (some (x11, v12))).bind fun o13 =>
        (((R7 k o13.2.fName).bind fun v14 => (bif (!v14) then (some (true)) else (bif (decide (o13.2.fType < 0)) then (some (true)) else (bif (decide (o13.2.fType ≥ (a1.length : Int))) then (some (true)) else (bif (decide ((o13.2.fSparse.length : Int) > 1)) then (some (true)) else ((cut a0 0 o13.1).bind fun v15 => (w7 k v15 (fun j x0 => (Q5 j x0 o13.2))))))))).bind fun o17 =>
        (bif o17 then (some false) else
        (((idx a1 o13.2.fType).bind fun v18 => (some (v18.fFields))).bind fun o19 =>
         ((bif (decide (o13.2.fField < 0)) then (some (true)) else (bif (decide (o13.2.fField ≥ (o19.length : Int))) then (some (true)) else ((idx o19 o13.2.fField).bind fun v20 => (some ((decide (v20.fBytes > 20))))))).bind fun o21 =>
         (bif o21 then (some false) else
         (D6 k a0 a1 K0 m (Go.IntKind.wrap .i64 (x11 + 1))))))))) else
    (K0 x11))
def U9 : Nat → ((List j0)) → ((List b7)) → Option Bool
 | 0, _, _ => none
 | k + 1, a0, a1 =>
  (D6 k a0 a1 (fun y22 =>
   (some (decide ((a0.length : Int) ≤ 3)))) k 0)
def bp : Nat → (a7) → Option Bool
 | 0, _ => none
 | k + 1, a0 =>
  (((R7 k a0.fName).bind fun v1 => (bif v1 then (bif (decide (a0.fKind ≥ 1)) then (bif (decide (a0.fKind ≤ 4)) then ((aM k a0.fTypes).bind fun v2 => (bif v2 then (U9 k a0.fIndexes a0.fTypes) else (some (false)))) else (some (false))) else (some (false))) else (some (false)))).bind fun o4 =>
   (some o4))
def strings_IndexByte : Nat → Str → Int → Option Int
 | 0, _, _ => none
 | _ + 1, s, n => some (cg s n.toNat.toUInt8)
def I4 (k : Nat) (a0 : Str)  (K0 : Int → Int → Option Bool) : Nat → Int → Int → Option Bool
 | 0, _, _ => none
 | m + 1, x5, x6 =>
  (bif (decide (x6 < (a0.length : Int))) then (((cut ([68, 76, 80] : Str) x5 (([68, 76, 80] : Str).length : Int)).bind fun v7 => ((G0 a0 x6).bind fun v8 => (strings_IndexByte k v7 v8))).bind fun o10 =>
        (bif (decide (o10 < 0)) then (some false) else
        (I4 k a0 K0 m (Go.IntKind.wrap .i64 (x5 + (Go.IntKind.wrap .i64 (o10 + 1)))) (Go.IntKind.wrap .i64 (x6 + 1))))) else
    (K0 x5 x6))
def dG : Nat → (Str) → Option Bool
 | 0, _ => none
 | k + 1, a0 =>
  (I4 k a0 (fun y11 y12 =>
   (some true)) k 0 0)
def D3 (k : Nat) (a0 : (List Int)) (a1 : Nat → Int → Option Bool) (K0 : Int → Option Int) : Nat → Int → Option Int
 | 0, _ => none
 | m + 1, x4 =>
  (bif (decide (x4 < (a0.length : Int))) then (((idx a0 x4).bind fun v5 => (a1 k v5)).bind fun o7 =>
        (bif o7 then (some x4) else
        (D3 k a0 a1 K0 m (Go.IntKind.wrap .i64 (x4 + 1))))) else
    (K0 x4))
def O7 : Nat → ((List Int)) → (Nat → Int → Option Bool) → Option Int
 | 0, _, _ => none
 | k + 1, a0, a1 =>
  (D3 k a0 a1 (fun y8 =>
   (some (-1))) k 0)
def A4 : Nat → ((List Int)) → (Nat → Int → Option Bool) → Option Bool
 | 0, _, _ => none
 | k + 1, a0, a1 =>
  (((O7 k a0 a1).bind fun v1 => (some ((decide (v1 ≥ 0))))).bind fun o2 =>
   (some o2))
def ax : Nat → (Int) → (a7) → Option Bool
 | 0, _, _ => none
 | k + 1, a0, a1 =>
  ((bif (decide (a0 < 0)) then (some (true)) else (some ((decide (a0 ≥ (a1.fTypes.length : Int)))))).bind fun o1 =>
   (some o1))
def br : Nat → (a7) → ((List Int)) → Option Int
 | 0, _, _ => none
 | k + 1, a0, a1 =>
  (((bp k a0).bind fun v1 => (some ((!v1)))).bind fun o2 =>
   (bif o2 then (some 100) else
   ((A4 k a1 (fun j x0 => (ax j x0 a0))).bind fun o4 =>
    (bif o4 then (some 2) else
    (some 0)))))
def dS : Nat → (b7) → (Str) → Option Bool
 | 0, _, _ => none
 | k + 1, a0, a1 =>
  (some (a0.fName == a1))
def fH : Nat → (Int) → Option (Int × Int)
 | 0, _ => none
 | k + 1, a0 =>
  (bif (decide (a0 < 0)) then (some (0, 5)) else
   (some (a0, 0)))
def cd : Nat → (a7) → (Str) → Option (Int × Int)
 | 0, _, _ => none
 | k + 1, a0, a1 =>
  ((br k a0 ([] : List Int)).bind fun o2 =>
   (bif (o2 != 0) then (some (0, o2)) else
   (((C2 k a0.fTypes (fun j x0 => (dS j x0 a1))).bind fun v3 => ((fH k v3).bind fun v4 => (some (v4.1, v4.2)))).bind fun o5 =>
    (some (o5.1, o5.2)))))
def slices_Reverse_int : Nat → List Int → Option (List Int)
 | 0, _ => none
 | _ + 1, l => mP l
def am (a0 : a7)  (K0 : Int → (List Int) → Option (List Int)) : Nat → Int → (List Int) → Option (List Int)
 | 0, _, _ => none
 | m + 1, x5, x6 =>
  (bif (decide (x5 ≥ 0)) then ((app x6 ([x5] : List Int)).bind fun o8 =>
        (((idx a0.fTypes x5).bind fun v9 => (some (v9.fParent))).bind fun o10 =>
        (am a0 K0 m o10 o8))) else
    (K0 x5 x6))
def ja : Nat → (a7) → (Int) → Option (List Int)
 | 0, _, _ => none
 | k + 1, a0, a1 =>
  (am a0 (fun y11 y12 =>
   (((slices_Reverse_int k y12).bind (bX y12)).bind fun o14 =>
    (some o14))) k a1 ([] : List Int))
def I7 : Nat → ((List Int)) → (Int) → Option Bool
 | 0, _, _ => none
 | k + 1, a0, a1 =>
  (((R3 k a0 a1).bind fun v1 => (some ((decide (v1 ≥ 0))))).bind fun o2 =>
   (some o2))
def cb : Nat → (a7) → (Int) → (Int) → Option (Bool × Int)
 | 0, _, _, _ => none
 | k + 1, a0, a1, a2 =>
  ((br k a0 ([a1, a2] : List Int)).bind fun o2 =>
   (bif (o2 != 0) then (some (false, o2)) else
   ((bif (a1 != a2) then ((ja k a0 a2).bind fun v3 => ((I7 k v3 a1).bind fun v4 => (some (v4, 0)))) else (some (false, 0))).bind fun o5 =>
    (some (o5.1, o5.2)))))
def kH : Nat → (a7) → (Int) → Option ((List Int) × Int)
 | 0, _, _ => none
 | k + 1, a0, a1 =>
  ((br k a0 ([a1] : List Int)).bind fun o2 =>
   (bif (o2 != 0) then (some (([] : List Int), o2)) else
   (((ja k a0 a1).bind fun v3 => (some (v3, 0))).bind fun o4 =>
    (some (o4.1, o4.2)))))
def fG : Nat → (a7) → (Int) → Option (Int × Int)
 | 0, _, _ => none
 | k + 1, a0, a1 =>
  (((kH k a0 a1).bind fun v1 => (some (v1.1, v1.2))).bind fun o2 =>
   (some ((o2.1.length : Int), o2.2)))
def V9 : Nat → (a7) → (Int) → Option Int
 | 0, _, _ => none
 | k + 1, a0, a1 =>
  (((fG k a0 a1).bind fun v1 => (some (v1.2))).bind fun o2 =>
   (some o2))
def B7 (k : Nat) (a0 : (List (List a6))) (a1 : Nat → (List a6) → Option Bool) (K0 : Int → Option Int) : Nat → Int → Option Int
 | 0, _ => none
 | m + 1, x4 =>
  (bif (decide (x4 < (a0.length : Int))) then (((idx a0 x4).bind fun v5 => (a1 k v5)).bind fun o7 =>
        (bif o7 then (some x4) else
        (B7 k a0 a1 K0 m (Go.IntKind.wrap .i64 (x4 + 1))))) else
    (K0 x4))
def J3 : Nat → ((List (List a6))) → (Nat → (List a6) → Option Bool) → Option Int
 | 0, _, _ => none
 | k + 1, a0, a1 =>
  (B7 k a0 a1 (fun y8 =>
   (some (-1))) k 0)
def z6 : Nat → ((List (List a6))) → (Nat → (List a6) → Option Bool) → Option Bool
 | 0, _, _ => none
 | k + 1, a0, a1 =>
  (((J3 k a0 a1).bind fun v1 => (some ((decide (v1 ≥ 0))))).bind fun o2 =>
   (some o2))
def C4 (k : Nat) (a0 : (List a6)) (a1 : Nat → a6 → Option Bool) (K0 : Int → Option Int) : Nat → Int → Option Int
 | 0, _ => none
 | m + 1, x4 =>
  (bif (decide (x4 < (a0.length : Int))) then (((idx a0 x4).bind fun v5 => (a1 k v5)).bind fun o7 =>
        (bif o7 then (some x4) else
        (C4 k a0 a1 K0 m (Go.IntKind.wrap .i64 (x4 + 1))))) else
    (K0 x4))
def M5 : Nat → ((List a6)) → (Nat → a6 → Option Bool) → Option Int
 | 0, _, _ => none
 | k + 1, a0, a1 =>
  (C4 k a0 a1 (fun y8 =>
   (some (-1))) k 0)
def A0 : Nat → ((List a6)) → (Nat → a6 → Option Bool) → Option Bool
 | 0, _, _ => none
 | k + 1, a0, a1 =>
  (((M5 k a0 a1).bind fun v1 => (some ((decide (v1 ≥ 0))))).bind fun o2 =>
   (some o2))
def Z3 : Nat → (d6) → (Str) → Option Bool
 | 0, _, _ => none
 | k + 1, a0, a1 =>
  (some (a0.fName == a1))
def az : Nat → (b7) → (Str) → Option (Int × Bool)
 | 0, _, _ => none
 | k + 1, a0, a1 =>
  ((B4 k a0.fFields (fun j x0 => (Z3 j x0 a1))).bind fun o2 =>
   (some (o2, (decide (o2 ≥ 0)))))
def aS : Nat → (b7) → (a6) → Option Bool
 | 0, _, _ => none
 | k + 1, a0, a1 =>
  (((az k a0 a1.fField).bind fun v1 => (some (v1.1, v1.2))).bind fun o2 =>
   ((bif o2.2 then (bif (decide (a1.fOp ≥ 1)) then (bif (decide (a1.fOp ≤ 6)) then ((idx a0.fFields o2.1).bind fun v3 => (some (((a1.fValue.length : Int) == v3.fBytes)))) else (some (false))) else (some (false))) else (some (false))).bind fun o4 =>
   (some o4)))
def N1 : Nat → (a6) → (b7) → Option Bool
 | 0, _, _ => none
 | k + 1, a0, a1 =>
  (((aS k a1 a0).bind fun v1 => (some ((!v1)))).bind fun o2 =>
   (some o2))
def P6 : Nat → ((List a6)) → (b7) → Option Bool
 | 0, _, _ => none
 | k + 1, a0, a1 =>
  ((bif (decide ((a0.length : Int) < 1)) then (some (true)) else (bif (decide ((a0.length : Int) > 4)) then (some (true)) else (A0 k a0 (fun j x0 => (N1 j x0 a1))))).bind fun o2 =>
   (some o2))
def R5 : Nat → (b7) → ((List (List a6))) → Option Bool
 | 0, _, _ => none
 | k + 1, a0, a1 =>
  ((bif (decide ((a1.length : Int) ≤ 4)) then ((z6 k a1 (fun j x0 => (P6 j x0 a0))).bind fun v1 => (some ((!v1)))) else (some (false))).bind fun o2 =>
   (some o2))
def ay : Nat → (a7) → (Int) → ((List (List a6))) → Option (Bool × Int)
 | 0, _, _, _ => none
 | k + 1, a0, a1, a2 =>
  ((V9 k a0 a1).bind fun o2 =>
   (bif (o2 != 0) then (some (false, o2)) else
   (((idx a0.fTypes a1).bind fun v3 => ((R5 k v3 a2).bind fun v4 => (some (v4, 0)))).bind fun o5 =>
    (some (o5.1, o5.2)))))
def eJ : Nat → (a7) → (Int) → (a8) → Option (Str × Int)
 | 0, _, _, _ => none
 | k + 1, a0, a1, a2 =>
  (((dG k a2.fCodes).bind fun v1 => (some ((!v1)))).bind fun o2 =>
   (bif o2 then (some (([65, 74] : Str), 0)) else
   (((cd k a0 a2.fSegment).bind fun v3 => (some (v3.1, v3.2))).bind fun o4 =>
    (bif (o4.2 != 0) then (some (([65, 67] : Str), 0)) else
    (bif (decide (a1 ≥ 0)) then (((cb k a0 a1 o4.1).bind fun v5 => (some (v5.1))).bind fun o6 =>
      (bif (!o6) then (some (([65, 67] : Str), 0)) else
      (((ay k a0 o4.1 a2.fWhen).bind fun v7 => (some (v7.1))).bind fun o8 =>
       (bif (!o8) then (some (([65, 75] : Str), 0)) else
       (some (([32, 32] : Str), o4.1)))))) else
     (((ay k a0 o4.1 a2.fWhen).bind fun v9 => (some (v9.1))).bind fun o10 =>
      (bif (!o10) then (some (([65, 75] : Str), 0)) else
      (some (([32, 32] : Str), o4.1)))))))))
def S4 (k : Nat) (a0 : a7) (a1 : (List a8))  (K0 : Int → (List Int) → Int → Option (Str × (List Int))) : Nat → Int → (List Int) → Int → Option (Str × (List Int))
 | 0, _, _, _ => none
 | m + 1, x7, x8, x9 =>
  (bif (decide (x9 < (a1.length : Int))) then ((idx a1 x9).bind fun o11 =>
        (((eJ k a0 x7 o11).bind fun v12 => (some (v12.1, v12.2))).bind fun o13 =>
        (bif (!(o13.1 == ([32, 32] : Str))) then (some (o13.1, ([] : List Int))) else
        ((app x8 ([o13.2] : List Int)).bind fun o15 =>
         (S4 k a0 a1 K0 m o13.2 o15 (Go.IntKind.wrap .i64 (x9 + 1))))))) else
    (K0 x7 x8 x9))
def fT : Nat → (a7) → ((List a8)) → Option (Str × (List Int))
 | 0, _, _ => none
 | k + 1, a0, a1 =>
  (bif (decide ((a1.length : Int) > 5)) then (some (([65, 74] : Str), ([] : List Int))) else
   (S4 k a0 a1 (fun y16 y17 y18 =>
    (some (([32, 32] : Str), y17))) k (-1) ([] : List Int) 0))
def bM : Nat → (a7) → ((List a8)) → Option ((List Int) × Int)
 | 0, _, _ => none
 | k + 1, a0, a1 =>
  (((bp k a0).bind fun v1 => (some ((!v1)))).bind fun o2 =>
   (bif o2 then (some (([] : List Int), 100)) else
   (((fT k a0 a1).bind fun v3 => (some (v3.1, v3.2))).bind fun o4 =>
    (bif (!(o4.1 == ([32, 32] : Str))) then (some (([] : List Int), 2)) else
    (some (o4.2, 0))))))
def strings_Repeat : Nat → Str → Int → Option Str
 | 0, _, _ => none
 | _ + 1, s, n => vP s n
def B1 (k : Nat) (a0 : (List (List (List a6)))) (a1 : Nat → (List (List a6)) → Option Bool) (K0 : Int → Option Int) : Nat → Int → Option Int
 | 0, _ => none
 | m + 1, x4 =>
  (bif (decide (x4 < (a0.length : Int))) then (((idx a0 x4).bind fun v5 => (a1 k v5)).bind fun o7 =>
        (bif o7 then (some x4) else
        (B1 k a0 a1 K0 m (Go.IntKind.wrap .i64 (x4 + 1))))) else
    (K0 x4))
def H5 : Nat → ((List (List (List a6)))) → (Nat → (List (List a6)) → Option Bool) → Option Int
 | 0, _, _ => none
 | k + 1, a0, a1 =>
  (B1 k a0 a1 (fun y8 =>
   (some (-1))) k 0)
def w8 : Nat → ((List (List (List a6)))) → (Nat → (List (List a6)) → Option Bool) → Option Bool
 | 0, _, _ => none
 | k + 1, a0, a1 =>
  (((H5 k a0 a1).bind fun v1 => (some ((decide (v1 ≥ 0))))).bind fun o2 =>
   (some o2))
def G1 : Nat → ((List (List a6))) → (b7) → Option Bool
 | 0, _, _ => none
 | k + 1, a0, a1 =>
  (((R5 k a1 a0).bind fun v1 => (some ((!v1)))).bind fun o2 =>
   (some o2))
def J9 : Nat → (a7) → (Int) → ((List (List (List a6)))) → Option (b7 × Int)
 | 0, _, _, _ => none
 | k + 1, a0, a1, a2 =>
  ((V9 k a0 a1).bind fun o2 =>
   (bif (o2 != 0) then (some (({ fName := [], fParent := 0, fMin := 0, fSize := 0, fFields := ([] : List d6), fKey := 0, fUnique := false, fLast := false } : b7), o2)) else
   ((idx a0.fTypes a1).bind fun o4 =>
    ((w8 k a2 (fun j x0 => (G1 j x0 o4))).bind fun o6 =>
    (bif o6 then (some (({ fName := [], fParent := 0, fMin := 0, fSize := 0, fFields := ([] : List d6), fKey := 0, fUnique := false, fLast := false } : b7), 110)) else
    (some (o4, 0)))))))
def ao : Nat → (Int) → Option Str
 | 0, _ => none
 | k + 1, a0 =>
  ((idx ([({ e0 := ([61, 32] : Str), e1 := ([60, 62] : Str), e2 := ([60, 32] : Str), e3 := ([60, 61] : Str), e4 := ([62, 32] : Str), e5 := ([62, 61] : Str) } : D0).e0, ({ e0 := ([61, 32] : Str), e1 := ([60, 62] : Str), e2 := ([60, 32] : Str), e3 := ([60, 61] : Str), e4 := ([62, 32] : Str), e5 := ([62, 61] : Str) } : D0).e1, ({ e0 := ([61, 32] : Str), e1 := ([60, 62] : Str), e2 := ([60, 32] : Str), e3 := ([60, 61] : Str), e4 := ([62, 32] : Str), e5 := ([62, 61] : Str) } : D0).e2, ({ e0 := ([61, 32] : Str), e1 := ([60, 62] : Str), e2 := ([60, 32] : Str), e3 := ([60, 61] : Str), e4 := ([62, 32] : Str), e5 := ([62, 61] : Str) } : D0).e3, ({ e0 := ([61, 32] : Str), e1 := ([60, 62] : Str), e2 := ([60, 32] : Str), e3 := ([60, 61] : Str), e4 := ([62, 32] : Str), e5 := ([62, 61] : Str) } : D0).e4, ({ e0 := ([61, 32] : Str), e1 := ([60, 62] : Str), e2 := ([60, 32] : Str), e3 := ([60, 61] : Str), e4 := ([62, 32] : Str), e5 := ([62, 61] : Str) } : D0).e5] : List Str) (Go.IntKind.wrap .i64 (a0 - 1))).bind fun o2 =>
   (some o2))
def strings_Join : Nat → List Str → Str → Option Str
 | 0, _, _ => none
 | _ + 1, s, n => jz s n
def H9 (k : Nat) (o33 : (List a6))  (K0 : Int → (List Str) → Option (Str × Int)) : Nat → Int → (List Str) → Option (Str × Int)
 | 0, _, _ => none
 | m + 1, x43, x44 =>
  (bif (decide (x43 < (o33.length : Int))) then ((idx o33 x43).bind fun o46 =>
        (((strings_Repeat k ([32] : Str) (Go.IntKind.wrap .i64 (8 - (o46.fField.length : Int)))).bind fun v47 => ((cat o46.fField v47).bind fun v48 => ((ao k o46.fOp).bind fun v49 => ((cat v48 v49).bind fun v50 => ((cat v50 o46.fValue).bind fun v51 => (app x44 ([v51] : List Str))))))).bind fun o53 =>
        (H9 k o33 K0 m (Go.IntKind.wrap .i64 (x43 + 1)) o53))) else
    (K0 x43 x44))
def F2 (k : Nat) (a2 : (List (List a6)))  (K0 : (List Str) → Int → Option (Str × Int)) : Nat → (List Str) → Int → Option (Str × Int)
 | 0, _, _ => none
 | m + 1, x30, x31 =>
  (bif (decide (x31 < (a2.length : Int))) then ((idx a2 x31).bind fun o33 =>
        (H9 k o33 (fun y54 y55 =>
        (((strings_Join k y55 ([38] : Str)).bind fun v56 => (app x30 ([v56] : List Str))).bind fun o58 =>
         (F2 k a2 K0 m o58 (Go.IntKind.wrap .i64 (x31 + 1))))) k 0 ([] : List Str))) else
    (K0 x30 x31))
def E4 : Nat → (a7) → (Int) → ((List (List a6))) → Option (Str × Int)
 | 0, _, _, _ => none
 | k + 1, a0, a1, a2 =>
  (((J9 k a0 a1 ([a2] : List (List (List a6)))).bind fun v1 => (some (v1.2))).bind fun o2 =>
   (bif (o2 != 0) then (some (([] : Str), o2)) else
   (F2 k a2 (fun y59 y60 =>
    (((strings_Join k y59 ([124] : Str)).bind fun v61 => (some (v61, 0))).bind fun o62 =>
     (some (o62.1, o62.2)))) k ([] : List Str) 0)))
def B2 : Nat → (a7) → (a8) → Option (Str × Int)
 | 0, _, _ => none
 | k + 1, a0, a1 =>
  (((bM k a0 ([a1] : List a8)).bind fun v1 => (some (v1.1, v1.2))).bind fun o2 =>
   (bif (o2.2 != 0) then (some (([] : Str), o2.2)) else
   (((strings_Repeat k ([32] : Str) (Go.IntKind.wrap .i64 (8 - (a1.fSegment.length : Int)))).bind fun v3 => (cat a1.fSegment v3)).bind fun o5 =>
    (bif (!(a1.fCodes == ([] : Str))) then (((cat ([42] : Str) a1.fCodes).bind fun v6 => (cat o5 v6)).bind fun o8 =>
     (bif ((a1.fWhen.length : Int) == 0) then (((cat o8 ([32] : Str)).bind fun v9 => (some (v9, 0))).bind fun o10 =>
      (some (o10.1, o10.2))) else
     (((idx o2.1 0).bind fun v11 => ((E4 k a0 v11 a1.fWhen).bind fun v12 => (some (v12.2, v12.1)))).bind fun o13 =>
      (bif (o13.1 != 0) then (some (([] : Str), o13.1)) else
      (((cat o8 ([40] : Str)).bind fun v14 => ((cat v14 o13.2).bind fun v15 => ((cat v15 ([41] : Str)).bind fun v16 => (some (v16, 0))))).bind fun o17 =>
       (some (o17.1, o17.2))))))) else
    (bif ((a1.fWhen.length : Int) == 0) then (((cat o5 ([32] : Str)).bind fun v18 => (some (v18, 0))).bind fun o19 =>
      (some (o19.1, o19.2))) else
     (((idx o2.1 0).bind fun v20 => ((E4 k a0 v20 a1.fWhen).bind fun v21 => (some (v21.2, v21.1)))).bind fun o22 =>
      (bif (o22.1 != 0) then (some (([] : Str), o22.1)) else
      (((cat o5 ([40] : Str)).bind fun v23 => ((cat v23 o22.2).bind fun v24 => ((cat v24 ([41] : Str)).bind fun v25 => (some (v25, 0))))).bind fun o26 =>
       (some (o26.1, o26.2))))))))))
def V5 : Nat → Option Bool
 | 0 => none
 | k + 1 =>
  (((bu k).bind fun v1 => ((B2 k v1 ({ fSegment := ([79, 82, 68, 69, 82] : Str), fCodes := ([68] : Str), fWhen := ([([({ fField := ([79, 82, 68, 78, 79] : Str), fOp := 1, fValue := ([48, 48, 48, 53] : Str) } : a6)] : List a6)] : List (List a6)) } : a8)).bind fun v2 => (some (v2.1, v2.2)))).bind fun o3 =>
   (((bu k).bind fun v4 => ((B2 k v4 ({ fSegment := ([67, 85, 83, 84] : Str), fCodes := [], fWhen := ([] : List (List a6)) } : a8)).bind fun v5 => (some (v5.1, v5.2)))).bind fun o6 =>
   ((bif (o3.2 == 0) then (bif (o6.2 == 0) then (bif (o3.1 == ([79, 82, 68, 69, 82, 32, 32, 32, 42, 68, 40, 79, 82, 68, 78, 79, 32, 32, 32, 61, 32, 48, 48, 48, 53, 41] : Str)) then (some ((o6.1 == ([67, 85, 83, 84, 32, 32, 32, 32, 32] : Str)))) else (some (false))) else (some (false))) else (some (false))).bind fun o7 =>
   (some o7))))
def F0 : Nat → Str → Str → Option Str
 | 0, _, _ => none
 | _ + 1, s, n => qF s n
def G7 (k : Nat) (a1 : Str)  (K0 : Int → Option (a6 × Str × Bool)) : Nat → Int → Option (a6 × Str × Bool)
 | 0, _ => none
 | m + 1, x7 =>
  ((bif (decide (x7 ≤ 6)) then ((ao k x7).bind fun v8 => ((cut a1 8 10).bind fun v9 => (some ((!(v8 == v9)))))) else (some (false))).bind fun o10 =>
    (bif o10 then (G7 k a1 K0 m (Go.IntKind.wrap .i64 (x7 + 1))) else
    (K0 x7)))
def en : Nat → (b7) → (Str) → Option (a6 × Str × Bool)
 | 0, _, _ => none
 | k + 1, a0, a1 =>
  (bif (decide ((a1.length : Int) < 10)) then (some (({ fField := [], fOp := 0, fValue := [] } : a6), ([] : Str), false)) else
   (((cut a1 0 8).bind fun v1 => (F0 k v1 ([32] : Str))).bind fun o3 =>
    (G7 k a1 (fun y11 =>
    (((az k a0 o3).bind fun v12 => (some (v12.1, v12.2))).bind fun o13 =>
     ((bif (!o13.2) then (some (true)) else (some ((decide (y11 > 6))))).bind fun o14 =>
     (bif o14 then (some (({ fField := [], fOp := 0, fValue := [] } : a6), ([] : Str), false)) else
     ((cut a1 10 (a1.length : Int)).bind fun o16 =>
      (((idx a0.fFields o13.1).bind fun v17 => (some (v17.fBytes))).bind fun o18 =>
      (bif (decide ((o16.length : Int) < o18)) then (some (({ fField := [], fOp := 0, fValue := [] } : a6), ([] : Str), false)) else
      ((cut o16 0 o18).bind fun o20 =>
       (((cut o16 o18 (o16.length : Int)).bind fun v21 => (some (v21, true, ({ fField := o3, fOp := y11, fValue := o20 } : a6)))).bind fun o22 =>
       (some (o22.2.2, o22.1, o22.2.1))))))))))) k 1)))
def L6 (k : Nat) (a0 : a7) (a1 : Int)  (K0 : Str → (List (List a6)) → Option ((List (List a6)) × Int)) : Nat → Str → (List (List a6)) → Option ((List (List a6)) × Int)
 | 0, _, _ => none
 | m + 1, x20, x21 =>
  (((idx a0.fTypes a1).bind fun v22 => ((en k v22 x20).bind fun v23 => (some (v23.2.1, v23.2.2, v23.1)))).bind fun o24 =>
    (bif (!o24.2.1) then (some (([] : List (List a6)), 3)) else
    (((inB x21.length (Go.IntKind.wrap .i64 ((x21.length : Int) - 1))).bind fun v25 => ((x21[0 + (Go.IntKind.wrap .i64 ((x21.length : Int) - 1)).toNat]?).bind fun v26 => ((app v26 ([o24.2.2] : List a6)).bind fun v27 => ((inB x21.length (Go.IntKind.wrap .i64 ((x21.length : Int) - 1))).bind fun v28 => ((x21[0 + (Go.IntKind.wrap .i64 ((x21.length : Int) - 1)).toNat]?).bind fun v29 => (some ((x21.set (0 + (Go.IntKind.wrap .i64 ((x21.length : Int) - 1)).toNat) v27)))))))).bind fun o30 =>
     (bif (o24.1 == ([] : Str)) then (K0 o24.1 o30) else
     ((G0 o24.1 0).bind fun o32 =>
      (bif (o32 == 38) then ((cut o24.1 1 (o24.1.length : Int)).bind fun o34 =>
       (L6 k a0 a1 K0 m o34 o30)) else
      (bif (o32 == 124) then ((app o30 ([([] : List a6)] : List (List a6))).bind fun o36 =>
        ((cut o24.1 1 (o24.1.length : Int)).bind fun o38 =>
        (L6 k a0 a1 K0 m o38 o36))) else
       (some (([] : List (List a6)), 3)))))))))
def N9 : Nat → (a7) → (Int) → (Str) → Option ((List (List a6)) × Int)
 | 0, _, _, _ => none
 | k + 1, a0, a1, a2 =>
  ((V9 k a0 a1).bind fun o2 =>
   (bif (o2 != 0) then (some (([] : List (List a6)), o2)) else
   (bif (a2 == ([] : Str)) then (some (([] : List (List a6)), 0)) else
    (L6 k a0 a1 (fun y39 y40 =>
     (((idx a0.fTypes a1).bind fun v41 => ((R5 k v41 y40).bind fun v42 => (some ((!v42))))).bind fun o43 =>
      (bif o43 then (some (([] : List (List a6)), 3)) else
      (some (y40, 0))))) k a2 ([([] : List a6)] : List (List a6))))))
def O8 (k : Nat) (o5 : Str)  (K0 : Int → Option (a8 × Bool)) : Nat → Int → Option (a8 × Bool)
 | 0, _ => none
 | m + 1, x11 =>
  ((bif (decide (x11 < (o5.length : Int))) then ((G0 o5 x11).bind fun v12 => ((strings_IndexByte k ([68, 76, 80] : Str) v12).bind fun v13 => (some ((decide (v13 ≥ 0)))))) else (some (false))).bind fun o14 =>
    (bif o14 then (O8 k o5 K0 m (Go.IntKind.wrap .i64 (x11 + 1))) else
    (K0 x11)))
def fU : Nat → (a7) → (Str) → Option (a8 × Bool)
 | 0, _, _ => none
 | k + 1, a0, a1 =>
  (bif (decide ((a1.length : Int) ≤ 8)) then (some (({ fSegment := [], fCodes := [], fWhen := ([] : List (List a6)) } : a8), false)) else
   (((cut a1 0 8).bind fun v1 => ((F0 k v1 ([32] : Str)).bind fun v2 => (some (({ fSegment := v2, fCodes := [], fWhen := ([] : List (List a6)) } : a8))))).bind fun o3 =>
    ((cut a1 8 (a1.length : Int)).bind fun o5 =>
    (((G0 o5 0).bind fun v6 => (some ((v6 == 42)))).bind fun o7 =>
    (bif o7 then (O8 k o5 (fun y15 =>
     (((cut o5 1 y15).bind fun v16 => (some ({ o3 with fCodes := v16 }))).bind fun o17 =>
      ((cut o5 y15 (o5.length : Int)).bind fun o19 =>
      (((cd k a0 o17.fSegment).bind fun v20 => (some (v20.1, v20.2))).bind fun o21 =>
      (bif (o21.2 != 0) then (some (({ fSegment := [], fCodes := [], fWhen := ([] : List (List a6)) } : a8), false)) else
      ((bif (decide ((o19.length : Int) > 2)) then ((G0 o19 0).bind fun v22 => (bif (v22 == 40) then ((G0 o19 (Go.IntKind.wrap .i64 ((o19.length : Int) - 1))).bind fun v23 => (some ((v23 == 41)))) else (some (false)))) else (some (false))).bind fun o24 =>
       (bif o24 then (((cut o19 1 (Go.IntKind.wrap .i64 ((o19.length : Int) - 1))).bind fun v25 => ((N9 k a0 o21.1 v25).bind fun v26 => (some (v26.2, { o17 with fWhen := v26.1 })))).bind fun o27 =>
        (bif (o27.1 != 0) then (some (({ fSegment := [], fCodes := [], fWhen := ([] : List (List a6)) } : a8), false)) else
        (((B2 k a0 o27.2).bind fun v28 => (some (v28.2, v28.1))).bind fun o29 =>
         ((bif (o29.1 == 0) then (some ((o29.2 == a1), o27.2)) else (some (false, o27.2))).bind fun o30 =>
         (some (o30.2, o30.1)))))) else
       (((B2 k a0 o17).bind fun v31 => (some (v31.2, v31.1))).bind fun o32 =>
        ((bif (o32.1 == 0) then (some ((o32.2 == a1), o17)) else (some (false, o17))).bind fun o33 =>
        (some (o33.2, o33.1))))))))))) k 1) else
    (((cd k a0 o3.fSegment).bind fun v34 => (some (v34.1, v34.2))).bind fun o35 =>
     (bif (o35.2 != 0) then (some (({ fSegment := [], fCodes := [], fWhen := ([] : List (List a6)) } : a8), false)) else
     ((bif (decide ((o5.length : Int) > 2)) then ((G0 o5 0).bind fun v36 => (bif (v36 == 40) then ((G0 o5 (Go.IntKind.wrap .i64 ((o5.length : Int) - 1))).bind fun v37 => (some ((v37 == 41)))) else (some (false)))) else (some (false))).bind fun o38 =>
      (bif o38 then (((cut o5 1 (Go.IntKind.wrap .i64 ((o5.length : Int) - 1))).bind fun v39 => ((N9 k a0 o35.1 v39).bind fun v40 => (some (v40.2, { o3 with fWhen := v40.1 })))).bind fun o41 =>
       (bif (o41.1 != 0) then (some (({ fSegment := [], fCodes := [], fWhen := ([] : List (List a6)) } : a8), false)) else
       (((B2 k a0 o41.2).bind fun v42 => (some (v42.2, v42.1))).bind fun o43 =>
        ((bif (o43.1 == 0) then (some ((o43.2 == a1), o41.2)) else (some (false, o41.2))).bind fun o44 =>
        (some (o44.2, o44.1)))))) else
      (((B2 k a0 o3).bind fun v45 => (some (v45.2, v45.1))).bind fun o46 =>
       ((bif (o46.1 == 0) then (some ((o46.2 == a1), o3)) else (some (false, o3))).bind fun o47 =>
       (some (o47.2, o47.1)))))))))))))
def I3 (k : Nat) (a0 : a7) (a1 : (List Str))  (K0 : (List a8) → Int → Option ((List a8) × Int)) : Nat → (List a8) → Int → Option ((List a8) × Int)
 | 0, _, _ => none
 | m + 1, x9, x10 =>
  (bif (decide (x10 < (a1.length : Int))) then ((idx a1 x10).bind fun o12 =>
        (((fU k a0 o12).bind fun v13 => (some (v13.2, v13.1))).bind fun o14 =>
        (bif (!o14.1) then (some (([] : List a8), 3)) else
        ((app x9 ([o14.2] : List a8)).bind fun o16 =>
         (I3 k a0 a1 K0 m o16 (Go.IntKind.wrap .i64 (x10 + 1))))))) else
    (K0 x9 x10))
def Y6 : Nat → (a7) → ((List Str)) → Option ((List a8) × Int)
 | 0, _, _ => none
 | k + 1, a0, a1 =>
  (((bp k a0).bind fun v1 => (some ((!v1)))).bind fun o2 =>
   (bif o2 then (some (([] : List a8), 100)) else
   (I3 k a0 a1 (fun y17 y18 =>
    (some (y17, 0))) k ([] : List a8) 0)))
def N3 (a0 : Str)  (K0 : Int → Option Bool) : Nat → Int → Option Bool
 | 0, _ => none
 | m + 1, x7 =>
  (bif (decide (x7 < (a0.length : Int))) then (((G0 a0 x7).bind fun v8 => (bif (decide (v8 ≥ 65)) then ((G0 a0 x7).bind fun v9 => (some ((decide (v9 ≤ 90))))) else (some (false)))).bind fun o10 =>
        ((bif (!o10) then (bif (x7 == 0) then (some (true)) else ((G0 a0 x7).bind fun v11 => (bif (decide (v11 < 48)) then (some (true)) else ((G0 a0 x7).bind fun v12 => (some ((decide (v12 > 57)))))))) else (some (false))).bind fun o13 =>
        (bif o13 then (some false) else
        (N3 a0 K0 m (Go.IntKind.wrap .i64 (x7 + 1)))))) else
    (K0 x7))
def J1 : Nat → (Str) → Option Bool
 | 0, _ => none
 | k + 1, a0 =>
  (N3 a0 (fun y14 =>
   ((bif (decide ((a0.length : Int) ≥ 1)) then (some ((decide ((a0.length : Int) ≤ 8)))) else (some (false))).bind fun o15 =>
    (some o15))) k 0)
def F3 (a0 : b7) (x11 : Int) (o13 : d6)  (K0 : Int → Option Bool) : Nat → Int → Option Bool
 | 0, _ => none
 | m + 1, x18 =>
  (bif (decide (x18 < x11)) then (((idx a0.fFields x18).bind fun v19 => (some ((v19.fName == o13.fName)))).bind fun o20 =>
        (bif o20 then (some false) else
        (F3 a0 x11 o13 K0 m (Go.IntKind.wrap .i64 (x18 + 1))))) else
    (K0 x18))
def I0 (k : Nat) (a0 : b7)  (K0 : Int → Option Bool) : Nat → Int → Option Bool
 | 0, _ => none
 | m + 1, x11 =>
  (bif (decide (x11 < (a0.fFields.length : Int))) then ((idx a0.fFields x11).bind fun o13 =>
        (((J1 k o13.fName).bind fun v14 => (bif (!v14) then (some (true)) else (bif (decide (o13.fAt < 0)) then (some (true)) else (bif (decide (o13.fAt > a0.fSize)) then (some (true)) else (bif (decide (o13.fBytes < 1)) then (some (true)) else (some ((decide (o13.fBytes > (Go.IntKind.wrap .i64 (a0.fSize - o13.fAt))))))))))).bind fun o15 =>
        (bif o15 then (some false) else
        (F3 a0 x11 o13 (fun y21 =>
         (I0 k a0 K0 m (Go.IntKind.wrap .i64 (x11 + 1)))) k 0)))) else
    (K0 x11))
def aY : Nat → (b7) → Option Bool
 | 0, _ => none
 | k + 1, a0 =>
  (I0 k a0 (fun y22 =>
   ((bif (decide (a0.fKey < (-1))) then (some (true)) else (bif (decide (a0.fKey ≥ (a0.fFields.length : Int))) then (some (true)) else (bif (decide (a0.fKey < 0)) then (some (a0.fUnique)) else (some (false))))).bind fun o23 =>
    (bif o23 then (some false) else
    ((bif (decide ((a0.fFields.length : Int) ≤ 5)) then (bif (decide (a0.fKey < 0)) then (some (true)) else ((idx a0.fFields a0.fKey).bind fun v24 => ((idx a0.fFields a0.fKey).bind fun v25 => (some ((decide ((Go.IntKind.wrap .i64 (v24.fAt + v25.fBytes)) ≤ a0.fMin))))))) else (some (false))).bind fun o26 =>
     (some o26))))) k 0)
def Q8 (a0 : a7) (a1 : Int)  (K0 : Int → Option Bool) : Nat → Int → Option Bool
 | 0, _ => none
 | m + 1, x5 =>
  (bif (decide (x5 ≥ 0)) then (bif (x5 == a1) then (some true) else
        (((idx a0.fTypes x5).bind fun v6 => (some (v6.fParent))).bind fun o7 =>
         (Q8 a0 a1 K0 m o7))) else
    (K0 x5))
def cn : Nat → (a7) → (Int) → (Int) → Option Bool
 | 0, _, _, _ => none
 | k + 1, a0, a1, a2 =>
  (((idx a0.fTypes a2).bind fun v1 => (some (v1.fParent))).bind fun o2 =>
   (Q8 a0 a1 (fun y8 =>
   (some false)) k o2))
def R9 (a0 : a7)  (K0 : Int → (List Int) → Option (List Int)) : Nat → Int → (List Int) → Option (List Int)
 | 0, _, _ => none
 | m + 1, x5, x6 =>
  (bif (decide (x5 ≥ 0)) then ((app ([x5] : List Int) x6).bind fun o8 =>
        (((idx a0.fTypes x5).bind fun v9 => (some (v9.fParent))).bind fun o10 =>
        (R9 a0 K0 m o10 o8))) else
    (K0 x5 x6))
def dL : Nat → (a7) → (Int) → Option (List Int)
 | 0, _, _ => none
 | k + 1, a0, a1 =>
  (R9 a0 (fun y11 y12 =>
   (some y12)) k a1 ([] : List Int))
def G9 (a0 : a7) (x20 : Int) (o22 : b7)  (K0 : Int → Option Bool) : Nat → Int → Option Bool
 | 0, _ => none
 | m + 1, x28 =>
  (bif (decide (x28 < x20)) then (((idx a0.fTypes x28).bind fun v29 => (some ((v29.fName == o22.fName)))).bind fun o30 =>
        (bif o30 then (some false) else
        (G9 a0 x20 o22 K0 m (Go.IntKind.wrap .i64 (x28 + 1))))) else
    (K0 x28))
def E5 (k : Nat) (a0 : a7)  (K0 : Int → Option Bool) : Nat → Int → Option Bool
 | 0, _ => none
 | m + 1, x20 =>
  (bif (decide (x20 < (a0.fTypes.length : Int))) then ((idx a0.fTypes x20).bind fun o22 =>
        (((J1 k o22.fName).bind fun v23 => (bif (!v23) then (some (true)) else (bif (decide (o22.fMin < 1)) then (some (true)) else (bif (decide (o22.fMin > o22.fSize)) then (some (true)) else (bif (decide (o22.fSize > 40)) then (some (true)) else ((aY k o22).bind fun v24 => (some ((!v24))))))))).bind fun o25 =>
        (bif o25 then (some false) else
        (G9 a0 x20 o22 (fun y31 =>
         (bif (x20 == 0) then ((bif (o22.fParent != (-1)) then (some (true)) else (bif (decide (o22.fKey < 0)) then (some (true)) else (bif (!o22.fUnique) then (some (true)) else ((idx o22.fFields o22.fKey).bind fun v32 => (some ((decide (v32.fBytes > 24)))))))).bind fun o33 =>
           (bif o33 then (some false) else
           (E5 k a0 K0 m (Go.IntKind.wrap .i64 (x20 + 1))))) else
          ((bif (decide (o22.fParent < 0)) then (some (true)) else (bif (decide (o22.fParent ≥ x20)) then (some (true)) else (bif (o22.fParent != (Go.IntKind.wrap .i64 (x20 - 1))) then ((cn k a0 o22.fParent (Go.IntKind.wrap .i64 (x20 - 1))).bind fun v34 => (bif (!v34) then (some (true)) else ((dL k a0 x20).bind fun v35 => (some ((decide ((v35.length : Int) > 5))))))) else ((dL k a0 x20).bind fun v36 => (some ((decide ((v36.length : Int) > 5)))))))).bind fun o37 =>
           (bif o37 then (some false) else
           (E5 k a0 K0 m (Go.IntKind.wrap .i64 (x20 + 1))))))) k 0)))) else
    (K0 x20))
def H1 (a0 : a7) (x52 : Int) (o54 : j0)  (K0 : Int → Option Bool) : Nat → Int → Option Bool
 | 0, _ => none
 | m + 1, x62 =>
  (bif (decide (x62 < x52)) then (((idx a0.fIndexes x62).bind fun v63 => (some ((v63.fName == o54.fName)))).bind fun o64 =>
        (bif o64 then (some false) else
        (H1 a0 x52 o54 K0 m (Go.IntKind.wrap .i64 (x62 + 1))))) else
    (K0 x62))
def H0 (k : Nat) (a0 : a7)  (K0 : Int → Option Bool) : Nat → Int → Option Bool
 | 0, _ => none
 | m + 1, x52 =>
  (bif (decide (x52 < (a0.fIndexes.length : Int))) then ((idx a0.fIndexes x52).bind fun o54 =>
        (((J1 k o54.fName).bind fun v55 => (bif (!v55) then (some (true)) else (bif (decide (o54.fType < 0)) then (some (true)) else (bif (decide (o54.fType ≥ (a0.fTypes.length : Int))) then (some (true)) else (bif (decide (o54.fField < 0)) then (some (true)) else ((idx a0.fTypes o54.fType).bind fun v56 => (bif (decide (o54.fField ≥ (v56.fFields.length : Int))) then (some (true)) else ((idx a0.fTypes o54.fType).bind fun v57 => ((idx v57.fFields o54.fField).bind fun v58 => (bif (decide (v58.fBytes > 20)) then (some (true)) else (some ((decide ((o54.fSparse.length : Int) > 1)))))))))))))).bind fun o59 =>
        (bif o59 then (some false) else
        (H1 a0 x52 o54 (fun y65 =>
         (H0 k a0 K0 m (Go.IntKind.wrap .i64 (x52 + 1)))) k 0)))) else
    (K0 x52))
def W2 : Nat → (a7) → Option Bool
 | 0, _ => none
 | k + 1, a0 =>
  (((J1 k a0.fName).bind fun v1 => (bif (!v1) then (some (true)) else (bif (decide (a0.fKind < 1)) then (some (true)) else (bif (decide (a0.fKind > 4)) then (some (true)) else (bif (decide ((a0.fTypes.length : Int) < 1)) then (some (true)) else (bif (decide ((a0.fTypes.length : Int) > 8)) then (some (true)) else (some ((decide ((a0.fIndexes.length : Int) > 3)))))))))).bind fun o2 =>
   (bif o2 then (some false) else
   (E5 k a0 (fun y38 =>
    (H0 k a0 (fun y66 =>
     (some true)) k 0)) k 0)))
def I1   (K0 : Str → Option Str) : Nat → Str → Option Str
 | 0, _ => none
 | m + 1, x3 =>
  (bif (decide ((x3.length : Int) < 8)) then ((cat x3 ([32] : Str)).bind fun o5 =>
        (I1 K0 m o5)) else
    (K0 x3))
def Y1 : Nat → (Str) → Option Str
 | 0, _ => none
 | k + 1, a0 =>
  (I1 (fun y6 =>
   (some y6)) k a0)
def K5 (a0 : Str) (x10 : Int)  (K0 : Int → Option Bool) : Nat → Int → Option Bool
 | 0, _ => none
 | m + 1, x14 =>
  ((bif (decide (x14 < 3)) then ((G0 ([68, 76, 80] : Str) x14).bind fun v15 => ((G0 a0 x10).bind fun v16 => (some ((v15 != v16))))) else (some (false))).bind fun o17 =>
    (bif o17 then (K5 a0 x10 K0 m (Go.IntKind.wrap .i64 (x14 + 1))) else
    (K0 x14)))
def G3 (k : Nat) (a0 : Str)  (K0 : Int → Int → Option Bool) : Nat → Int → Int → Option Bool
 | 0, _, _ => none
 | m + 1, x9, x10 =>
  (bif (decide (x10 < (a0.length : Int))) then (K5 a0 x10 (fun y18 =>
        (bif (y18 == 3) then (some false) else
         (G3 k a0 K0 m (Go.IntKind.wrap .i64 (y18 + 1)) (Go.IntKind.wrap .i64 (x10 + 1))))) k x9) else
    (K0 x9 x10))
def bW : Nat → (Str) → Option Bool
 | 0, _ => none
 | k + 1, a0 =>
  (G3 k a0 (fun y19 y20 =>
   (some true)) k 0 0)
def ey : Nat → (Int) → Option Str
 | 0, _ => none
 | k + 1, a0 =>
  (bif (a0 == 1) then (some ([61, 32] : Str)) else
   (bif (a0 == 2) then (some ([60, 62] : Str)) else
    (bif (a0 == 3) then (some ([60, 32] : Str)) else
     (bif (a0 == 4) then (some ([60, 61] : Str)) else
      (bif (a0 == 5) then (some ([62, 32] : Str)) else
       (some ([62, 61] : Str)))))))
def E6 (k : Nat) (a2 : Str) (o31 : d6)  (K0 : Int → Option (a6 × Str × Bool)) : Nat → Int → Option (a6 × Str × Bool)
 | 0, _ => none
 | m + 1, x41 =>
  (bif (decide (x41 ≤ 6)) then (((Y1 k o31.fName).bind fun v42 => ((ey k x41).bind fun v43 => (cat v42 v43))).bind fun o45 =>
        ((bif (decide ((a2.length : Int) ≥ (Go.IntKind.wrap .i64 ((o45.length : Int) + o31.fBytes)))) then ((cut a2 0 (o45.length : Int)).bind fun v46 => (some ((v46 == o45)))) else (some (false))).bind fun o47 =>
        (bif o47 then (((cut a2 (o45.length : Int) (Go.IntKind.wrap .i64 ((o45.length : Int) + o31.fBytes))).bind fun v48 => ((cut a2 (Go.IntKind.wrap .i64 ((o45.length : Int) + o31.fBytes)) (a2.length : Int)).bind fun v49 => (some (v49, true, ({ fField := o31.fName, fOp := x41, fValue := v48 } : a6))))).bind fun o50 =>
         (some (o50.2.2, o50.1, o50.2.1))) else
        (E6 k a2 o31 K0 m (Go.IntKind.wrap .i64 (x41 + 1)))))) else
    (K0 x41))
def M2 (k : Nat) (a0 : a7) (a1 : Int) (a2 : Str)  (K0 : Int → Option (a6 × Str × Bool)) : Nat → Int → Option (a6 × Str × Bool)
 | 0, _ => none
 | m + 1, x26 =>
  (((idx a0.fTypes a1).bind fun v27 => (some ((decide (x26 < (v27.fFields.length : Int)))))).bind fun o28 =>
    (bif o28 then (((idx a0.fTypes a1).bind fun v29 => (idx v29.fFields x26)).bind fun o31 =>
     (E6 k a2 o31 (fun y51 =>
     (M2 k a0 a1 a2 K0 m (Go.IntKind.wrap .i64 (x26 + 1)))) k 1)) else
    (K0 x26)))
def cp : Nat → (a7) → (Int) → (Str) → Option (a6 × Str × Bool)
 | 0, _, _, _ => none
 | k + 1, a0, a1, a2 =>
  (M2 k a0 a1 a2 (fun y52 =>
   (some (({ fField := [], fOp := 0, fValue := [] } : a6), ([] : Str), false))) k 0)
def aZ : Nat → (a7) → (Int) → Option Bool
 | 0, _, _ => none
 | k + 1, a0, a1 =>
  ((bif (decide (a1 ≥ 0)) then (some ((decide (a1 < (a0.fTypes.length : Int))))) else (some (false))).bind fun o1 =>
   (some o1))
def M0 (k : Nat) (a0 : a7) (a1 : (List Int))  (K0 : Int → Option Int) : Nat → Int → Option Int
 | 0, _ => none
 | m + 1, x6 =>
  (bif (decide (x6 < (a1.length : Int))) then (((idx a1 x6).bind fun v7 => ((aZ k a0 v7).bind fun v8 => (some ((!v8))))).bind fun o9 =>
        (bif o9 then (some 2) else
        (M0 k a0 a1 K0 m (Go.IntKind.wrap .i64 (x6 + 1))))) else
    (K0 x6))
def co : Nat → (a7) → ((List Int)) → Option Int
 | 0, _, _ => none
 | k + 1, a0, a1 =>
  (((W2 k a0).bind fun v1 => (some ((!v1)))).bind fun o2 =>
   (bif o2 then (some 100) else
   (M0 k a0 a1 (fun y10 =>
    (some 0)) k 0)))
def L9 (a0 : a7) (a1 : Int) (a2 : Str)  (K0 : Int → Option (Int × Int)) : Nat → Int → Option (Int × Int)
 | 0, _ => none
 | m + 1, x8 =>
  (((idx a0.fTypes a1).bind fun v9 => (some ((decide (x8 < (v9.fFields.length : Int)))))).bind fun o10 =>
    (bif o10 then (((idx a0.fTypes a1).bind fun v11 => ((idx v11.fFields x8).bind fun v12 => (some ((v12.fName == a2))))).bind fun o13 =>
     (bif o13 then (some (x8, 0)) else
     (L9 a0 a1 a2 K0 m (Go.IntKind.wrap .i64 (x8 + 1))))) else
    (K0 x8)))
def cm : Nat → (a7) → (Int) → (Str) → Option (Int × Int)
 | 0, _, _, _ => none
 | k + 1, a0, a1, a2 =>
  ((co k a0 ([a1] : List Int)).bind fun o2 =>
   (bif (o2 != 0) then (some (0, o2)) else
   (L9 a0 a1 a2 (fun y14 =>
    (some (0, 5))) k 0)))
def Y2 : Nat → (a7) → (Int) → (a6) → Option Bool
 | 0, _, _, _ => none
 | k + 1, a0, a1, a2 =>
  (((cm k a0 a1 a2.fField).bind fun v1 => (some (v1.1, v1.2))).bind fun o2 =>
   ((bif (o2.2 == 0) then (bif (decide (a2.fOp ≥ 1)) then (bif (decide (a2.fOp ≤ 6)) then ((idx a0.fTypes a1).bind fun v3 => ((idx v3.fFields o2.1).bind fun v4 => (some (((a2.fValue.length : Int) == v4.fBytes))))) else (some (false))) else (some (false))) else (some (false))).bind fun o5 =>
   (some o5)))
def y5 (k : Nat) (a0 : a7) (a1 : Int) (a2 : (List (List a6))) (x18 : Int)  (K0 : Int → Option Bool) : Nat → Int → Option Bool
 | 0, _ => none
 | m + 1, x28 =>
  (((idx a2 x18).bind fun v29 => (some ((decide (x28 < (v29.length : Int)))))).bind fun o30 =>
    (bif o30 then (((idx a2 x18).bind fun v31 => ((idx v31 x28).bind fun v32 => ((Y2 k a0 a1 v32).bind fun v33 => (some ((!v33)))))).bind fun o34 =>
     (bif o34 then (some false) else
     (y5 k a0 a1 a2 x18 K0 m (Go.IntKind.wrap .i64 (x28 + 1))))) else
    (K0 x28)))
def A8 (k : Nat) (a0 : a7) (a1 : Int) (a2 : (List (List a6)))  (K0 : Int → Option Bool) : Nat → Int → Option Bool
 | 0, _ => none
 | m + 1, x18 =>
  (bif (decide (x18 < (a2.length : Int))) then (((idx a2 x18).bind fun v19 => (bif (decide ((v19.length : Int) < 1)) then (some (true)) else ((idx a2 x18).bind fun v20 => (some ((decide ((v20.length : Int) > 4))))))).bind fun o21 =>
        (bif o21 then (some false) else
        (y5 k a0 a1 a2 x18 (fun y35 =>
         (A8 k a0 a1 a2 K0 m (Go.IntKind.wrap .i64 (x18 + 1)))) k 0))) else
    (K0 x18))
def H3 : Nat → (a7) → (Int) → ((List (List a6))) → Option Bool
 | 0, _, _, _ => none
 | k + 1, a0, a1, a2 =>
  (A8 k a0 a1 a2 (fun y36 =>
   (some (decide ((a2.length : Int) ≤ 4)))) k 0)
def M1 (k : Nat) (a0 : a7) (a1 : Int)   : Nat → Str → (List a6) → (List (List a6)) → Option ((List (List a6)) × Str × Bool)
 | 0, _, _, _ => none
 | m + 1, x17, x18, x19 =>
  (((cp k a0 a1 x17).bind fun v20 => (some (v20.2.1, v20.2.2, v20.1))).bind fun o21 =>
    (bif (!o21.2.1) then (some (([] : List (List a6)), ([] : Str), false)) else
    ((app x18 ([o21.2.2] : List a6)).bind fun o23 =>
     ((bif (!(o21.1 == ([] : Str))) then ((G0 o21.1 0).bind fun v24 => (some ((v24 == 38)))) else (some (false))).bind fun o25 =>
     (bif o25 then ((cut o21.1 1 (o21.1.length : Int)).bind fun o27 =>
      (M1 k a0 a1 m o27 o23 x19)) else
     ((app x19 ([o23] : List (List a6))).bind fun o29 =>
      ((bif (o21.1 == ([] : Str)) then (some (true)) else ((G0 o21.1 0).bind fun v30 => (some ((v30 != 124))))).bind fun o31 =>
      (bif o31 then (((H3 k a0 a1 o29).bind fun v32 => (some (o29, o21.1, v32))).bind fun o33 =>
       (some (o33.1, o33.2.1, o33.2.2))) else
      ((cut o21.1 1 (o21.1.length : Int)).bind fun o35 =>
       (M1 k a0 a1 m o35 ([] : List a6) o29))))))))))
def O4 : Nat → (a7) → (Int) → (Str) → Option ((List (List a6)) × Str × Bool)
 | 0, _, _, _ => none
 | k + 1, a0, a1, a2 =>
  (M1 k a0 a1 k a2 ([] : List a6) ([] : List (List a6)))
def t7 (k : Nat) (a0 : a7) (a1 : Str)  (K0 : Int → Int → Option (a8 × Str × Bool)) : Nat → Int → Int → Option (a8 × Str × Bool)
 | 0, _, _ => none
 | m + 1, x6, x7 =>
  (bif (decide (x7 < (a0.fTypes.length : Int))) then (((idx a0.fTypes x7).bind fun v8 => (Y1 k v8.fName)).bind fun o10 =>
        ((bif (decide ((a1.length : Int) > 8)) then ((cut a1 0 8).bind fun v11 => (some ((v11 == o10)))) else (some (false))).bind fun o12 =>
        (bif o12 then (t7 k a0 a1 K0 m x7 (Go.IntKind.wrap .i64 (x7 + 1))) else
        (t7 k a0 a1 K0 m x6 (Go.IntKind.wrap .i64 (x7 + 1)))))) else
    (K0 x6 x7))
def H2 (o18 : Str)  (K0 : Int → Option (a8 × Str × Bool)) : Nat → Int → Option (a8 × Str × Bool)
 | 0, _ => none
 | m + 1, x24 =>
  ((bif (decide (x24 < (o18.length : Int))) then ((G0 o18 x24).bind fun v25 => (bif (decide (v25 ≥ 65)) then ((G0 o18 x24).bind fun v26 => (some ((decide (v26 ≤ 90))))) else (some (false)))) else (some (false))).bind fun o27 =>
    (bif o27 then (H2 o18 K0 m (Go.IntKind.wrap .i64 (x24 + 1))) else
    (K0 x24)))
def cq : Nat → (a7) → (Str) → Option (a8 × Str × Bool)
 | 0, _, _ => none
 | k + 1, a0, a1 =>
  (t7 k a0 a1 (fun y13 y14 =>
   (bif (decide (y13 < 0)) then (some (({ fSegment := [], fCodes := [], fWhen := ([] : List (List a6)) } : a8), ([] : Str), false)) else
    (((idx a0.fTypes y13).bind fun v15 => (some (({ fSegment := v15.fName, fCodes := [], fWhen := ([] : List (List a6)) } : a8)))).bind fun o16 =>
     ((cut a1 8 (a1.length : Int)).bind fun o18 =>
     (((G0 o18 0).bind fun v19 => (some ((v19 == 42)))).bind fun o20 =>
     (bif o20 then (H2 o18 (fun y28 =>
      (((cut o18 1 y28).bind fun v29 => (some ({ o16 with fCodes := v29 }))).bind fun o30 =>
       ((cut o18 y28 (o18.length : Int)).bind fun o32 =>
       ((bif (o30.fCodes == ([] : Str)) then (some (true)) else ((bW k o30.fCodes).bind fun v33 => (bif (!v33) then (some (true)) else (some ((o32 == ([] : Str))))))).bind fun o34 =>
       (bif o34 then (some (({ fSegment := [], fCodes := [], fWhen := ([] : List (List a6)) } : a8), ([] : Str), false)) else
       (((G0 o32 0).bind fun v35 => (some ((v35 == 32)))).bind fun o36 =>
        (bif o36 then (((cut o32 1 (o32.length : Int)).bind fun v37 => (some (v37, true, o30))).bind fun o38 =>
         (some (o38.2.2, o38.1, o38.2.1))) else
        (((cut o32 1 (o32.length : Int)).bind fun v39 => ((O4 k a0 y13 v39).bind fun v40 => (some (v40.1, v40.2.1, v40.2.2)))).bind fun o41 =>
         (((G0 o32 0).bind fun v42 => (bif (v42 != 40) then (some (true)) else (bif (!o41.2.2) then (some (true)) else (bif (o41.2.1 == ([] : Str)) then (some (true)) else ((G0 o41.2.1 0).bind fun v43 => (some ((v43 != 41)))))))).bind fun o44 =>
         (bif o44 then (some (({ fSegment := [], fCodes := [], fWhen := ([] : List (List a6)) } : a8), ([] : Str), false)) else
         (((cut o41.2.1 1 (o41.2.1.length : Int)).bind fun v45 => (some (v45, true, { o30 with fWhen := o41.1 }))).bind fun o46 =>
          (some (o46.2.2, o46.1, o46.2.1))))))))))))) k 1) else
     (((G0 o18 0).bind fun v47 => (some ((v47 == 32)))).bind fun o48 =>
      (bif o48 then (((cut o18 1 (o18.length : Int)).bind fun v49 => (some (v49, true, o16))).bind fun o50 =>
       (some (o50.2.2, o50.1, o50.2.1))) else
      (((cut o18 1 (o18.length : Int)).bind fun v51 => ((O4 k a0 y13 v51).bind fun v52 => (some (v52.1, v52.2.1, v52.2.2)))).bind fun o53 =>
       (((G0 o18 0).bind fun v54 => (bif (v54 != 40) then (some (true)) else (bif (!o53.2.2) then (some (true)) else (bif (o53.2.1 == ([] : Str)) then (some (true)) else ((G0 o53.2.1 0).bind fun v55 => (some ((v55 != 41)))))))).bind fun o56 =>
       (bif o56 then (some (({ fSegment := [], fCodes := [], fWhen := ([] : List (List a6)) } : a8), ([] : Str), false)) else
       (((cut o53.2.1 1 (o53.2.1.length : Int)).bind fun v57 => (some (v57, true, { o16 with fWhen := o53.1 }))).bind fun o58 =>
        (some (o58.2.2, o58.1, o58.2.1)))))))))))))) k (-1) 0)
def aB : Nat → (a7) → (Str) → Option (a8 × Int)
 | 0, _, _ => none
 | k + 1, a0, a1 =>
  (((W2 k a0).bind fun v1 => (some ((!v1)))).bind fun o2 =>
   (bif o2 then (some (({ fSegment := [], fCodes := [], fWhen := ([] : List (List a6)) } : a8), 100)) else
   (((cq k a0 a1).bind fun v3 => (some (v3.2.1, v3.2.2, v3.1))).bind fun o4 =>
    ((bif (!o4.2.1) then (some (true)) else (some ((!(o4.1 == ([] : Str)))))).bind fun o5 =>
    (bif o5 then (some (({ fSegment := [], fCodes := [], fWhen := ([] : List (List a6)) } : a8), 3)) else
    (some (o4.2.2, 0)))))))
def E7 (k : Nat) (a0 : a7) (a1 : (List Str))  (K0 : (List a8) → Int → Option ((List a8) × Int)) : Nat → (List a8) → Int → Option ((List a8) × Int)
 | 0, _, _ => none
 | m + 1, x8, x9 =>
  (bif (decide (x9 < (a1.length : Int))) then (((idx a1 x9).bind fun v10 => ((aB k a0 v10).bind fun v11 => (some (v11.2, v11.1)))).bind fun o12 =>
        (bif (o12.1 != 0) then (some (([] : List a8), o12.1)) else
        ((app x8 ([o12.2] : List a8)).bind fun o14 =>
         (E7 k a0 a1 K0 m o14 (Go.IntKind.wrap .i64 (x9 + 1)))))) else
    (K0 x8 x9))
def R2 : Nat → (a7) → ((List Str)) → Option ((List a8) × Int)
 | 0, _, _ => none
 | k + 1, a0, a1 =>
  (((W2 k a0).bind fun v1 => (some ((!v1)))).bind fun o2 =>
   (bif o2 then (some (([] : List a8), 100)) else
   (E7 k a0 a1 (fun y15 y16 =>
    (some (y15, 0))) k ([] : List a8) 0)))
def J7 (a0 : (List (List a6))) (a1 : (List (List a6))) (x20 : Int)  (K0 : Int → Option Bool) : Nat → Int → Option Bool
 | 0, _ => none
 | m + 1, x31 =>
  (((idx a0 x20).bind fun v32 => (some ((decide (x31 < (v32.length : Int)))))).bind fun o33 =>
    (bif o33 then (((idx a0 x20).bind fun v34 => ((idx v34 x31).bind fun v35 => ((idx a1 x20).bind fun v36 => ((idx v36 x31).bind fun v37 => (some ((!(v35.fField == v37.fField && (v35.fOp == v37.fOp && (v35.fValue == v37.fValue && true)))))))))).bind fun o38 =>
     (bif o38 then (some false) else
     (J7 a0 a1 x20 K0 m (Go.IntKind.wrap .i64 (x31 + 1))))) else
    (K0 x31)))
def P7 (k : Nat) (a0 : (List (List a6))) (a1 : (List (List a6)))  (K0 : Int → Option Bool) : Nat → Int → Option Bool
 | 0, _ => none
 | m + 1, x20 =>
  (bif (decide (x20 < (a0.length : Int))) then (((idx a0 x20).bind fun v21 => ((idx a1 x20).bind fun v22 => (some (((v21.length : Int) != (v22.length : Int)))))).bind fun o23 =>
        (bif o23 then (some false) else
        (J7 a0 a1 x20 (fun y39 =>
         (P7 k a0 a1 K0 m (Go.IntKind.wrap .i64 (x20 + 1)))) k 0))) else
    (K0 x20))
def ex : Nat → ((List (List a6))) → ((List (List a6))) → Option Bool
 | 0, _, _ => none
 | k + 1, a0, a1 =>
  (bif ((a0.length : Int) != (a1.length : Int)) then (some false) else
   (P7 k a0 a1 (fun y40 =>
    (some true)) k 0))
def W5 : Nat → (a8) → (a8) → Option Bool
 | 0, _, _ => none
 | k + 1, a0, a1 =>
  ((bif (a0.fSegment == a1.fSegment) then (bif (a0.fCodes == a1.fCodes) then (ex k a0.fWhen a1.fWhen) else (some (false))) else (some (false))).bind fun o2 =>
   (some o2))
def G2 (k : Nat) (a0 : (List a8)) (a1 : (List a8))  (K0 : Int → Option Bool) : Nat → Int → Option Bool
 | 0, _ => none
 | m + 1, x5 =>
  (bif (decide (x5 < (a0.length : Int))) then (((idx a0 x5).bind fun v6 => ((idx a1 x5).bind fun v7 => ((W5 k v6 v7).bind fun v8 => (some ((!v8)))))).bind fun o9 =>
        (bif o9 then (some false) else
        (G2 k a0 a1 K0 m (Go.IntKind.wrap .i64 (x5 + 1))))) else
    (K0 x5))
def J8 : Nat → ((List a8)) → ((List a8)) → Option Bool
 | 0, _, _ => none
 | k + 1, a0, a1 =>
  (bif ((a0.length : Int) != (a1.length : Int)) then (some false) else
   (G2 k a0 a1 (fun y10 =>
    (some true)) k 0))
def r7 (k : Nat) (a0 : (List a8)) (a1 : (List a8)) (a2 : Nat → a8 → a8 → Option Bool) (K0 : Int → Option Bool) : Nat → Int → Option Bool
 | 0, _ => none
 | m + 1, x7 =>
  (bif (decide (x7 < (a0.length : Int))) then (((idx a0 x7).bind fun v8 => (some (x7, v8))).bind fun o9 =>
        ((idx a1 o9.1).bind fun o11 =>
        (((a2 k o9.2 o11).bind fun v12 => (some ((!v12)))).bind fun o13 =>
        (bif o13 then (some false) else
        (r7 k a0 a1 a2 K0 m (Go.IntKind.wrap .i64 (x7 + 1))))))) else
    (K0 x7))
def G8 : Nat → ((List a8)) → ((List a8)) → (Nat → a8 → a8 → Option Bool) → Option Bool
 | 0, _, _, _ => none
 | k + 1, a0, a1, a2 =>
  (bif ((a0.length : Int) != (a1.length : Int)) then (some false) else
   (r7 k a0 a1 a2 (fun y14 =>
    (some true)) k 0))
def o0 (k : Nat) (a0 : (List (List a6))) (a1 : (List (List a6))) (a2 : Nat → (List a6) → (List a6) → Option Bool) (K0 : Int → Option Bool) : Nat → Int → Option Bool
 | 0, _ => none
 | m + 1, x7 =>
  (bif (decide (x7 < (a0.length : Int))) then (((idx a0 x7).bind fun v8 => (some (x7, v8))).bind fun o9 =>
        ((idx a1 o9.1).bind fun o11 =>
        (((a2 k o9.2 o11).bind fun v12 => (some ((!v12)))).bind fun o13 =>
        (bif o13 then (some false) else
        (o0 k a0 a1 a2 K0 m (Go.IntKind.wrap .i64 (x7 + 1))))))) else
    (K0 x7))
def E8 : Nat → ((List (List a6))) → ((List (List a6))) → (Nat → (List a6) → (List a6) → Option Bool) → Option Bool
 | 0, _, _, _ => none
 | k + 1, a0, a1, a2 =>
  (bif ((a0.length : Int) != (a1.length : Int)) then (some false) else
   (o0 k a0 a1 a2 (fun y14 =>
    (some true)) k 0))
def A9 (a0 : (List a6)) (a1 : (List a6))  (K0 : Int → Option Bool) : Nat → Int → Option Bool
 | 0, _ => none
 | m + 1, x4 =>
  (bif (decide (x4 < (a0.length : Int))) then (((idx a0 x4).bind fun v5 => ((idx a1 x4).bind fun v6 => (some ((!(v5.fField == v6.fField && (v5.fOp == v6.fOp && (v5.fValue == v6.fValue && true)))))))).bind fun o7 =>
        (bif o7 then (some false) else
        (A9 a0 a1 K0 m (Go.IntKind.wrap .i64 (x4 + 1))))) else
    (K0 x4))
def E9 : Nat → ((List a6)) → ((List a6)) → Option Bool
 | 0, _, _ => none
 | k + 1, a0, a1 =>
  (bif ((a0.length : Int) != (a1.length : Int)) then (some false) else
   (A9 a0 a1 (fun y8 =>
    (some true)) k 0))
def em : Nat → ((List (List a6))) → ((List (List a6))) → Option Bool
 | 0, _, _ => none
 | k + 1, a0, a1 =>
  ((E8 k a0 a1 (fun j x0 x1 => (E9 j x0 x1))).bind fun o2 =>
   (some o2))
def bi : Nat → (a8) → (a8) → Option Bool
 | 0, _, _ => none
 | k + 1, a0, a1 =>
  ((bif (a0.fSegment == a1.fSegment) then (bif (a0.fCodes == a1.fCodes) then (em k a0.fWhen a1.fWhen) else (some (false))) else (some (false))).bind fun o2 =>
   (some o2))
def R6 : Nat → ((List a8)) → ((List a8)) → Option Bool
 | 0, _, _ => none
 | k + 1, a0, a1 =>
  ((G8 k a0 a1 (fun j x0 x1 => (bi j x0 x1))).bind fun o2 =>
   (some o2))
def jf : Nat → (a8) → (Int) → Option Bool
 | 0, _, _ => none
 | k + 1, a0, a1 =>
  (((strings_IndexByte k a0.fCodes a1).bind fun v1 => (some ((decide (v1 ≥ 0))))).bind fun o2 =>
   (some o2))
def S0 (a0 : a8) (a1 : Int)  (K0 : Int → Option Bool) : Nat → Int → Option Bool
 | 0, _ => none
 | m + 1, x3 =>
  (bif (decide (x3 < (a0.fCodes.length : Int))) then (((G0 a0.fCodes x3).bind fun v4 => (some ((v4 == a1)))).bind fun o5 =>
        (bif o5 then (some true) else
        (S0 a0 a1 K0 m (Go.IntKind.wrap .i64 (x3 + 1))))) else
    (K0 x3))
def dM : Nat → (a8) → (Int) → Option Bool
 | 0, _, _ => none
 | k + 1, a0, a1 =>
  (S0 a0 a1 (fun y6 =>
   (some false)) k 0)
def C0 (k : Nat) (a1 : (List Str))  (K0 : Int → Option Bool) : Nat → Int → Option Bool
 | 0, _ => none
 | m + 1, x10 =>
  (bif (decide (x10 < (a1.length : Int))) then (((idx a1 x10).bind fun v11 => (some ((decide ((v11.length : Int) > 300))))).bind fun o12 =>
        (bif o12 then ((V5 k).bind fun o14 =>
         (some o14)) else
        (C0 k a1 K0 m (Go.IntKind.wrap .i64 (x10 + 1))))) else
    (K0 x10))
def E0 (k : Nat) (a2 : (List a8)) (x48 : Int)  (K0 : Int → Option Bool) : Nat → Int → Option Bool
 | 0, _ => none
 | m + 1, x56 =>
  (bif (decide (x56 < 4)) then (((idx a2 x48).bind fun v57 => ((G0 ([68, 76, 80, 88] : Str) x56).bind fun v58 => ((jf k v57 v58).bind fun v59 => ((idx a2 x48).bind fun v60 => ((G0 ([68, 76, 80, 88] : Str) x56).bind fun v61 => ((dM k v60 v61).bind fun v62 => (some ((!(v59 == v62)))))))))).bind fun o63 =>
        (bif o63 then (some false) else
        (E0 k a2 x48 K0 m (Go.IntKind.wrap .i64 (x56 + 1))))) else
    (K0 x56))
def A2 (k : Nat) (a2 : (List a8))  (K0 : Int → Option Bool) : Nat → Int → Option Bool
 | 0, _ => none
 | m + 1, x48 =>
  (bif (decide (x48 < (a2.length : Int))) then (E0 k a2 x48 (fun y64 =>
        (((idx a2 0).bind fun v65 => ((idx a2 x48).bind fun v66 => ((bi k v65 v66).bind fun v67 => ((idx a2 0).bind fun v68 => ((idx a2 x48).bind fun v69 => ((W5 k v68 v69).bind fun v70 => (some ((!(v67 == v70)))))))))).bind fun o71 =>
         (bif o71 then (some false) else
         (A2 k a2 K0 m (Go.IntKind.wrap .i64 (x48 + 1)))))) k 0) else
    (K0 x48))
def V6 : Nat → (a7) → ((List Str)) → ((List a8)) → Option Bool
 | 0, _, _, _ => none
 | k + 1, a0, a1, a2 =>
  (((ck k a0).bind fun v1 => (bif v1 then (some (true)) else ((ef k a2).bind fun v2 => (bif v2 then (some (true)) else (some ((decide ((a1.length : Int) > 10)))))))).bind fun o3 =>
   (bif o3 then ((V5 k).bind fun o5 =>
    (some o5)) else
   (C0 k a1 (fun y15 =>
    (((Y6 k a0 a1).bind fun v16 => (some (v16.1, v16.2))).bind fun o17 =>
     (((R2 k a0 a1).bind fun v18 => (some (v18.1, v18.2))).bind fun o19 =>
     (((J8 k o17.1 o19.1).bind fun v20 => (bif (!v20) then (some (true)) else (bif (o17.2 != o19.2) then (some (true)) else ((R6 k o17.1 a2).bind fun v21 => ((J8 k o19.1 a2).bind fun v22 => (bif (!(v21 == v22)) then (some (true)) else ((R6 k a2 a2).bind fun v23 => (some ((!v23)))))))))).bind fun o24 =>
     (bif o24 then (some false) else
     (A2 k a2 (fun y72 =>
      ((V5 k).bind fun o74 =>
       (some o74))) k 0)))))) k 0)))
end Go.Sh
namespace Go.Sh
open Go.AE
set_option linter.unusedVariables false
theorem m0 : maxLen = 9223372036854775807 := rfl
theorem U7 {x : Int} (h : -9223372036854775808 ≤ x) (h' : x ≤ 9223372036854775807) : Go.IntKind.wrap .i64 x = x := IntWalk.i64_in x ⟨h, h'⟩
theorem l4 {i n : Nat} (h : i < n) (hn : n ≤ maxLen) : Go.IntKind.wrap .i64 ((i : Int) + 1) = ((i + 1 : Nat) : Int) := by
 rw [U7] <;> (try rw [m0] at hn) <;> omega
theorem n7 {α : Type} {l : List α} {i : Nat} (h : i < l.length) : idx l (i : Int) = some l[i] := by
 unfold idx
 rw [if_pos (by omega), Int.toNat_natCast, List.getElem?_eq_getElem h]
theorem aR {α : Type} {l : List α} {x : Int} (h0 : 0 ≤ x) (h : x < (l.length : Int)) : idx l x = some (l[x.toNat]'(by omega)) := by
 unfold idx
 rw [if_pos h0, List.getElem?_eq_getElem (by omega)]
theorem gp {l : List UInt8} {i : Nat} (h : i < l.length) : G0 l (i : Int) = some (l[i].toNat : Int) := by
 unfold G0
 rw [if_pos (by omega), Int.toNat_natCast, List.getElem?_eq_getElem h]
 rfl
theorem ij {α : Type} {l : List α} {i : Nat} (h : i ≤ l.length) : cut l 0 (i : Int) = some (l.take i) := by
 unfold cut
 rw [if_pos ⟨by omega, by omega, by omega⟩]
 simp
theorem aG {α : Type} {l m : List α} (h : l.length + m.length ≤ p4) : app l m = some (l ++ m) := by
 unfold app; rw [if_pos h]
def eA {β : Type} (g : Nat → Bool) (r : Nat → β) (z : β) : Nat → Nat → β
 | 0, _ => z
 | d + 1, i => bif g i then r i else eA g r z d (i + 1)
theorem ms {S β : Type} {n : Nat} {L : Nat → Int → S → β} {σ : Nat → S} {g : Nat → Bool} {r : Nat → β} {z : β}
  (hs : ∀ m i, i < n → (∀ j, j < i → g j = false) → L (m + 1) (i : Int) (σ i) = bif g i then r i else L m ((i + 1 : Nat) : Int) (σ (i + 1)))
  (he : ∀ m, (∀ j, j < n → g j = false) → L (m + 1) (n : Int) (σ n) = z) : ∀ d i m, i + d = n → (∀ j, j < i → g j = false) → d < m → L m (i : Int) (σ i) = eA g r z d i
 | 0, i, m, hd, hb, hm => by
  obtain ⟨m, rfl⟩ : ∃ q, m = q + 1 := ⟨m - 1, by omega⟩
  have : i = n := by omega
  subst this
  exact he m hb
 | d + 1, i, m, hd, hb, hm => by
  obtain ⟨m, rfl⟩ : ∃ q, m = q + 1 := ⟨m - 1, by omega⟩
  rw [hs m i (by omega) hb, eA]
  cases hg : g i with
  | true => rfl
  | false =>
   simp only [cond_false]
   refine ms hs he d (i + 1) m (by omega) (fun j hj => ?_) (by omega)
   by_cases e : j = i
   ·subst e; exact hg
   ·exact hb j (by omega)
theorem S9 {β : Type} {n : Nat} {L : Nat → Int → β} {g : Nat → Bool} {r : Nat → β} {z : β}
  (hs : ∀ m i, i < n → (∀ j, j < i → g j = false) → L (m + 1) (i : Int) = bif g i then r i else L m ((i + 1 : Nat) : Int))
  (he : ∀ m, (∀ j, j < n → g j = false) → L (m + 1) (n : Int) = z) {m : Nat} (hm : n < m) : L m 0 = eA g r z n 0 :=
 ms (S := Unit) (L := fun m x _ => L m x) (σ := fun _ => ()) hs he n 0 m (by omega) (fun j hj => by omega) hm
theorem Hd {S β : Type} {n : Nat} {L : Nat → Int → S → β} {σ : Nat → S} {g : Nat → Bool} {r : Nat → β} {z : β}
  (hs : ∀ m i, i < n → (∀ j, j < i → g j = false) → L (m + 1) (i : Int) (σ i) = bif g i then r i else L m ((i + 1 : Nat) : Int) (σ (i + 1)))
  (he : ∀ m, (∀ j, j < n → g j = false) → L (m + 1) (n : Int) (σ n) = z) {m : Nat} (hm : n < m) {s0 : S} (h0 : σ 0 = s0) : L m 0 s0 = eA g r z n 0 := by
 subst h0
 exact ms hs he n 0 m (by omega) (fun j hj => by omega) hm
theorem kj {β : Type} {g g' : Nat → Bool} {r r' : Nat → β} {z z' : β} : ∀ d i, (∀ j, i ≤ j → j < i + d → (∀ q, i ≤ q → q < j → g q = false) → g j = g' j ∧ (g j = true → r j = r' j)) → ((∀ q, i ≤ q → q < i + d → g q = false) → z = z') → eA g r z d i = eA g' r' z' d i
 | 0, i, h, hz => hz (fun q h1 h2 => by omega)
 | d + 1, i, h, hz => by
  obtain ⟨h1, h2⟩ := h i (Nat.le_refl i) (by omega) (fun q a b => by omega)
  simp only [eA]
  rw [← h1]
  cases hg : g i with
  | true => simp only [cond_true]; exact h2 hg
  | false =>
   simp only [cond_false]
   refine kj d (i + 1) (fun j a b hq => h j (by omega) (by omega) (fun q c e => ?_)) (fun hq => hz (fun q a b => ?_))
   ·by_cases e2 : q = i
    ·subst e2; exact hg
    ·exact hq q (by omega) e
   ·by_cases e2 : q = i
    ·subst e2; exact hg
    ·exact hq q (by omega) (by omega)
def P0 (g : Nat → Bool) (n : Nat) : Bool := eA g (fun _ => true) false n 0
theorem lK {β γ : Type} (f : β → γ) {g : Nat → Bool} {r : Nat → β} {z : β} : ∀ d i, f (eA g r z d i) = eA g (fun i => f (r i)) (f z) d i
 | 0, _ => rfl
 | d + 1, i => by
  simp only [eA]
  cases g i with
  | true => rfl
  | false => exact lK f d (i + 1)
theorem u7 {β : Type} {g : Nat → Bool} {r z : β} (n : Nat) : eA g (fun _ => r) z n 0 = bif P0 g n then r else z := by
 unfold P0
 have : ∀ d i, eA g (fun _ => r) z d i = bif eA g (fun _ => true) false d i then r else z := by
  intro d
  induction d with
  | zero => intro i; rfl
  | succ d ih =>
   intro i
   simp only [eA]
   cases g i with
   | true => rfl
   | false => exact ih (i + 1)
 exact this n 0
theorem aq {β : Type} {g : Nat → Bool} {r : Nat → β} {z : β} : ∀ d i, (∀ q, i ≤ q → q < i + d → g q = false) → eA g r z d i = z
 | 0, _, _ => rfl
 | d + 1, i, h => by
  simp only [eA, h i (Nat.le_refl i) (by omega), cond_false]
  exact aq d (i + 1) (fun q a b => h q (by omega) (by omega))
theorem gE {β : Type} (g : Nat → Bool) (r : Nat → β) (z : β) : ∀ d i, ((∀ q, i ≤ q → q < i + d → g q = false) ∧ eA g r z d i = z) ∨ ∃ j, i ≤ j ∧ j < i + d ∧ g j = true ∧ (∀ q, i ≤ q → q < j → g q = false) ∧ eA g r z d i = r j
 | 0, i => .inl ⟨fun q a b => by omega, rfl⟩
 | d + 1, i => by
  simp only [eA]
  cases hg : g i with
  | true => exact .inr ⟨i, Nat.le_refl i, by omega, hg, fun q a b => by omega, rfl⟩
  | false =>
   simp only [cond_false]
   rcases gE g r z d (i + 1) with ⟨h1, h2⟩ | ⟨j, h1, h2, h3, h4, h5⟩
   ·exact .inl ⟨fun q a b => by
     by_cases e : q = i
     ·subst e; exact hg
     ·exact h1 q (by omega) (by omega), h2⟩
   ·exact .inr ⟨j, by omega, by omega, h3, fun q a b => by
     by_cases e : q = i
     ·subst e; exact hg
     ·exact h4 q (by omega) b, h5⟩
theorem nO {g : Nat → Bool} {n : Nat} : P0 g n = true ↔ ∃ i, i < n ∧ g i = true := by
 unfold P0
 rcases gE g (fun _ => true) false n 0 with ⟨h1, h2⟩ | ⟨j, h1, h2, h3, h4, h5⟩
 ·rw [h2]
  exact ⟨fun h => absurd h (by simp), fun ⟨i, hi, hg⟩ => absurd hg (by rw [h1 i (by omega) (by omega)]; simp)⟩
 ·rw [h5]
  exact ⟨fun _ => ⟨j, by omega, h3⟩, fun _ => rfl⟩
theorem P1 {g : Nat → Bool} {n : Nat} : P0 g n = false ↔ ∀ i, i < n → g i = false := by
 constructor
 ·intro h i hi
  cases hg : g i with
  | false => rfl
  | true => rw [nO.2 ⟨i, hi, hg⟩] at h; cases h
 ·intro h
  cases ha : P0 g n with
  | false => rfl
  | true =>
   obtain ⟨i, hi, hg⟩ := nO.1 ha
   rw [h i hi] at hg; cases hg
theorem tr {g g' : Nat → Bool} {n : Nat} (h : ∀ i, i < n → (∀ j, j < i → g j = false) → g i = g' i) : P0 g n = P0 g' n :=
 kj n 0 (fun j _ hj hq => ⟨h j (by omega) (fun q hq' => hq q (by omega) hq'), fun _ => rfl⟩) (fun _ => rfl)
def at' {α : Type} (l : List α) (p : α → Bool) (i : Nat) : Bool := match l[i]? with | some x => p x | none => false
theorem t6 {α : Type} {l : List α} {p : α → Bool} {i : Nat} (h : i < l.length) : at' l p i = p l[i] := by
 unfold at'
 rw [List.getElem?_eq_getElem h]
theorem hJ {α : Type} {l : List α} {p : α → Bool} : P0 (at' l p) l.length = l.any p := by
 cases h : l.any p with
 | true =>
  obtain ⟨x, hx, hp⟩ := List.any_eq_true.1 h
  obtain ⟨i, hi, rfl⟩ := List.getElem_of_mem hx
  exact nO.2 ⟨i, hi, by rw [t6 hi]; exact hp⟩
 | false =>
  rw [List.any_eq_false] at h
  refine P1.2 (fun i hi => ?_)
  rw [t6 hi]
  have := h _ (List.getElem_mem hi)
  simpa using this
def pos {α : Type} (l : List α) (p : α → Bool) : Int := eA (at' l p) (fun i => (i : Int)) (-1) l.length 0
theorem K4 {α : Type} (l : List α) (p : α → Bool) : ((∀ i (h : i < l.length), p l[i] = false) ∧ pos l p = -1) ∨ ∃ j, ∃ h : j < l.length, p l[j] = true ∧ (∀ i (h : i < l.length), i < j → p l[i] = false) ∧ pos l p = (j : Int) := by
 unfold pos
 rcases gE (at' l p) (fun i => (i : Int)) (-1) l.length 0 with ⟨h1, h2⟩ | ⟨j, h1, h2, h3, h4, h5⟩
 ·exact .inl ⟨fun i hi => by rw [← t6 (p := p) hi]; exact h1 i (by omega) (by omega), h2⟩
 ·refine .inr ⟨j, by omega, ?_, fun i hi hij => ?_, h5⟩
  ·rw [← t6 (p := p) (show j < l.length by omega)]; exact h3
  ·rw [← t6 (p := p) hi]; exact h4 i (by omega) hij
theorem fa {α : Type} (l : List α) (p : α → Bool) : decide (pos l p ≥ 0) = l.any p := by
 rcases K4 l p with ⟨h1, h2⟩ | ⟨j, h1, h2, h3, h4⟩
 ·rw [h2]
  have : l.any p = false := by
   rw [List.any_eq_false]
   intro x hx
   obtain ⟨i, hi, rfl⟩ := List.getElem_of_mem hx
   rw [h1 i hi]; simp
  rw [this]; rfl
 ·rw [h4]
  have : l.any p = true := List.any_eq_true.2 ⟨l[j], List.getElem_mem h1, h2⟩
  rw [this]
  simp
end Go.Sh

namespace Go.Sh
open Go.AE
set_option linter.unusedVariables false
set_option linter.unusedSimpArgs false
theorem i8 {k c : Nat} (h : c + 1 ≤ k) : ∃ q, k = q + 1 ∧ c ≤ q := ⟨k - 1, by omega, by omega⟩
def wm (s : Str) (i : Nat) : Bool := at' s (fun c => (!(decide ((c.toNat : Int) ≥ 65) && decide ((c.toNat : Int) ≤ 90))) && (((i : Int) == 0) || (decide ((c.toNat : Int) < 48) || decide ((c.toNat : Int) > 57)))) i
def C3 (s : Str) : Bool := !P0 (wm s) s.length && (decide ((s.length : Int) ≥ 1) && decide ((s.length : Int) ≤ 8))
theorem dU {k : Nat} {s : Str} (hk : maxLen + 2 ≤ k) (hs : wfS s) : R7 k s = some (C3 s) := by
 obtain ⟨k, rfl, hq⟩ := i8 hk
 unfold R7
 unfold wfS at hs
 refine Eq.trans (S9 (L := fun m x => G6 s _ m x) (n := s.length) (g := wm s) (r := fun _ => some false) (z := some (decide ((s.length : Int) ≥ 1) && decide ((s.length : Int) ≤ 8))) ?_ ?_ (by omega)) ?_
 rotate_left 2
 ·rw [u7]
  unfold C3
  cases P0 (wm s) s.length <;> rfl
 ·intro m i hi _
  simp only [G6, wm, t6 hi, gp hi, l4 hi hs, Option.bind_some, show decide ((i : Int) < (s.length : Int)) = true by simp; exact hi, cond_true]
  cases decide ((s[i].toNat : Int) ≥ 65) <;> cases decide ((s[i].toNat : Int) ≤ 90) <;> cases ((i : Int) == 0) <;> cases decide ((s[i].toNat : Int) < 48) <;> cases decide ((s[i].toNat : Int) > 57) <;> rfl
 ·intro m _
  simp only [G6, show decide ((s.length : Int) < (s.length : Int)) = false by simp, cond_false]
  cases decide ((s.length : Int) ≥ 1) <;> cases decide ((s.length : Int) ≤ 8) <;> rfl
theorem kb (a : Str) (K : Int → Option Bool) : ∀ m x, N3 a K m x = G6 a K m x := by
 intro m
 induction m with
 | zero => intro x; rfl
 | succ m ih => intro x; simp only [N3, G6, ih]
theorem dy {k : Nat} {s : Str} (hk : maxLen + 2 ≤ k) (hs : wfS s) : J1 k s = some (C3 s) := by
 rw [← dU hk hs]
 cases k with
 | zero => rfl
 | succ k => simp only [J1, R7, kb]
theorem J5 {α : Type} {l : List α} {p : α → Bool} {f : α → Option Bool} (hp : ∀ x ∈ l, f x = some (p x)) {L : Nat → Int → Option Int} {K0 : Int → Option Int}
  (hL : ∀ m x, L (m + 1) x = (bif decide (x < (l.length : Int)) then (((idx l x).bind f).bind fun o => (bif o then (some x) else L m (Go.IntKind.wrap .i64 (x + 1)))) else K0 x))
  (hK : K0 (l.length : Int) = some (-1)) (hn : l.length ≤ maxLen) {m : Nat} (hm : l.length < m) : L m 0 = some (pos l p) := by
 refine Eq.trans (S9 (L := L) (n := l.length) (g := at' l p) (r := fun i => some (i : Int)) (z := some (-1)) ?_ ?_ hm) ?_
 rotate_left 2
 ·unfold pos
  rw [lK some]
 ·intro m i hi _
  rw [hL, t6 hi]
  simp only [show decide ((i : Int) < (l.length : Int)) = true by simp; exact hi, cond_true, n7 hi, Option.bind_some, hp _ (List.getElem_mem hi), l4 hi hn]
 ·intro m _
  rw [hL]
  simp only [show decide ((l.length : Int) < (l.length : Int)) = false by simp, cond_false, hK]
theorem gN {k : Nat} {l : List d6} {p : d6 → Bool} {f : Nat → d6 → Option Bool} (hk : l.length + 2 ≤ k) (hn : l.length ≤ maxLen) (hp : ∀ k', k' + 1 = k → ∀ x ∈ l, f k' x = some (p x)) : B4 k l f = some (pos l p) := by
 obtain ⟨k, rfl, hq⟩ := i8 hk
 exact J5 (hp k rfl) (L := fun m x => B6 k l f _ m x) (fun m x => rfl) rfl hn (by omega)
theorem iw {k : Nat} {l : List b7} {p : b7 → Bool} {f : Nat → b7 → Option Bool} (hk : l.length + 2 ≤ k) (hn : l.length ≤ maxLen) (hp : ∀ k', k' + 1 = k → ∀ x ∈ l, f k' x = some (p x)) : C2 k l f = some (pos l p) := by
 obtain ⟨k, rfl, hq⟩ := i8 hk
 exact J5 (hp k rfl) (L := fun m x => C5 k l f _ m x) (fun m x => rfl) rfl hn (by omega)
theorem mh {k : Nat} {l : List j0} {p : j0 → Bool} {f : Nat → j0 → Option Bool} (hk : l.length + 2 ≤ k) (hn : l.length ≤ maxLen) (hp : ∀ k', k' + 1 = k → ∀ x ∈ l, f k' x = some (p x)) : H4 k l f = some (pos l p) := by
 obtain ⟨k, rfl, hq⟩ := i8 hk
 exact J5 (hp k rfl) (L := fun m x => B0 k l f _ m x) (fun m x => rfl) rfl hn (by omega)
theorem pG {k : Nat} {l : List Int} {p : Int → Bool} {f : Nat → Int → Option Bool} (hk : l.length + 2 ≤ k) (hn : l.length ≤ maxLen) (hp : ∀ k', k' + 1 = k → ∀ x ∈ l, f k' x = some (p x)) : O7 k l f = some (pos l p) := by
 obtain ⟨k, rfl, hq⟩ := i8 hk
 exact J5 (hp k rfl) (L := fun m x => D3 k l f _ m x) (fun m x => rfl) rfl hn (by omega)
theorem qd {k : Nat} {l : List Int} {y : Int} (hk : l.length + 2 ≤ k) (hn : l.length ≤ maxLen) : R3 k l y = some (pos l (fun x => y == x)) := by
 obtain ⟨k, rfl, hq⟩ := i8 hk
 exact J5 (f := fun x => some (y == x)) (fun x _ => rfl) (L := fun m x => I8 l y _ m x) (fun m x => rfl) rfl hn (by omega)
theorem jH {k : Nat} {l : List d6} {p : d6 → Bool} {f : Nat → d6 → Option Bool} (hk : l.length + 3 ≤ k) (hn : l.length ≤ maxLen) (hp : ∀ k', k' + 2 = k → ∀ x ∈ l, f k' x = some (p x)) : y9 k l f = some (l.any p) := by
 obtain ⟨k, rfl, hq⟩ := i8 hk
 simp only [y9, gN hq hn (fun k' e => hp k' (by omega)), Option.bind_some, fa]
theorem kF {k : Nat} {l : List b7} {p : b7 → Bool} {f : Nat → b7 → Option Bool} (hk : l.length + 3 ≤ k) (hn : l.length ≤ maxLen) (hp : ∀ k', k' + 2 = k → ∀ x ∈ l, f k' x = some (p x)) : A1 k l f = some (l.any p) := by
 obtain ⟨k, rfl, hq⟩ := i8 hk
 simp only [A1, iw hq hn (fun k' e => hp k' (by omega)), Option.bind_some, fa]
theorem ji {k : Nat} {l : List j0} {p : j0 → Bool} {f : Nat → j0 → Option Bool} (hk : l.length + 3 ≤ k) (hn : l.length ≤ maxLen) (hp : ∀ k', k' + 2 = k → ∀ x ∈ l, f k' x = some (p x)) : w7 k l f = some (l.any p) := by
 obtain ⟨k, rfl, hq⟩ := i8 hk
 simp only [w7, mh hq hn (fun k' e => hp k' (by omega)), Option.bind_some, fa]
theorem lT {k : Nat} {l : List Int} {p : Int → Bool} {f : Nat → Int → Option Bool} (hk : l.length + 3 ≤ k) (hn : l.length ≤ maxLen) (hp : ∀ k', k' + 2 = k → ∀ x ∈ l, f k' x = some (p x)) : A4 k l f = some (l.any p) := by
 obtain ⟨k, rfl, hq⟩ := i8 hk
 simp only [A4, pG hq hn (fun k' e => hp k' (by omega)), Option.bind_some, fa]
theorem lQ {α : Type} {l : List α} {p : α → Bool} {i : Nat} (h : i ≤ l.length) : P0 (at' l p) i = (l.take i).any p := by
 rw [← hJ]
 rw [List.length_take, Nat.min_eq_left h]
 refine tr (fun j hj _ => ?_)
 rw [t6 (by omega), t6 (by rw [List.length_take]; omega)]
 congr 1
 simp
def S5 (size : Int) (fs : List d6) (i : Nat) : Bool :=
 at' fs (fun f => ((!C3 f.fName) || (decide (f.fAt < 0) || (decide (f.fAt ≥ size) || (decide (f.fBytes < 1) || decide (f.fBytes > Go.IntKind.wrap .i64 (size - f.fAt)))))) || (fs.take i).any (fun g => g.fName == f.fName)) i
theorem jK {k : Nat} {fs : List d6} {size : Int} (hk : maxLen + 5 ≤ k) (hw : wfL bm fs) : Z1 k fs size = some (!P0 (S5 size fs) fs.length && decide ((fs.length : Int) ≤ 5)) := by
 obtain ⟨k, rfl, hq⟩ := i8 hk
 unfold Z1
 obtain ⟨hl, hw⟩ := hw
 refine Eq.trans (S9 (L := fun m x => F9 k fs size _ m x) (n := fs.length) (g := S5 size fs) (r := fun _ => some false) (z := some (decide ((fs.length : Int) ≤ 5))) ?_ ?_ (by omega)) ?_
 rotate_left 2
 ·rw [u7]
  cases P0 (S5 size fs) fs.length <;> rfl
 ·intro m i hi _
  have h1 := hw _ (List.getElem_mem hi)
  have hc : y9 k (fs.take i) (fun j x0 => S7 j x0 fs[i]) = some ((fs.take i).any (fun g => g.fName == fs[i].fName)) := by
   refine jH (by rw [List.length_take]; omega) (by rw [List.length_take]; omega) (fun k' e x hx => ?_)
   obtain ⟨k', rfl, _⟩ := i8 (show 0 + 1 ≤ k' by omega)
   rfl
  simp only [F9, S5, t6 hi, n7 hi, l4 hi hl, Option.bind_some, show decide ((i : Int) < (fs.length : Int)) = true by simp; exact hi, cond_true, dU (show maxLen + 2 ≤ k by omega) h1.1, ij (show i ≤ fs.length by omega), hc]
  cases C3 fs[i].fName <;> cases decide (fs[i].fAt < 0) <;> cases decide (fs[i].fAt ≥ size) <;> cases decide (fs[i].fBytes < 1) <;> cases decide (fs[i].fBytes > Go.IntKind.wrap .i64 (size - fs[i].fAt)) <;> cases (fs.take i).any (fun g => g.fName == fs[i].fName) <;> rfl
 ·intro m _
  simp only [F9, show decide ((fs.length : Int) < (fs.length : Int)) = false by simp, cond_false]
def gt (t : b7) : Bool := match idx t.fFields t.fKey with | some f => decide ((Go.IntKind.wrap .i64 (f.fAt + f.fBytes)) ≤ t.fMin) | none => false
def dX (t : b7) : Bool := !P0 (S5 t.fSize t.fFields) t.fFields.length && decide ((t.fFields.length : Int) ≤ 5)
def kS (t : b7) : Bool := bif (t.fKey == (-1)) then !t.fUnique else !(decide (t.fKey < 0) || decide (t.fKey ≥ (t.fFields.length : Int))) && gt t
def y4 (t : b7) : Bool := !((!C3 t.fName) || (decide (t.fMin < 1) || (decide (t.fMin > t.fSize) || (decide (t.fSize > 40) || !dX t)))) && kS t
theorem nt {k : Nat} {t : b7} (hk : maxLen + 6 ≤ k) (hw : D5 t) : dV k t = some (y4 t) := by
 obtain ⟨k, rfl, hq⟩ := i8 hk
 obtain ⟨h1, _, _, _, h5, _⟩ := hw
 simp only [dV, dU (show maxLen + 2 ≤ k by omega) h1, jK (show maxLen + 5 ≤ k by omega) h5, Option.bind_some]
 unfold y4 dX kS gt
 generalize (!P0 (S5 t.fSize t.fFields) t.fFields.length && decide ((t.fFields.length : Int) ≤ 5)) = fo
 cases hx : idx t.fFields t.fKey with
 | none =>
  -- then the key is out of range
  have : decide (t.fKey < 0) = true ∨ decide (t.fKey ≥ (t.fFields.length : Int)) = true := by
   simp only [decide_eq_true_eq]
   by_cases h0 : t.fKey < 0
   ·exact .inl h0
   ·by_cases h2 : t.fKey ≥ (t.fFields.length : Int)
    ·exact .inr h2
    ·rw [aR (by omega) (by omega)] at hx; cases hx
  cases C3 t.fName <;> cases decide (t.fMin < 1) <;> cases decide (t.fMin > t.fSize) <;> cases decide (t.fSize > 40) <;> cases fo <;> try rfl
  rcases this with h | h
  ·rw [h]; cases (t.fKey == (-1)) <;> rfl
  ·rw [h]; cases (t.fKey == (-1)) <;> cases decide (t.fKey < 0) <;> rfl
 | some f =>
  simp only [Option.bind_some]
  cases C3 t.fName <;> cases decide (t.fMin < 1) <;> cases decide (t.fMin > t.fSize) <;> cases decide (t.fSize > 40) <;> cases fo <;> cases (t.fKey == (-1)) <;> cases decide (t.fKey < 0) <;> cases decide (t.fKey ≥ (t.fFields.length : Int)) <;> rfl
def gj (t : b7) : Bool := !P0 (S5 t.fSize t.fFields) t.fFields.length && (!(decide (t.fKey < (-1)) || (decide (t.fKey ≥ (t.fFields.length : Int)) || (decide (t.fKey < 0) && t.fUnique))) && (decide ((t.fFields.length : Int) ≤ 5) && (decide (t.fKey < 0) || gt t)))
theorem lz {k : Nat} {t : b7} (hk : maxLen + 5 ≤ k) (hw : D5 t) : aY k t = some (gj t) := by
 obtain ⟨k, rfl, hq⟩ := i8 hk
 unfold aY
 obtain ⟨_, _, _, _, ⟨hl, hw⟩, _⟩ := hw
 refine Eq.trans (S9 (L := fun m x => I0 k t _ m x) (n := t.fFields.length) (g := S5 t.fSize t.fFields) (r := fun _ => some false) (z := some (!(decide (t.fKey < (-1)) || (decide (t.fKey ≥ (t.fFields.length : Int)) || (decide (t.fKey < 0) && t.fUnique))) && (decide ((t.fFields.length : Int) ≤ 5) && (decide (t.fKey < 0) || gt t)))) ?_ ?_ (by omega)) ?_
 rotate_left 2
 ·rw [u7]
  unfold gj
  cases P0 (S5 t.fSize t.fFields) t.fFields.length <;> rfl
 ·intro m i hi _
  have h1 := hw _ (List.getElem_mem hi)
  simp only [I0, S5, t6 hi, n7 hi, l4 hi hl, Option.bind_some, show decide ((i : Int) < (t.fFields.length : Int)) = true by simp; exact hi, cond_true, dy (show maxLen + 2 ≤ k by omega) h1.1]
  have hin : ∀ (K : Option Bool), F3 t (i : Int) t.fFields[i] (fun _ => K) k 0 = bif (t.fFields.take i).any (fun g => g.fName == t.fFields[i].fName) then some false else K := by
   intro K
   rw [← lQ (show i ≤ t.fFields.length by omega)]
   refine Eq.trans (S9 (L := fun m x => F3 t (i : Int) t.fFields[i] _ m x) (n := i) (g := at' t.fFields (fun g => g.fName == t.fFields[i].fName)) (r := fun _ => some false) (z := K) ?_ ?_ (by omega)) (u7 i)
   ·intro m j hj _
    have hj' : j < t.fFields.length := by omega
    simp only [F3, t6 hj', n7 hj', l4 hj' hl, Option.bind_some, show decide ((j : Int) < (i : Int)) = true by simp; exact hj, cond_true]
   ·intro m _
    simp only [F3, show decide ((i : Int) < (i : Int)) = false by simp, cond_false]
  rw [hin]
  -- 'at' may be at the end in the reference: then no byte is left
  by_cases he : t.fFields[i].fAt = t.fSize
  ·have e1 : decide (t.fFields[i].fAt > t.fSize) = false := by simp; omega
   have e2 : decide (t.fFields[i].fAt ≥ t.fSize) = true := by simp; omega
   have e3 : Go.IntKind.wrap .i64 (t.fSize - t.fFields[i].fAt) = 0 := by rw [he, Int.sub_self]; rfl
   rw [e1, e2, e3]
   have e4 : (decide (t.fFields[i].fBytes < 1) || decide (t.fFields[i].fBytes > 0)) = true := by
    simp only [Bool.or_eq_true, decide_eq_true_eq]; omega
   cases C3 t.fFields[i].fName <;> cases decide (t.fFields[i].fAt < 0) <;> cases h : decide (t.fFields[i].fBytes < 1) <;> cases h' : decide (t.fFields[i].fBytes > 0) <;> first | rfl | (rw [h, h'] at e4; cases e4)
  ·have e1 : decide (t.fFields[i].fAt > t.fSize) = decide (t.fFields[i].fAt ≥ t.fSize) := by
    apply decide_eq_decide.2; omega
   rw [e1]
   cases C3 t.fFields[i].fName <;> cases decide (t.fFields[i].fAt < 0) <;> cases decide (t.fFields[i].fAt ≥ t.fSize) <;> cases decide (t.fFields[i].fBytes < 1) <;> cases decide (t.fFields[i].fBytes > Go.IntKind.wrap .i64 (t.fSize - t.fFields[i].fAt)) <;> rfl
 ·intro m _
  simp only [I0, show decide ((t.fFields.length : Int) < (t.fFields.length : Int)) = false by simp, cond_false]
  unfold gt
  cases hx : idx t.fFields t.fKey with
  | none =>
   have : decide (t.fKey < 0) = true ∨ decide (t.fKey ≥ (t.fFields.length : Int)) = true := by
    simp only [decide_eq_true_eq]
    by_cases h0 : t.fKey < 0
    ·exact .inl h0
    ·by_cases h2 : t.fKey ≥ (t.fFields.length : Int)
     ·exact .inr h2
     ·rw [aR (by omega) (by omega)] at hx; cases hx
   cases h1 : decide (t.fKey < (-1)) <;> cases h2 : decide (t.fKey ≥ (t.fFields.length : Int)) <;> cases h3 : decide (t.fKey < 0) <;> cases t.fUnique <;> cases decide ((t.fFields.length : Int) ≤ 5) <;> first | rfl | (rw [h2, h3] at this; simp at this)
  | some f =>
   simp only [Option.bind_some]
   cases decide (t.fKey < (-1)) <;> cases decide (t.fKey ≥ (t.fFields.length : Int)) <;> cases decide (t.fKey < 0) <;> cases t.fUnique <;> cases decide ((t.fFields.length : Int) ≤ 5) <;> rfl
theorem tS (t : b7) : gj t = (dX t && kS t) := by
 unfold gj dX kS
 have hb : ∀ x : Bool, (decide ((t.fFields.length : Int) ≤ 5) && x) = (x && decide ((t.fFields.length : Int) ≤ 5)) := fun x => Bool.and_comm _ _
 have key : (!(decide (t.fKey < (-1)) || (decide (t.fKey ≥ (t.fFields.length : Int)) || (decide (t.fKey < 0) && t.fUnique))) && (decide (t.fKey < 0) || gt t)) =
   (bif (t.fKey == (-1)) then !t.fUnique else !(decide (t.fKey < 0) || decide (t.fKey ≥ (t.fFields.length : Int))) && gt t) := by
  by_cases h1 : t.fKey = -1
  ·have e1 : decide (t.fKey < (-1)) = false := by simp; omega
   have e2 : decide (t.fKey ≥ (t.fFields.length : Int)) = false := by simp; omega
   have e3 : decide (t.fKey < 0) = true := by simp; omega
   have e4 : (t.fKey == (-1)) = true := by simp; exact h1
   rw [e1, e2, e3, e4]
   cases t.fUnique <;> rfl
  ·have e4 : (t.fKey == (-1)) = false := by simp; exact h1
   rw [e4]
   by_cases h2 : t.fKey < 0
   ·have e1 : decide (t.fKey < (-1)) = true := by simp; omega
    have e3 : decide (t.fKey < 0) = true := by simp; omega
    rw [e1, e3]; rfl
   ·have e1 : decide (t.fKey < (-1)) = false := by simp; omega
    have e3 : decide (t.fKey < 0) = false := by simp; omega
    rw [e1, e3]
    cases decide (t.fKey ≥ (t.fFields.length : Int)) <;> rfl
 rw [Bool.and_assoc, ← key]
 congr 1
 cases decide ((t.fFields.length : Int) ≤ 5) <;> simp
end Go.Sh

namespace Go.Sh
open Go.AE
set_option linter.unusedVariables false
set_option linter.unusedSimpArgs false
def B9 (ts : List b7) : Nat → Int → List Int
 | 0, _ => []
 | d + 1, x => if 0 ≤ x then (match ts[x.toNat]? with | some t => B9 ts d t.fParent ++ [x] | none => []) else []
def way (ts : List b7) (x : Nat) : List Int := B9 ts (x + 1) (x : Int)
def Up (ts : List b7) (n : Nat) : Prop := ∀ j (h : j < ts.length), j < n → (ts[j]).fParent < (j : Int)
theorem Up.mono {ts : List b7} {n m : Nat} (h : Up ts n) (hm : m ≤ n) : Up ts m := fun j hj hjm => h j hj (by omega)
theorem Q4 {ts : List b7} {d : Nat} {x : Int} (h : x < 0) : B9 ts d x = [] := by
 cases d with
 | zero => rfl
 | succ d => rw [B9, if_neg (by omega)]
theorem dq {ts : List b7} {n : Nat} (hu : Up ts n) : ∀ (d d' : Nat) (x : Int), x < (d : Int) → x < (d' : Int) → x < (n : Int) → B9 ts d x = B9 ts d' x
 | 0, d', x, h, h', hn => by rw [Q4 (d := 0) (by omega), Q4 (by omega)]
 | d + 1, 0, x, h, h', hn => by rw [Q4 (by omega), Q4 (by omega)]
 | d + 1, d' + 1, x, h, h', hn => by
  by_cases h0 : 0 ≤ x
  ·simp only [B9, if_pos h0]
   cases ht : ts[x.toNat]? with
   | none => rfl
   | some t =>
    have hlt : x.toNat < ts.length := by
     rcases Nat.lt_or_ge x.toNat ts.length with h1 | h1
     ·exact h1
     ·rw [List.getElem?_eq_none h1] at ht; cases ht
    have he : ts[x.toNat] = t := by rw [List.getElem?_eq_getElem hlt] at ht; exact Option.some.inj ht
    have := hu x.toNat hlt (by omega)
    rw [he] at this
    simp only
    rw [dq hu d d' t.fParent (by omega) (by omega) (by omega)]
  ·rw [Q4 (by omega), Q4 (by omega)]
theorem vu {ts : List b7} {n d : Nat} (hu : Up ts n) {x : Int} (h0 : 0 ≤ x) (hd : x < (d : Int)) (hn : x < (n : Int)) : B9 ts d x = way ts x.toNat := by
 unfold way
 rw [show ((x.toNat : Nat) : Int) = x by omega]
 exact dq hu _ _ x hd (by omega) hn
theorem pt {ts : List b7} {n x : Nat} (hu : Up ts n) (hn : x < n) (hx : x < ts.length) : way ts x = B9 ts n (ts[x]).fParent ++ [(x : Int)] := by
 unfold way
 rw [B9, if_pos (by omega), Int.toNat_natCast, List.getElem?_eq_getElem hx]
 simp only
 have := hu x hx hn
 rw [dq hu x n _ this (by omega) (by omega)]
theorem ia {ts : List b7} {n : Nat} (hu : Up ts n) : ∀ (d : Nat) (x : Int), x < (n : Int) → ∀ y ∈ B9 ts d x, 0 ≤ y ∧ y ≤ x
 | 0, _, _, y, hy => by cases hy
 | d + 1, x, hn, y, hy => by
  by_cases h0 : 0 ≤ x
  ·simp only [B9, if_pos h0] at hy
   cases ht : ts[x.toNat]? with
   | none => rw [ht] at hy; cases hy
   | some t =>
    rw [ht] at hy
    have hlt : x.toNat < ts.length := by
     rcases Nat.lt_or_ge x.toNat ts.length with h1 | h1
     ·exact h1
     ·rw [List.getElem?_eq_none h1] at ht; cases ht
    have he : ts[x.toNat] = t := by rw [List.getElem?_eq_getElem hlt] at ht; exact Option.some.inj ht
    have hp := hu x.toNat hlt (by omega)
    rw [he] at hp
    simp only [List.mem_append, List.mem_singleton] at hy
    rcases hy with hy | hy
    ·have := ia hu d t.fParent (by omega) y hy
     omega
    ·omega
  ·rw [Q4 (by omega)] at hy; cases hy
theorem fD {ts : List b7} : ∀ (d : Nat) (x : Int), (B9 ts d x).length ≤ d
 | 0, _ => Nat.le_refl 0
 | d + 1, x => by
  rw [B9]
  split
  ·split
   ·have := fD (ts := ts) d (by assumption : b7).fParent
    simp
    omega
   ·exact Nat.zero_le _
  ·exact Nat.zero_le _
theorem zq {α : Type} {l : List α} {p : α → Bool} {j : Nat} (h : j < l.length) (hp : p l[j] = true) (hb : ∀ i (h : i < l.length), i < j → p l[i] = false) : pos l p = (j : Int) := by
 rcases K4 l p with ⟨h1, _⟩ | ⟨q, h1, h2, h3, h4⟩
 ·rw [h1 j h] at hp; cases hp
 ·rw [h4]
  rcases Nat.lt_trichotomy q j with h5 | h5 | h5
  ·rw [hb q h1 h5] at h2; cases h2
  ·rw [h5]
  ·rw [h3 j h h5] at hp; cases hp
theorem zr {α : Type} {l : List α} {p : α → Bool} (h : l.any p = false) : pos l p = -1 := by
 rcases K4 l p with ⟨_, h2⟩ | ⟨j, h1, h2, _, _⟩
 ·exact h2
 ·rw [List.any_eq_false] at h
  have := h _ (List.getElem_mem h1)
  rw [h2] at this; simp at this
theorem vg {ts : List b7} {n : Nat} (hu : Up ts n) : ∀ (d : Nat) (x : Int), x < (d : Int) → x < (n : Int) → ∀ y : Int, y ∈ B9 ts d x → (B9 ts d x).take ((pos (B9 ts d x) (fun z => y == z)) + 1).toNat = way ts y.toNat
 | 0, _, _, _, y, hy => by cases hy
 | d + 1, x, hd, hn, y, hy => by
  by_cases h0 : 0 ≤ x
  ·have hy1 := hy
   simp only [B9, if_pos h0] at hy1 ⊢
   cases ht : ts[x.toNat]? with
   | none => rw [ht] at hy1; cases hy1
   | some t =>
    rw [ht] at hy1
    simp only at hy1 ⊢
    have hlt : x.toNat < ts.length := by
     rcases Nat.lt_or_ge x.toNat ts.length with h1 | h1
     ·exact h1
     ·rw [List.getElem?_eq_none h1] at ht; cases ht
    have he : ts[x.toNat] = t := by rw [List.getElem?_eq_getElem hlt] at ht; exact Option.some.inj ht
    have hp := hu x.toNat hlt (by omega)
    rw [he] at hp
    have hlow := ia hu d t.fParent (by omega)
    by_cases hyx : y = x
    ·subst hyx
     have hps : pos (B9 ts d t.fParent ++ [y]) (fun z => y == z) = ((B9 ts d t.fParent).length : Int) := by
      refine zq (by simp) (by simp) (fun i hi hij => ?_)
      rw [List.getElem_append_left hij]
      have := hlow _ (List.getElem_mem hij)
      simp only [beq_eq_false_iff_ne, ne_eq]
      omega
     rw [hps]
     have e1 : (((B9 ts d t.fParent).length : Int) + 1).toNat = (B9 ts d t.fParent).length + 1 := by omega
     rw [e1, List.take_of_length_le (by simp)]
     rw [pt hu (show y.toNat < n by omega) hlt, he]
     rw [dq hu d n t.fParent (by omega) (by omega) (by omega)]
     rw [show ((y.toNat : Nat) : Int) = y by omega]
    ·have hy2 : y ∈ B9 ts d t.fParent := by
      simp only [List.mem_append, List.mem_singleton] at hy1
      rcases hy1 with h | h
      ·exact h
      ·exact absurd h hyx
     rcases K4 (B9 ts d t.fParent) (fun z => y == z) with ⟨g1, _⟩ | ⟨j, g1, g2, g3, g4⟩
     ·obtain ⟨i, hi, he2⟩ := List.getElem_of_mem hy2
      have := g1 i hi
      rw [he2] at this; simp at this
     ·have hps : pos (B9 ts d t.fParent ++ [x]) (fun z => y == z) = (j : Int) := by
       refine zq (by simp; omega) (by rw [List.getElem_append_left g1]; exact g2) (fun i hi hij => ?_)
       rw [List.getElem_append_left (by omega)]
       exact g3 i (by omega) hij
      have ih := vg hu d t.fParent (by omega) (by omega) y hy2
      rw [g4] at ih
      rw [hps, List.take_append_of_le_length (by omega)]
      exact ih
  ·rw [Q4 (by omega)] at hy; cases hy
def eP (ts : List b7) (i : Nat) : Bool := at' ts (fun t => (ts.take i).any (fun g => g.fName == t.fName)) i
def bg (t : b7) : Bool := (t.fParent != (-1)) || (decide (t.fKey < 0) || (!t.fUnique || (match idx t.fFields t.fKey with | some f => decide (f.fBytes > 24) | none => true)))
def J0 (ts : List b7) : Nat → List Int
 | 0 => []
 | i + 1 => way ts i
def ae (ts : List b7) (i : Nat) : Bool := at' ts (fun t => (!y4 t || eP ts i) || ((bif Nat.beq i 0 then bg t else !(J0 ts i).any (fun z => t.fParent == z)) || decide (((way ts i).length : Int) > 5))) i
def fh (ts : List b7) : Bool := !(decide ((ts.length : Int) < 1) || decide ((ts.length : Int) > 8)) && !P0 (ae ts) ts.length
theorem vf {ts : List b7} : ∀ (n : Nat), (∀ j, j < n → ae ts j = false) → Up ts n
 | 0, _ => fun j _ h => by omega
 | n + 1, h => by
  have ih := vf n (fun j hj => h j (by omega))
  intro j hj hjn
  by_cases e : j < n
  ·exact ih j hj e
  ·have hjn' : j = n := by omega
   subst hjn'
   have hb := h j (by omega)
   rw [ae, t6 hj] at hb
   cases j with
   | zero =>
    simp only [Bool.or_eq_false_iff, show Nat.beq 0 0 = true from rfl, cond_true, bg] at hb
    have := hb.2.1.1
    simp at this
    omega
   | succ q =>
    simp only [Bool.or_eq_false_iff, show Nat.beq (q + 1) 0 = false from rfl, cond_false] at hb
    have h2 := hb.2.1
    simp only [Bool.not_eq_false', List.any_eq_true] at h2
    obtain ⟨z, hz, he⟩ := h2
    have hz' : z ∈ way ts q := hz
    have := ia ih (q + 1) q (by omega) z hz'
    have he' : (ts[q + 1]).fParent = z := by simpa using he
    omega
theorem kK {k : Nat} {ts : List b7} (hk : maxLen + 8 ≤ k) (hw : wfL D5 ts) : aM k ts = some (fh ts) := by
 obtain ⟨k, rfl, hq⟩ := i8 hk
 obtain ⟨hl, hw⟩ := hw
 have e63 := m0
 unfold aM fh
 by_cases hlen : 1 ≤ ts.length ∧ ts.length ≤ 8
 ·obtain ⟨hlen1, hlen2⟩ := hlen
  simp only [show decide ((ts.length : Int) < 1) = false by simp; omega, show decide ((ts.length : Int) > 8) = false by simp; omega, cond_false, Option.bind_some, Bool.or_false, Bool.not_false, Bool.true_and]
  refine Eq.trans (Hd (L := fun m x s => H6 k ts _ m x s) (n := ts.length) (σ := J0 ts) (g := ae ts) (r := fun _ => some false) (z := some true) ?_ ?_ (by omega) rfl) ?_
  rotate_left 2
  ·rw [u7]
   cases P0 (ae ts) ts.length <;> rfl
  ·intro m i hi hb
   have h1 := hw _ (List.getElem_mem hi)
   have hup := vf i hb
   have hc : A1 k (ts.take i) (fun j x0 => V0 j x0 ts[i]) = some (eP ts i) := by
    rw [eP, t6 hi]
    refine kF (by rw [List.length_take]; omega) (by rw [List.length_take]; omega) (fun k' e x hx => ?_)
    obtain ⟨k', rfl, _⟩ := i8 (show 0 + 1 ≤ k' by omega)
    rfl
   have hbl : (J0 ts i).length ≤ 8 := by
    cases i with
    | zero => exact Nat.zero_le _
    | succ q => have := fD (ts := ts) (q + 1) q; show (way ts q).length ≤ 8; unfold way; omega
   simp only [H6, n7 hi, l4 hi hl, Option.bind_some, show decide ((i : Int) < (ts.length : Int)) = true by simp; exact hi, cond_true, nt (show maxLen + 6 ≤ k by omega) h1, ij (show i ≤ ts.length by omega), hc,
    qd (show (J0 ts i).length + 2 ≤ k by omega) (show (J0 ts i).length ≤ maxLen by omega)]
   rw [ae, t6 hi]
   cases hto : y4 ts[i] with
   | false => rfl
   | true =>
    cases hdt : eP ts i with
    | true => rfl
    | false =>
     simp only [Bool.not_true, cond_false, Option.bind_some, Bool.or_false, Bool.false_or]
     cases i with
     | zero =>
      simp only [show (((0 : Nat) : Int) == 0) = true from rfl, cond_true, show Nat.beq 0 0 = true from rfl, show decide (((0 : Nat) : Int) > 0) = false from rfl, cond_false]
      have hroot : (bif ((ts[0]).fParent != (-1)) then (some (true)) else (bif (decide ((ts[0]).fKey < 0)) then (some (true)) else (bif (!(ts[0]).fUnique) then (some (true)) else ((idx (ts[0]).fFields (ts[0]).fKey).bind fun v25 => (bif (decide (v25.fBytes > 24)) then (some (true)) else some false))))) = some (bg ts[0]) := by
       unfold bg
       cases hx : idx (ts[0]).fFields (ts[0]).fKey with
       | none =>
        -- the key of a type that is right is there, or negative
        have hneg : decide ((ts[0]).fKey < 0) = true := by
         simp only [decide_eq_true_eq]
         by_cases h0 : (ts[0]).fKey < 0
         ·exact h0
         ·exfalso
          have hko : kS ts[0] = true := by
           unfold y4 at hto
           simp only [Bool.and_eq_true] at hto
           exact hto.2
          unfold kS at hko
          have : ((ts[0]).fKey == (-1)) = false := by simp; omega
          rw [this, cond_false] at hko
          unfold gt at hko
          rw [hx] at hko
          simp at hko
        rw [hneg]
        cases ((ts[0]).fParent != (-1)) <;> rfl
       | some f =>
        simp only [Option.bind_some]
        cases ((ts[0]).fParent != (-1)) <;> cases decide ((ts[0]).fKey < 0) <;> cases (ts[0]).fUnique <;> cases decide (f.fBytes > 24) <;> rfl
      rw [hroot]
      cases hrb : bg ts[0] with
      | true => simp
      | false =>
       have hpar : (ts[0]).fParent = -1 := by
        unfold bg at hrb
        simp only [Bool.or_eq_false_iff] at hrb
        simpa using hrb.1
       have hway : way ts 0 = [0] := by
        unfold way
        rw [B9, if_pos (by omega), Int.toNat_natCast, List.getElem?_eq_getElem hi]
        simp [B9]
       have hpn : pos (J0 ts 0) (fun x => (ts[0]).fParent == x) = -1 := rfl
       rw [hpn]
       have hup0 : rN (J0 ts 0) (Go.IntKind.wrap .i64 (-1 + 1)) = some 0 := rfl
       simp only [Option.bind_some, cond_false, hup0]
       rw [aG (by simp [J0, p4])]
       simp only [Option.bind_some, J0, List.take_nil, List.nil_append, hway]
       rfl
     | succ q =>
      simp only [show ((((q + 1 : Nat)) : Int) == 0) = false by simp; omega, cond_false, show Nat.beq (q + 1) 0 = false from rfl, show decide ((((q + 1 : Nat)) : Int) > 0) = true by simp, cond_true, Option.bind_some]
      have hbe : J0 ts (q + 1) = B9 ts (q + 1) q := rfl
      cases hany : (J0 ts (q + 1)).any (fun z => (ts[q + 1]).fParent == z) with
      | false =>
       rw [zr hany]
       rfl
      | true =>
       obtain ⟨y, hy, he⟩ := List.any_eq_true.1 hany
       have he' : (ts[q + 1]).fParent = y := by simpa using he
       have hylt := ia hup (q + 1) q (by omega) y (by rw [← hbe]; exact hy)
       have hcut := vg hup (q + 1) q (by omega) (by omega) y (by rw [← hbe]; exact hy)
       rw [← hbe] at hcut
       rcases K4 (J0 ts (q + 1)) (fun z => (ts[q + 1]).fParent == z) with ⟨g1, _⟩ | ⟨j, g1, g2, g3, g4⟩
       ·exfalso
        obtain ⟨ii, hii, hee⟩ := List.getElem_of_mem hy
        have := g1 ii hii
        rw [hee] at this
        rw [this] at he; cases he
       ·have hcut' : (J0 ts (q + 1)).take ((pos (J0 ts (q + 1)) (fun z => (ts[q + 1]).fParent == z)) + 1).toNat = way ts y.toNat := by
         rw [he']; exact hcut
        rw [g4] at hcut' ⊢
        have hdn : decide ((j : Int) < 0) = false := by simp
        have hwr : Go.IntKind.wrap .i64 ((j : Int) + 1) = ((j + 1 : Nat) : Int) := l4 (n := (J0 ts (q + 1)).length) g1 (by omega)
        have hut : rN (J0 ts (q + 1)) ((j + 1 : Nat) : Int) = some (j + 1) := by
         unfold rN
         rw [if_pos ⟨by omega, by omega⟩]
         simp
        have hcut2 : (J0 ts (q + 1)).take (j + 1) = way ts y.toNat := by
         rw [← hcut']; congr 1
        have hwl : (way ts y.toNat).length ≤ 8 := by
         have := fD (ts := ts) (y.toNat + 1) (y.toNat : Int)
         show (B9 ts (y.toNat + 1) (y.toNat : Int)).length ≤ 8
         omega
        have hnext : way ts (q + 1) = way ts y.toNat ++ [((q + 1 : Nat) : Int)] := by
         have hup2 : Up ts (q + 2) := by
          intro jj hjj hjn
          by_cases e : jj < q + 1
          ·exact hup jj hjj e
          ·have : jj = q + 1 := by omega
           subst this
           omega
         rw [pt hup2 (by omega) hi, he', vu hup2 hylt.1 (by omega) (by omega)]
        simp only [hdn, hwr, hut, cond_false, Option.bind_some, hcut2]
        rw [aG (by simp only [List.length_cons, List.length_nil, p4]; omega)]
        simp only [Option.bind_some, ← hnext, Bool.not_true, Bool.false_or]
        rfl
  ·intro m _
   simp only [H6, show decide ((ts.length : Int) < (ts.length : Int)) = false by simp, cond_false]
 ·by_cases h1 : ts.length < 1
  ·simp only [show decide ((ts.length : Int) < 1) = true by simp; omega, cond_true, Option.bind_some, Bool.true_or, Bool.not_true, Bool.false_and]
  ·have h2 : ts.length > 8 := by omega
   simp only [show decide ((ts.length : Int) < 1) = false by simp; omega, show decide ((ts.length : Int) > 8) = true by simp; omega, cond_true, cond_false, Option.bind_some, Bool.or_true, Bool.not_true, Bool.false_and]
end Go.Sh

namespace Go.Sh
open Go.AE
set_option linter.unusedVariables false
set_option linter.unusedSimpArgs false
def aN (xs : List j0) (i : Nat) : Bool := at' xs (fun t => (xs.take i).any (fun g => g.fName == t.fName)) i
def oo (ts : List b7) (x : j0) : Bool :=
 match idx ts x.fType with | none => true | some t => decide (x.fField < 0) || (decide (x.fField ≥ (t.fFields.length : Int)) || (match idx t.fFields x.fField with | none => true | some f => decide (f.fBytes > 20)))
def aI (ts : List b7) (xs : List j0) (i : Nat) : Bool :=
 at' xs (fun x => ((!C3 x.fName) || (decide (x.fType < 0) || (decide (x.fType ≥ (ts.length : Int)) || (decide ((x.fSparse.length : Int) > 1) || aN xs i)))) || oo ts x) i
def jb (ts : List b7) (xs : List j0) : Bool := !P0 (aI ts xs) xs.length && decide ((xs.length : Int) ≤ 3)
theorem jo {k : Nat} {ts : List b7} {xs : List j0} (hk : maxLen + 6 ≤ k) (hw : wfL aj xs) : U9 k xs ts = some (jb ts xs) := by
 obtain ⟨k, rfl, hq⟩ := i8 hk
 obtain ⟨hl, hw⟩ := hw
 unfold U9 jb
 refine Eq.trans (S9 (L := fun m x => D6 k xs ts _ m x) (n := xs.length) (g := aI ts xs) (r := fun _ => some false) (z := some (decide ((xs.length : Int) ≤ 3))) ?_ ?_ (by omega)) ?_
 rotate_left 2
 ·rw [u7]
  cases P0 (aI ts xs) xs.length <;> rfl
 ·intro m i hi _
  have h1 := hw _ (List.getElem_mem hi)
  have hc : w7 k (xs.take i) (fun j x0 => Q5 j x0 xs[i]) = some (aN xs i) := by
   rw [aN, t6 hi]
   refine ji (by rw [List.length_take]; omega) (by rw [List.length_take]; omega) (fun k' e x hx => ?_)
   obtain ⟨k', rfl, _⟩ := i8 (show 0 + 1 ≤ k' by omega)
   rfl
  simp only [D6, aI, t6 hi, n7 hi, l4 hi hl, Option.bind_some, show decide ((i : Int) < (xs.length : Int)) = true by simp; exact hi, cond_true, dU (show maxLen + 2 ≤ k by omega) h1.1, ij (show i ≤ xs.length by omega), hc]
  unfold oo
  cases hn : C3 xs[i].fName with
  | false => rfl
  | true =>
   cases h2 : decide (xs[i].fType < 0) with
   | true => rfl
   | false =>
    cases h3 : decide (xs[i].fType ≥ (ts.length : Int)) with
    | true => rfl
    | false =>
     cases decide ((xs[i].fSparse.length : Int) > 1) with
     | true => rfl
     | false =>
      cases aN xs i with
      | true => rfl
      | false =>
       simp only [decide_eq_false_iff_not] at h2 h3
       rw [aR (show 0 ≤ xs[i].fType by omega) (by omega)]
       simp only [Bool.not_true, cond_false, Option.bind_some, Bool.or_false, Bool.false_or]
       generalize ts[(xs[i].fType).toNat]'_ = t
       cases h4 : decide (xs[i].fField < 0) with
       | true => rfl
       | false =>
        cases h5 : decide (xs[i].fField ≥ (t.fFields.length : Int)) with
        | true => rfl
        | false =>
         simp only [decide_eq_false_iff_not] at h4 h5
         rw [aR (show 0 ≤ xs[i].fField by omega) (by omega)]
         simp only [cond_false, Option.bind_some, Bool.false_or]
 ·intro m _
  simp only [D6, show decide ((xs.length : Int) < (xs.length : Int)) = false by simp, cond_false]
def valid (b : a7) : Bool := C3 b.fName && (decide (b.fKind ≥ 1) && (decide (b.fKind ≤ 4) && (fh b.fTypes && jb b.fTypes b.fIndexes)))
theorem lX {k : Nat} {b : a7} (hk : maxLen + 9 ≤ k) (hw : i1 b) : bp k b = some (valid b) := by
 obtain ⟨k, rfl, hq⟩ := i8 hk
 obtain ⟨h1, _, h3, h4, _⟩ := hw
 simp only [bp, dU (show maxLen + 2 ≤ k by omega) h1, kK hq h3, jo (show maxLen + 6 ≤ k by omega) h4, Option.bind_some]
 unfold valid
 cases C3 b.fName <;> cases decide (b.fKind ≥ 1) <;> cases decide (b.fKind ≤ 4) <;> cases fh b.fTypes <;> rfl
theorem fc {b : a7} {n : Nat} (hu : Up b.fTypes n) (hlen : n ≤ b.fTypes.length) (hs : n ≤ 1000) : ∀ (d : Nat) (x : Int) (w : List Int) (m : Nat), x < (d : Int) → x < (n : Int) → d < m → w.length + d ≤ 1000 →
  R9 b (fun y11 y12 => some y12) m x w = some (B9 b.fTypes d x ++ w)
 | d, x, w, 0, _, _, hm, _ => by omega
 | d, x, w, m + 1, hd, hn, hm, hwl => by
  rw [R9]
  by_cases h0 : 0 ≤ x
  ·have hx : x.toNat < b.fTypes.length := by omega
   have hp := hu x.toNat hx (by omega)
   cases d with
   | zero => omega
   | succ d =>
    simp only [show decide (x ≥ 0) = true by simp; omega, cond_true, aR h0 (show x < (b.fTypes.length : Int) by omega), Option.bind_some]
    rw [aG (by simp only [List.length_cons, List.length_nil, p4]; omega)]
    simp only [Option.bind_some]
    rw [fc hu hlen hs d _ _ m (by omega) (by omega) (by omega) (by simp; omega)]
    rw [B9, if_pos h0, List.getElem?_eq_getElem hx]
    simp
  ·rw [Q4 (by omega)]
   simp only [show decide (x ≥ 0) = false by simp; omega, cond_false, List.nil_append]
theorem oY {k : Nat} {b : a7} {n i : Nat} (hu : Up b.fTypes n) (hlen : n ≤ b.fTypes.length) (hs : n ≤ 500) (hi : i < n) (hk : 1000 ≤ k) : dL k b (i : Int) = some (way b.fTypes i) := by
 obtain ⟨k, rfl, hq⟩ := i8 (c := 999) (by omega : 999 + 1 ≤ k)
 refine Eq.trans (show dL (k + 1) b (i : Int) = R9 b (fun y11 y12 => some y12) k (i : Int) [] from rfl) ?_
 rw [fc hu hlen (by omega) (i + 1) (i : Int) [] k (by omega) (by omega) (by omega) (by simp; omega)]
 rw [List.append_nil]; rfl
theorem dn {b : a7} {n : Nat} {a : Int} (hu : Up b.fTypes n) (hlen : n ≤ b.fTypes.length) : ∀ (d : Nat) (x : Int) (m : Nat), x < (d : Int) → x < (n : Int) → d < m →
  Q8 b a (fun y8 => some false) m x = some ((B9 b.fTypes d x).any (fun z => a == z))
 | d, x, 0, _, _, hm => by omega
 | d, x, m + 1, hd, hn, hm => by
  rw [Q8]
  by_cases h0 : 0 ≤ x
  ·have hx : x.toNat < b.fTypes.length := by omega
   have hp := hu x.toNat hx (by omega)
   cases d with
   | zero => omega
   | succ d =>
    simp only [show decide (x ≥ 0) = true by simp; omega, cond_true, aR h0 (show x < (b.fTypes.length : Int) by omega), Option.bind_some]
    rw [B9, if_pos h0, List.getElem?_eq_getElem hx]
    simp only [List.any_append, List.any_cons, List.any_nil, Bool.or_false]
    by_cases e : x = a
    ·subst e; simp
    ·have e1 : (x == a) = false := by simpa using e
     have e2 : (a == x) = false := by simpa using fun h => e h.symm
     rw [e1, e2, cond_false, Bool.or_false]
     exact dn hu hlen d _ m (by omega) (by omega) (by omega)
  ·rw [Q4 (by omega)]
   simp only [show decide (x ≥ 0) = false by simp; omega, cond_false, List.any_nil]
theorem mG {k : Nat} {b : a7} {n i : Nat} {a : Int} (hu : Up b.fTypes n) (hlen : n ≤ b.fTypes.length) (hs : n ≤ 500) (hi : i < n) (hk : 1000 ≤ k) : cn k b a (i : Int) = some ((B9 b.fTypes n ((b.fTypes[i]'(by omega)).fParent)).any (fun z => a == z)) := by
 obtain ⟨k, rfl, hq⟩ := i8 (c := 999) (by omega : 999 + 1 ≤ k)
 have hx : i < b.fTypes.length := by omega
 have hp := hu i hx hi
 simp only [cn, n7 hx, Option.bind_some]
 exact dn hu hlen n _ k (by omega) (by omega) (by omega)
theorem jr {b : a7} {i k : Nat} {K : Option Bool} (hi : i < b.fTypes.length) (hl : b.fTypes.length ≤ maxLen) (hk : i < k) : G9 b (i : Int) b.fTypes[i] (fun _ => K) k 0 = bif eP b.fTypes i then some false else K := by
 rw [eP, t6 hi, ← lQ (show i ≤ b.fTypes.length by omega)]
 refine Eq.trans (S9 (L := fun m x => G9 b (i : Int) b.fTypes[i] _ m x) (n := i) (g := at' b.fTypes (fun g => g.fName == b.fTypes[i].fName)) (r := fun _ => some false) (z := K) ?_ ?_ hk) (u7 i)
 ·intro m j hj _
  have hj' : j < b.fTypes.length := by omega
  simp only [G9, t6 hj', n7 hj', l4 hj' hl, Option.bind_some, show decide ((j : Int) < (i : Int)) = true by simp; exact hj, cond_true]
 ·intro m _
  simp only [G9, show decide ((i : Int) < (i : Int)) = false by simp, cond_false]
theorem jt {b : a7} {i k : Nat} {K : Option Bool} (hi : i < b.fIndexes.length) (hl : b.fIndexes.length ≤ maxLen) (hk : i < k) : H1 b (i : Int) b.fIndexes[i] (fun _ => K) k 0 = bif aN b.fIndexes i then some false else K := by
 rw [aN, t6 hi, ← lQ (show i ≤ b.fIndexes.length by omega)]
 refine Eq.trans (S9 (L := fun m x => H1 b (i : Int) b.fIndexes[i] _ m x) (n := i) (g := at' b.fIndexes (fun g => g.fName == b.fIndexes[i].fName)) (r := fun _ => some false) (z := K) ?_ ?_ hk) (u7 i)
 ·intro m j hj _
  have hj' : j < b.fIndexes.length := by omega
  simp only [H1, t6 hj', n7 hj', l4 hj' hl, Option.bind_some, show decide ((j : Int) < (i : Int)) = true by simp; exact hj, cond_true]
 ·intro m _
  simp only [H1, show decide ((i : Int) < (i : Int)) = false by simp, cond_false]
theorem js {b : a7} {k : Nat} (hk : maxLen + 6 ≤ k) (hw : wfL aj b.fIndexes) : H0 k b (fun _ => some true) k 0 = some (!P0 (aI b.fTypes b.fIndexes) b.fIndexes.length) := by
 obtain ⟨hl, hw⟩ := hw
 refine Eq.trans (S9 (L := fun m x => H0 k b _ m x) (n := b.fIndexes.length) (g := aI b.fTypes b.fIndexes) (r := fun _ => some false) (z := some true) ?_ ?_ (by omega)) ?_
 rotate_left 2
 ·rw [u7]
  cases P0 (aI b.fTypes b.fIndexes) b.fIndexes.length <;> rfl
 ·intro m i hi _
  have h1 := hw _ (List.getElem_mem hi)
  simp only [H0, aI, t6 hi, n7 hi, l4 hi hl, Option.bind_some, show decide ((i : Int) < (b.fIndexes.length : Int)) = true by simp; exact hi, cond_true, dy (show maxLen + 2 ≤ k by omega) h1.1, jt hi hl (show i < k by omega)]
  unfold oo
  cases hn : C3 b.fIndexes[i].fName with
  | false => rfl
  | true =>
   cases h2 : decide (b.fIndexes[i].fType < 0) with
   | true => rfl
   | false =>
    cases h3 : decide (b.fIndexes[i].fType ≥ (b.fTypes.length : Int)) with
    | true => rfl
    | false =>
     simp only [decide_eq_false_iff_not] at h2 h3
     rw [aR (show 0 ≤ b.fIndexes[i].fType by omega) (by omega)]
     simp only [Bool.not_true, cond_false, Option.bind_some, Bool.or_false, Bool.false_or]
     generalize b.fTypes[(b.fIndexes[i].fType).toNat]'_ = t
     cases h4 : decide (b.fIndexes[i].fField < 0) with
     | true => cases decide ((b.fIndexes[i].fSparse.length : Int) > 1) <;> cases aN b.fIndexes i <;> rfl
     | false =>
      cases h5 : decide (b.fIndexes[i].fField ≥ (t.fFields.length : Int)) with
      | true => cases decide ((b.fIndexes[i].fSparse.length : Int) > 1) <;> cases aN b.fIndexes i <;> rfl
      | false =>
       simp only [decide_eq_false_iff_not] at h4 h5
       rw [aR (show 0 ≤ b.fIndexes[i].fField by omega) (by omega)]
       simp only [cond_false, Option.bind_some, Bool.false_or]
       generalize t.fFields[(b.fIndexes[i].fField).toNat]'_ = f
       cases decide (f.fBytes > 20) <;> cases decide ((b.fIndexes[i].fSparse.length : Int) > 1) <;> cases aN b.fIndexes i <;> rfl
 ·intro m _
  simp only [H0, show decide ((b.fIndexes.length : Int) < (b.fIndexes.length : Int)) = false by simp, cond_false]
theorem wd (t : b7) : y4 t = !((!C3 t.fName) || (decide (t.fMin < 1) || (decide (t.fMin > t.fSize) || (decide (t.fSize > 40) || !gj t)))) := by
 rw [tS]
 unfold y4
 cases C3 t.fName <;> cases decide (t.fMin < 1) <;> cases decide (t.fMin > t.fSize) <;> cases decide (t.fSize > 40) <;> cases dX t <;> cases kS t <;> rfl
theorem jq {b : a7} {k : Nat} {K : Option Bool} (hk : maxLen + 8 ≤ k) (hw : wfL D5 b.fTypes) (h8 : b.fTypes.length ≤ 8) : E5 k b (fun _ => K) k 0 = bif P0 (ae b.fTypes) b.fTypes.length then some false else K := by
 obtain ⟨hl, hw⟩ := hw
 have e63 := m0
 refine Eq.trans (S9 (L := fun m x => E5 k b _ m x) (n := b.fTypes.length) (g := ae b.fTypes) (r := fun _ => some false) (z := K) ?_ ?_ (by omega)) (u7 _)
 ·intro m i hi hb
  have h1 := hw _ (List.getElem_mem hi)
  have hup := vf i hb
  simp only [E5, n7 hi, l4 hi hl, Option.bind_some, show decide ((i : Int) < (b.fTypes.length : Int)) = true by simp; exact hi, cond_true, dy (show maxLen + 2 ≤ k by omega) h1.1, lz (show maxLen + 5 ≤ k by omega) h1, jr hi hl (show i < k by omega)]
  rw [ae, t6 hi]
  have hshape : (bif (!C3 (b.fTypes[i]).fName) then (some (true)) else (bif (decide ((b.fTypes[i]).fMin < 1)) then (some (true)) else (bif (decide ((b.fTypes[i]).fMin > (b.fTypes[i]).fSize)) then (some (true)) else (bif (decide ((b.fTypes[i]).fSize > 40)) then (some (true)) else (some ((!gj b.fTypes[i]))))))) = some (!y4 b.fTypes[i]) := by
   rw [wd]
   cases C3 (b.fTypes[i]).fName <;> cases decide ((b.fTypes[i]).fMin < 1) <;> cases decide ((b.fTypes[i]).fMin > (b.fTypes[i]).fSize) <;> cases decide ((b.fTypes[i]).fSize > 40) <;> cases gj b.fTypes[i] <;> rfl
  rw [hshape]
  cases hto : y4 b.fTypes[i] with
  | false => rfl
  | true =>
   cases hdt : eP b.fTypes i with
   | true => rfl
   | false =>
    simp only [Bool.not_true, cond_false, Option.bind_some, Bool.or_false, Bool.false_or]
    cases i with
    | zero =>
     simp only [show (((0 : Nat) : Int) == 0) = true from rfl, cond_true, show Nat.beq 0 0 = true from rfl]
     have hway : (bg b.fTypes[0] = false) → decide (((way b.fTypes 0).length : Int) > 5) = false := by
      intro hrb
      have hpar : (b.fTypes[0]).fParent = -1 := by
       unfold bg at hrb
       simp only [Bool.or_eq_false_iff] at hrb
       simpa using hrb.1
      have : way b.fTypes 0 = [0] := by
       unfold way
       rw [B9, if_pos (by omega), Int.toNat_natCast, List.getElem?_eq_getElem hi]
       simp [B9]
      rw [this]; rfl
     have hroot : (bif ((b.fTypes[0]).fParent != (-1)) then (some (true)) else (bif (decide ((b.fTypes[0]).fKey < 0)) then (some (true)) else (bif (!(b.fTypes[0]).fUnique) then (some (true)) else ((idx (b.fTypes[0]).fFields (b.fTypes[0]).fKey).bind fun v32 => (some ((decide (v32.fBytes > 24)))))))) = some (bg b.fTypes[0]) := by
      unfold bg
      cases hx : idx (b.fTypes[0]).fFields (b.fTypes[0]).fKey with
      | none =>
       have hneg : decide ((b.fTypes[0]).fKey < 0) = true := by
        simp only [decide_eq_true_eq]
        by_cases h0 : (b.fTypes[0]).fKey < 0
        ·exact h0
        ·exfalso
         have hko : kS b.fTypes[0] = true := by
          unfold y4 at hto
          simp only [Bool.and_eq_true] at hto
          exact hto.2
         unfold kS at hko
         have : ((b.fTypes[0]).fKey == (-1)) = false := by simp; omega
         rw [this, cond_false] at hko
         unfold gt at hko
         rw [hx] at hko
         simp at hko
       rw [hneg]
       cases ((b.fTypes[0]).fParent != (-1)) <;> rfl
      | some f =>
       simp only [Option.bind_some]
       cases ((b.fTypes[0]).fParent != (-1)) <;> cases decide ((b.fTypes[0]).fKey < 0) <;> cases (b.fTypes[0]).fUnique <;> cases decide (f.fBytes > 24) <;> rfl
     rw [hroot]
     cases hrb : bg b.fTypes[0] with
     | true => rfl
     | false => rw [hway hrb]; rfl
    | succ q =>
     have hq1 : q < b.fTypes.length := by omega
     have hpq := hup q hq1 (by omega)
     have hbe : J0 b.fTypes (q + 1) = B9 b.fTypes (q + 1) q := rfl
     have hbw : J0 b.fTypes (q + 1) = B9 b.fTypes (q + 1) (b.fTypes[q]).fParent ++ [(q : Int)] := pt hup (by omega) hq1
     have hab := mG (k := k) (a := (b.fTypes[q + 1]).fParent) hup (by omega) (by omega) (show q < q + 1 by omega) (by omega)
     have hwr : Go.IntKind.wrap .i64 (((q + 1 : Nat) : Int) - 1) = (q : Int) := by
      rw [U7 (by omega) (by omega)]; omega
     simp only [show ((((q + 1 : Nat)) : Int) == 0) = false by simp; omega, cond_false, show Nat.beq (q + 1) 0 = false from rfl, hwr, hab, Option.bind_some]
     have hmem : (J0 b.fTypes (q + 1)).any (fun z => (b.fTypes[q + 1]).fParent == z) = ((B9 b.fTypes (q + 1) (b.fTypes[q]).fParent).any (fun z => (b.fTypes[q + 1]).fParent == z) || ((b.fTypes[q + 1]).fParent == (q : Int))) := by
      rw [hbw]; simp only [List.any_append, List.any_cons, List.any_nil, Bool.or_false]
     have hin : ((B9 b.fTypes (q + 1) (b.fTypes[q]).fParent).any (fun z => (b.fTypes[q + 1]).fParent == z) || ((b.fTypes[q + 1]).fParent == (q : Int))) = true → ¬ (b.fTypes[q + 1]).fParent < 0 ∧ ¬ (b.fTypes[q + 1]).fParent ≥ ((q + 1 : Nat) : Int) := by
      intro h
      rw [← hmem] at h
      obtain ⟨y, hy, he⟩ := List.any_eq_true.1 h
      have he' : (b.fTypes[q + 1]).fParent = y := by simpa using he
      have := ia hup (q + 1) q (by omega) y (by rw [← hbe]; exact hy)
      omega
     rw [hmem]
     cases hany : ((B9 b.fTypes (q + 1) (b.fTypes[q]).fParent).any (fun z => (b.fTypes[q + 1]).fParent == z) || ((b.fTypes[q + 1]).fParent == (q : Int))) with
     | false =>
      rw [Bool.or_eq_false_iff] at hany
      obtain ⟨g1, g2⟩ := hany
      rw [g1]
      have g3 : ((b.fTypes[q + 1]).fParent != (q : Int)) = true := by rw [bne, g2]; rfl
      rw [g3]
      cases decide ((b.fTypes[q + 1]).fParent < 0) <;> cases decide ((b.fTypes[q + 1]).fParent ≥ ((q + 1 : Nat) : Int)) <;> rfl
     | true =>
      obtain ⟨g1, g2⟩ := hin hany
      have hup2 : Up b.fTypes (q + 2) := by
       intro jj hjj hjn
       by_cases e : jj < q + 1
       ·exact hup jj hjj e
       ·have : jj = q + 1 := by omega
        subst this
        omega
      have hwy := oY (k := k) hup2 (by omega) (by omega) (show q + 1 < q + 2 by omega) (by omega)
      rw [hwy]
      simp only [show decide ((b.fTypes[q + 1]).fParent < 0) = false by simp; omega, show decide ((b.fTypes[q + 1]).fParent ≥ ((q + 1 : Nat) : Int)) = false by simp; omega, cond_false, Option.bind_some]
      rw [Bool.or_eq_true] at hany
      rcases hany with g3 | g3
      ·rw [g3]
       cases ((b.fTypes[q + 1]).fParent != (q : Int)) <;> cases decide (((way b.fTypes (q + 1)).length : Int) > 5) <;> rfl
      ·have g4 : ((b.fTypes[q + 1]).fParent != (q : Int)) = false := by rw [bne, g3]; rfl
       rw [g4]
       cases decide (((way b.fTypes (q + 1)).length : Int) > 5) <;> rfl
 ·intro m _
  simp only [E5, show decide ((b.fTypes.length : Int) < (b.fTypes.length : Int)) = false by simp, cond_false]
theorem iN {k : Nat} {b : a7} (hk : maxLen + 9 ≤ k) (hw : i1 b) : W2 k b = some (valid b) := by
 obtain ⟨k, rfl, hq⟩ := i8 hk
 obtain ⟨h1, _, h3, h4, _⟩ := hw
 simp only [W2, dy (show maxLen + 2 ≤ k by omega) h1, Option.bind_some]
 unfold valid fh jb
 have e1 : decide (b.fKind < 1) = !decide (b.fKind ≥ 1) := by rw [← decide_not]; apply decide_eq_decide.2; omega
 have e2 : decide (b.fKind > 4) = !decide (b.fKind ≤ 4) := by rw [← decide_not]; apply decide_eq_decide.2; omega
 have e3 : decide ((b.fIndexes.length : Int) > 3) = !decide ((b.fIndexes.length : Int) ≤ 3) := by rw [← decide_not]; apply decide_eq_decide.2; omega
 rw [e1, e2, e3]
 by_cases h8 : b.fTypes.length ≤ 8
 ·rw [jq hq h3 h8, js (show maxLen + 6 ≤ k by omega) h4]
  cases C3 b.fName <;> cases decide (b.fKind ≥ 1) <;> cases decide (b.fKind ≤ 4) <;> cases decide ((b.fTypes.length : Int) < 1) <;> cases decide ((b.fTypes.length : Int) > 8) <;> cases decide ((b.fIndexes.length : Int) ≤ 3) <;> cases P0 (ae b.fTypes) b.fTypes.length <;> cases P0 (aI b.fTypes b.fIndexes) b.fIndexes.length <;> rfl
 ·have e4 : decide ((b.fTypes.length : Int) > 8) = true := by simp; omega
  rw [e4]
  cases C3 b.fName <;> cases decide (b.fKind ≥ 1) <;> cases decide (b.fKind ≤ 4) <;> cases decide ((b.fTypes.length : Int) < 1) <;> rfl
end Go.Sh

namespace Go.Sh
open Go.AE
set_option linter.unusedVariables false
set_option linter.unusedSimpArgs false
def aW (b : a7) (x : Int) : Bool := decide (x < 0) || decide (x ≥ (b.fTypes.length : Int))
def u4 (b : a7) (l : List Int) : Int := bif !valid b then 100 else bif l.any (aW b) then 2 else 0
theorem dT {k : Nat} {b : a7} {l : List Int} (hk : maxLen + 10 ≤ k) (hw : i1 b) (hl : l.length ≤ 1000) : br k b l = some (u4 b l) := by
 have e63 := m0
 obtain ⟨k, rfl, hq⟩ := i8 hk
 have hc : A4 k l (fun j x0 => ax j x0 b) = some (l.any (aW b)) := by
  refine lT (by omega) (by omega) (fun k' e x hx => ?_)
  obtain ⟨k', rfl, _⟩ := i8 (show 0 + 1 ≤ k' by omega)
  simp only [ax, aW]
  cases decide (x < 0) <;> cases decide (x ≥ (b.fTypes.length : Int)) <;> rfl
 simp only [br, lX (show maxLen + 9 ≤ k by omega) hw, hc, Option.bind_some]
 unfold u4
 cases valid b <;> cases l.any (aW b) <;> rfl
theorem gb {b : a7} {l : List Int} (h : u4 b l = 0) : valid b = true ∧ ∀ x ∈ l, 0 ≤ x ∧ x < (b.fTypes.length : Int) := by
 unfold u4 at h
 cases hv : valid b with
 | false => rw [hv] at h; simp at h
 | true =>
  rw [hv] at h
  cases ha : l.any (aW b) with
  | true => rw [ha] at h; simp at h
  | false =>
   refine ⟨rfl, fun x hx => ?_⟩
   rw [List.any_eq_false] at ha
   have := ha x hx
   unfold aW at this
   simp at this
   omega
theorem tg {b : a7} (h : valid b = true) : Up b.fTypes b.fTypes.length ∧ 1 ≤ b.fTypes.length ∧ b.fTypes.length ≤ 8 := by
 unfold valid fh at h
 simp only [Bool.and_eq_true, Bool.not_eq_true', Bool.or_eq_false_iff, decide_eq_false_iff_not] at h
 obtain ⟨_, _, _, ⟨⟨h1, h2⟩, h3⟩, _⟩ := h
 exact ⟨vf _ (P1.1 h3), by omega, by omega⟩
theorem gM {b : a7} {n : Nat} {K : Int → List Int → Option (List Int)} (hu : Up b.fTypes n) (hlen : n ≤ b.fTypes.length) (hs : n ≤ 1000) : ∀ (d : Nat) (x : Int) (w : List Int) (m : Nat), x < (d : Int) → x < (n : Int) → d < m → w.length + d ≤ 1000 →
  ∃ y, am b K m x w = K y (w ++ (B9 b.fTypes d x).reverse)
 | d, x, w, 0, _, _, hm, _ => by omega
 | d, x, w, m + 1, hd, hn, hm, hwl => by
  rw [am]
  by_cases h0 : 0 ≤ x
  ·have hx : x.toNat < b.fTypes.length := by omega
   have hp := hu x.toNat hx (by omega)
   cases d with
   | zero => omega
   | succ d =>
    simp only [show decide (x ≥ 0) = true by simp; omega, cond_true, aR h0 (show x < (b.fTypes.length : Int) by omega), Option.bind_some]
    rw [aG (by simp only [List.length_cons, List.length_nil, p4]; omega)]
    simp only [Option.bind_some]
    obtain ⟨y, hy⟩ := gM (K := K) hu hlen hs d (b.fTypes[x.toNat]).fParent (w ++ [x]) m (by omega) (by omega) (by omega) (by simp; omega)
    refine ⟨y, hy.trans ?_⟩
    rw [B9, if_pos h0, List.getElem?_eq_getElem hx]
    simp
  ·rw [Q4 (by omega)]
   refine ⟨x, ?_⟩
   simp only [show decide (x ≥ 0) = false by simp; omega, cond_false, List.reverse_nil, List.append_nil]
theorem kL {k : Nat} {b : a7} {n i : Nat} (hu : Up b.fTypes n) (hlen : n ≤ b.fTypes.length) (hs : n ≤ 500) (hi : i < n) (hk : 1000 ≤ k) : ja k b (i : Int) = some (way b.fTypes i) := by
 obtain ⟨k, rfl, hq⟩ := i8 (c := 999) (by omega : 999 + 1 ≤ k)
 obtain ⟨y, hy⟩ := gM (K := fun y11 y12 => (((slices_Reverse_int k y12).bind (bX y12)).bind fun o14 => (some o14))) hu hlen (by omega) (i + 1) (i : Int) [] k (by omega) (by omega) (by omega) (by simp; omega)
 refine Eq.trans (show ja (k + 1) b (i : Int) = am b (fun y11 y12 => (((slices_Reverse_int k y12).bind (bX y12)).bind fun o14 => (some o14))) k (i : Int) [] from rfl) (hy.trans ?_)
 rw [List.nil_append]
 obtain ⟨k, rfl, _⟩ := i8 (show 0 + 1 ≤ k by omega)
 have hl := fD (ts := b.fTypes) (i + 1) (i : Int)
 have hble : Nat.ble (B9 b.fTypes (i + 1) (i : Int)).length 9223372036854775807 = true := Nat.ble_eq_true_of_le (by omega)
 simp only [slices_Reverse_int, mP, List.length_reverse, hble, cond_true, List.reverse_reverse, Option.bind_some, bX, if_pos]
 rfl
def th (b : a7) (t : Int) : List Int × Int := bif u4 b [t] != 0 then ([], u4 b [t]) else (way b.fTypes t.toNat, 0)
theorem qR {k : Nat} {b : a7} {t : Int} (hk : maxLen + 11 ≤ k) (hw : i1 b) : kH k b t = some (th b t) := by
 have e63 := m0
 obtain ⟨k, rfl, hq⟩ := i8 hk
 simp only [kH, dT hq hw (show [t].length ≤ 1000 by simp), Option.bind_some]
 unfold th
 by_cases h : u4 b [t] = 0
 ·obtain ⟨hv, hx⟩ := gb h
  have ht := hx t (by simp)
  obtain ⟨hup, h1, h8⟩ := tg hv
  have := kL (k := k) hup (Nat.le_refl _) (by omega) (show t.toNat < b.fTypes.length by omega) (by omega)
  rw [show ((t.toNat : Nat) : Int) = t by omega] at this
  simp only [this, h, Option.bind_some]
  rfl
 ·have : (u4 b [t] != 0) = true := by simpa using h
  simp only [this, cond_true]
end Go.Sh

namespace Go.Sh
open Go.AE
set_option linter.unusedVariables false
set_option linter.unusedSimpArgs false
theorem qO {k : Nat} {l : List Int} {y : Int} (hk : l.length + 3 ≤ k) (hn : l.length ≤ maxLen) : I7 k l y = some (l.any (fun x => y == x)) := by
 obtain ⟨k, rfl, hq⟩ := i8 hk
 simp only [I7, qd hq hn, Option.bind_some, fa]
theorem mH {k : Nat} {b : a7} {l : List Int} (hk : maxLen + 10 ≤ k) (hw : i1 b) (hl : l.length ≤ 10) : co k b l = some (u4 b l) := by
 have e63 := m0
 obtain ⟨k, rfl, hq⟩ := i8 hk
 simp only [co, iN (show maxLen + 9 ≤ k by omega) hw, Option.bind_some]
 unfold u4
 cases valid b with
 | false => rfl
 | true =>
  simp only [Bool.not_true, cond_false]
  rw [← hJ]
  refine Eq.trans (S9 (L := fun m x => M0 k b l _ m x) (n := l.length) (g := at' l (aW b)) (r := fun _ => some 2) (z := some 0) ?_ ?_ (by omega)) ?_
  rotate_left 2
  ·rw [u7]
   cases P0 (at' l (aW b)) l.length <;> rfl
  ·intro m i hi _
   obtain ⟨k, rfl, _⟩ := i8 (show 0 + 1 ≤ k by omega)
   simp only [M0, aZ, t6 hi, n7 hi, l4 hi (show l.length ≤ maxLen by omega), Option.bind_some, show decide ((i : Int) < (l.length : Int)) = true by simp; exact hi, cond_true, aW]
   have e1 : decide (l[i] ≥ 0) = !decide (l[i] < 0) := by rw [← decide_not]; apply decide_eq_decide.2; omega
   have e2 : decide (l[i] < (b.fTypes.length : Int)) = !decide (l[i] ≥ (b.fTypes.length : Int)) := by rw [← decide_not]; apply decide_eq_decide.2; omega
   rw [e1, e2]
   cases decide (l[i] < 0) <;> cases decide (l[i] ≥ (b.fTypes.length : Int)) <;> rfl
  ·intro m _
   simp only [M0, show decide ((l.length : Int) < (l.length : Int)) = false by simp, cond_false]
theorem nV {k : Nat} {b : a7} {t : Int} (hk : maxLen + 12 ≤ k) (hw : i1 b) : fG k b t = some (((th b t).1.length : Int), (th b t).2) := by
 obtain ⟨k, rfl, hq⟩ := i8 hk
 simp only [fG, qR hq hw, Option.bind_some]
def iX (b : a7) (a t : Int) : Bool × Int := bif u4 b [a, t] != 0 then (false, u4 b [a, t]) else ((a != t) && (way b.fTypes t.toNat).any (fun z => a == z), 0)
theorem lU {k : Nat} {b : a7} {a t : Int} (hk : maxLen + 11 ≤ k) (hw : i1 b) : cb k b a t = some (iX b a t) := by
 have e63 := m0
 obtain ⟨k, rfl, hq⟩ := i8 hk
 simp only [cb, dT hq hw (show [a, t].length ≤ 1000 by simp), Option.bind_some]
 unfold iX
 by_cases h : u4 b [a, t] = 0
 ·obtain ⟨hv, hx⟩ := gb h
  have ht := hx t (by simp)
  obtain ⟨hup, h1, h8⟩ := tg hv
  have := kL (k := k) hup (Nat.le_refl _) (by omega) (show t.toNat < b.fTypes.length by omega) (by omega)
  rw [show ((t.toNat : Nat) : Int) = t by omega] at this
  have hl := fD (ts := b.fTypes) (t.toNat + 1) (t.toNat : Int)
  have hl' : (way b.fTypes t.toNat).length ≤ 8 := by unfold way; omega
  simp only [this, h, bne_self_eq_false, cond_false, Option.bind_some, qO (show (way b.fTypes t.toNat).length + 3 ≤ k by omega) (show (way b.fTypes t.toNat).length ≤ maxLen by omega)]
  cases (a != t) <;> rfl
 ·have : (u4 b [a, t] != 0) = true := by simpa using h
  simp only [this, cond_true]
def dl (x : Int) : Int × Int := bif decide (x < 0) then (0, 5) else (x, 0)
theorem nZ {k : Nat} {x : Int} (hk : 1 ≤ k) : fH k x = some (dl x) := by
 obtain ⟨k, rfl, hq⟩ := i8 (c := 0) hk
 simp only [fH, dl]
 cases decide (x < 0) <;> rfl
theorem vC {α : Type} (l : List α) (p : α → Bool) : dl (pos l p) = eA (at' l p) (fun i => ((i : Int), (0 : Int))) (0, 5) l.length 0 := by
 unfold pos
 rw [lK dl]
 refine kj _ _ (fun j _ _ _ => ⟨rfl, fun _ => ?_⟩) (fun _ => rfl)
 unfold dl
 rw [show decide ((j : Int) < 0) = false by simp]
 rfl
def u0 (b : a7) (s : Str) : Int × Int := bif u4 b [] != 0 then (0, u4 b []) else dl (pos b.fTypes (fun t => t.fName == s))
theorem jy {k : Nat} {b : a7} {s : Str} (hk : maxLen + 11 ≤ k) (hw : i1 b) : cd k b s = some (u0 b s) := by
 obtain ⟨k, rfl, hq⟩ := i8 hk
 have hl := hw.2.2.1.1
 have hi : C2 k b.fTypes (fun j x0 => dS j x0 s) = some (pos b.fTypes (fun t => t.fName == s)) := by
  refine iw (by omega) hl (fun k' e x hx => ?_)
  obtain ⟨k', rfl, _⟩ := i8 (show 0 + 1 ≤ k' by omega)
  rfl
 simp only [cd, dT hq hw (show ([] : List Int).length ≤ 1000 by simp), hi, nZ (show 1 ≤ k by omega), Option.bind_some]
 unfold u0
 cases (u4 b [] != 0) <;> rfl
def qZ (b : a7) (t : Int) (s : Str) : Int × Int := bif u4 b [t] != 0 then (0, u4 b [t]) else match idx b.fTypes t with | some x => dl (pos x.fFields (fun f => f.fName == s)) | none => (0, 0)
theorem mF {k : Nat} {b : a7} {t : Int} {s : Str} (hk : maxLen + 11 ≤ k) (hw : i1 b) : cm k b t s = some (qZ b t s) := by
 obtain ⟨k, rfl, hq⟩ := i8 hk
 simp only [cm, mH hq hw (show [t].length ≤ 10 by simp), Option.bind_some]
 unfold qZ
 by_cases h : u4 b [t] = 0
 ·obtain ⟨hv, hx⟩ := gb h
  have ht := hx t (by simp)
  have htl : t.toNat < b.fTypes.length := by omega
  have hl := (hw.2.2.1.2 _ (List.getElem_mem htl)).2.2.2.2.1.1
  have hix := aR (l := b.fTypes) ht.1 ht.2
  rw [hix]
  simp only [h, bne_self_eq_false, cond_false]
  rw [vC, lK some]
  refine S9 (L := fun m x => L9 b t s _ m x) (n := (b.fTypes[t.toNat]).fFields.length) (g := at' (b.fTypes[t.toNat]).fFields (fun f => f.fName == s)) (r := fun i => some ((i : Int), (0 : Int))) (z := some (0, 5)) ?_ ?_ (by omega)
  ·intro m i hi _
   simp only [L9, hix, t6 hi, n7 hi, l4 hi hl, Option.bind_some, show decide ((i : Int) < ((b.fTypes[t.toNat]).fFields.length : Int)) = true by simp; exact hi, cond_true]
  ·intro m _
   simp only [L9, hix, Option.bind_some, show decide (((b.fTypes[t.toNat]).fFields.length : Int) < ((b.fTypes[t.toNat]).fFields.length : Int)) = false by simp, cond_false]
 ·have : (u4 b [t] != 0) = true := by simpa using h
  simp only [this, cond_true]
end Go.Sh

namespace Go.Sh
open Go.AE
set_option linter.unusedVariables false
set_option linter.unusedSimpArgs false
theorem nL {b : a7} (hv : valid b = true) {i : Nat} (hi : i < b.fTypes.length) : y4 b.fTypes[i] = true := by
 unfold valid fh at hv
 simp only [Bool.and_eq_true, Bool.not_eq_true'] at hv
 obtain ⟨_, _, _, ⟨_, h3⟩, _⟩ := hv
 have := P1.1 h3 i hi
 rw [ae, t6 hi] at this
 simp only [Bool.or_eq_false_iff] at this
 simpa using this.1.1
theorem cf {t : b7} (ht : y4 t = true) {j : Nat} (hj : j < t.fFields.length) : 0 ≤ (t.fFields[j]).fAt ∧ 1 ≤ (t.fFields[j]).fBytes ∧ (t.fFields[j]).fAt + (t.fFields[j]).fBytes ≤ 40 := by
 unfold y4 dX at ht
 simp only [Bool.and_eq_true, Bool.not_eq_true', Bool.or_eq_false_iff, Bool.not_eq_false', decide_eq_false_iff_not] at ht
 obtain ⟨⟨_, h1, h2, h3, h4, _⟩, _⟩ := ht
 have := P1.1 h4 j hj
 rw [S5, t6 hj] at this
 simp only [Bool.or_eq_false_iff, decide_eq_false_iff_not] at this
 obtain ⟨⟨_, g1, g2, g3, g4⟩, _⟩ := this
 rw [U7 (by omega) (by omega)] at g4
 omega
end Go.Sh

namespace Go.Sh
open Go.AE
set_option linter.unusedVariables false
set_option linter.unusedSimpArgs false
abbrev A5 := List (List a6)
theorem ow {k : Nat} {l : List a6} {p : a6 → Bool} {f : Nat → a6 → Option Bool} (hk : l.length + 2 ≤ k) (hn : l.length ≤ maxLen) (hp : ∀ k', k' + 1 = k → ∀ x ∈ l, f k' x = some (p x)) : M5 k l f = some (pos l p) := by
 obtain ⟨k, rfl, hq⟩ := i8 hk
 exact J5 (hp k rfl) (L := fun m x => C4 k l f _ m x) (fun m x => rfl) rfl hn (by omega)
theorem kE {k : Nat} {l : List a6} {p : a6 → Bool} {f : Nat → a6 → Option Bool} (hk : l.length + 3 ≤ k) (hn : l.length ≤ maxLen) (hp : ∀ k', k' + 2 = k → ∀ x ∈ l, f k' x = some (p x)) : A0 k l f = some (l.any p) := by
 obtain ⟨k, rfl, hq⟩ := i8 hk
 simp only [A0, ow hq hn (fun k' e => hp k' (by omega)), Option.bind_some, fa]
theorem nu {k : Nat} {l : List (List a6)} {p : List a6 → Bool} {f : Nat → List a6 → Option Bool} (hk : l.length + 2 ≤ k) (hn : l.length ≤ maxLen) (hp : ∀ k', k' + 1 = k → ∀ x ∈ l, f k' x = some (p x)) : J3 k l f = some (pos l p) := by
 obtain ⟨k, rfl, hq⟩ := i8 hk
 exact J5 (hp k rfl) (L := fun m x => B7 k l f _ m x) (fun m x => rfl) rfl hn (by omega)
theorem jI {k : Nat} {l : List (List a6)} {p : List a6 → Bool} {f : Nat → List a6 → Option Bool} (hk : l.length + 3 ≤ k) (hn : l.length ≤ maxLen) (hp : ∀ k', k' + 2 = k → ∀ x ∈ l, f k' x = some (p x)) : z6 k l f = some (l.any p) := by
 obtain ⟨k, rfl, hq⟩ := i8 hk
 simp only [z6, nu hq hn (fun k' e => hp k' (by omega)), Option.bind_some, fa]
theorem mi {k : Nat} {l : List (List (List a6))} {p : List (List a6) → Bool} {f : Nat → List (List a6) → Option Bool} (hk : l.length + 2 ≤ k) (hn : l.length ≤ maxLen) (hp : ∀ k', k' + 1 = k → ∀ x ∈ l, f k' x = some (p x)) : H5 k l f = some (pos l p) := by
 obtain ⟨k, rfl, hq⟩ := i8 hk
 exact J5 (hp k rfl) (L := fun m x => B1 k l f _ m x) (fun m x => rfl) rfl hn (by omega)
theorem jk {k : Nat} {l : List (List (List a6))} {p : List (List a6) → Bool} {f : Nat → List (List a6) → Option Bool} (hk : l.length + 3 ≤ k) (hn : l.length ≤ maxLen) (hp : ∀ k', k' + 2 = k → ∀ x ∈ l, f k' x = some (p x)) : w8 k l f = some (l.any p) := by
 obtain ⟨k, rfl, hq⟩ := i8 hk
 simp only [w8, mi hq hn (fun k' e => hp k' (by omega)), Option.bind_some, fa]
def fieldAt (x : b7) (s : Str) : Int := pos x.fFields (fun f => f.fName == s)
def R4 (x : b7) (t : a6) : Bool := decide (fieldAt x t.fField ≥ 0) && (decide (t.fOp ≥ 1) && (decide (t.fOp ≤ 6) && (match idx x.fFields (fieldAt x t.fField) with | some f => ((t.fValue.length : Int) == f.fBytes) | none => false)))
def aQ (x : b7) (g : List a6) : Bool := decide ((g.length : Int) < 1) || (decide ((g.length : Int) > 4) || g.any (fun t => !R4 x t))
def B3 (x : b7) (c : A5) : Bool := decide ((c.length : Int) ≤ 4) && !c.any (aQ x)
theorem jQ (x : b7) (s : Str) : fieldAt x s < (x.fFields.length : Int) := by
 unfold fieldAt
 rcases K4 x.fFields (fun f => f.fName == s) with ⟨_, h⟩ | ⟨j, h1, _, _, h⟩ <;> rw [h] <;> omega
theorem L7 {k : Nat} {b : a7} {t : Int} (hk : maxLen + 13 ≤ k) (hw : i1 b) : V9 k b t = some (u4 b [t]) := by
 obtain ⟨k, rfl, hq⟩ := i8 hk
 simp only [V9, nV hq hw, Option.bind_some, th]
 by_cases h : u4 b [t] = 0
 ·rw [h]; rfl
 ·have : (u4 b [t] != 0) = true := by simpa using h
  simp only [this, cond_true]
theorem W0 {k : Nat} {x : b7} {s : Str} (hk : maxLen + 4 ≤ k) (hx : x.fFields.length ≤ maxLen) : az k x s = some (fieldAt x s, decide (fieldAt x s ≥ 0)) := by
 obtain ⟨k, rfl, hq⟩ := i8 hk
 have : B4 k x.fFields (fun j x0 => Z3 j x0 s) = some (fieldAt x s) := by
  refine gN (by omega) hx (fun k' e f hf => ?_)
  obtain ⟨k', rfl, _⟩ := i8 (show 0 + 1 ≤ k' by omega)
  rfl
 simp only [az, this, Option.bind_some]
theorem cM {k : Nat} {x : b7} {t : a6} (hk : maxLen + 5 ≤ k) (hx : x.fFields.length ≤ maxLen) : aS k x t = some (R4 x t) := by
 obtain ⟨k, rfl, hq⟩ := i8 hk
 simp only [aS, W0 hq hx, Option.bind_some, R4]
 by_cases h : fieldAt x t.fField ≥ 0
 ·rw [decide_eq_true h, aR h (jQ x _)]
  cases decide (t.fOp ≥ 1) <;> cases decide (t.fOp ≤ 6) <;> rfl
 ·rw [decide_eq_false h]
  rfl
theorem bA {k : Nat} {x : b7} {g : List a6} (hk : maxLen + 9 ≤ k) (hx : x.fFields.length ≤ maxLen) (hg : g.length ≤ maxLen) : P6 k g x = some (aQ x g) := by
 obtain ⟨k, rfl, hq⟩ := i8 hk
 have : A0 k g (fun j x0 => N1 j x0 x) = some (g.any (fun t => !R4 x t)) := by
  refine kE (by omega) hg (fun k' e t _ => ?_)
  obtain ⟨k', rfl, hq'⟩ := i8 (show maxLen + 5 + 1 ≤ k' by omega)
  simp only [N1, cM hq' hx, Option.bind_some]
 simp only [P6, this, aQ]
 cases decide ((g.length : Int) < 1) <;> cases decide ((g.length : Int) > 4) <;> rfl
theorem L8 {k : Nat} {x : b7} {c : A5} (hk : maxLen + 13 ≤ k) (hx : x.fFields.length ≤ maxLen) (hc : wfL (wfL u3) c) : R5 k x c = some (B3 x c) := by
 obtain ⟨k, rfl, hq⟩ := i8 hk
 have : z6 k c (fun j x0 => P6 j x0 x) = some (c.any (aQ x)) :=
  jI (by have := hc.1; omega) hc.1 (fun k' e g hg => bA (by omega) hx (hc.2 g hg).1)
 simp only [R5, this, B3]
 cases decide ((c.length : Int) ≤ 4) <;> rfl
def vh : b7 := { fName := [], fParent := 0, fMin := 0, fSize := 0, fFields := [], fKey := 0, fUnique := false, fLast := false }
def X2 (b : a7) (t : Int) (cs : List A5) : b7 × Int := bif u4 b [t] != 0 then (vh, u4 b [t]) else match idx b.fTypes t with
 | some x => bif cs.any (fun c => !B3 x c) then (vh, 110) else (x, 0)
 | none => (vh, 0)
theorem dP {b : a7} {t : Int} (hw : i1 b) (h : u4 b [t] = 0) : ∃ x, idx b.fTypes t = some x ∧ D5 x ∧ y4 x = true ∧ 0 ≤ t ∧ t < (b.fTypes.length : Int) ∧ x ∈ b.fTypes := by
 obtain ⟨hv, hx⟩ := gb h
 have ht := hx t (by simp)
 have htl : t.toNat < b.fTypes.length := by omega
 exact ⟨_, aR ht.1 ht.2, hw.2.2.1.2 _ (List.getElem_mem htl), nL hv htl, ht.1, ht.2, List.getElem_mem htl⟩
theorem Q1 {k : Nat} {b : a7} {t : Int} {cs : List A5} (hk : maxLen + 18 ≤ k) (hw : i1 b) (hl : cs.length ≤ 10) (hc : ∀ c ∈ cs, wfL (wfL u3) c) : J9 k b t cs = some (X2 b t cs) := by
 have e63 := m0
 obtain ⟨k, rfl, hq⟩ := i8 hk
 simp only [J9, L7 (show maxLen + 13 ≤ k by omega) hw, Option.bind_some, X2]
 by_cases h : u4 b [t] = 0
 ·obtain ⟨x, hx, hwx, hok, _, _, _⟩ := dP hw h
  have : w8 k cs (fun j x0 => G1 j x0 x) = some (cs.any (fun c => !B3 x c)) := by
   refine jk (by omega) (by omega) (fun k' e c hcc => ?_)
   obtain ⟨k', rfl, hq'⟩ := i8 (show maxLen + 13 + 1 ≤ k' by omega)
   simp only [G1, L8 hq' hwx.2.2.2.2.1.1 (hc c hcc), Option.bind_some]
  simp only [h, bne_self_eq_false, cond_false, hx, Option.bind_some, this]
  cases cs.any (fun c => !B3 x c) <;> rfl
 ·have : (u4 b [t] != 0) = true := by simpa using h
  simp only [this, cond_true]
  rfl
theorem cU {k : Nat} {b : a7} {t : Int} {x : b7} {g : a6} (hk : maxLen + 12 ≤ k) (hw : i1 b) (h : u4 b [t] = 0) (hx : idx b.fTypes t = some x) : Y2 k b t g = some (R4 x g) := by
 obtain ⟨k, rfl, hq⟩ := i8 hk
 simp only [Y2, mF hq hw, Option.bind_some, qZ, h, bne_self_eq_false, cond_false, hx, R4]
 show _ = some (decide (fieldAt x g.fField ≥ 0) && _)
 change ((bif ((dl (fieldAt x g.fField)).2 == 0) then _ else _ : Option Bool).bind _) = _
 change ((bif ((dl (fieldAt x g.fField)).2 == 0) then (bif decide (g.fOp ≥ 1) then (bif decide (g.fOp ≤ 6) then ((idx x.fFields (dl (fieldAt x g.fField)).1).bind fun v4 => some ((g.fValue.length : Int) == v4.fBytes)) else some false) else some false) else some false : Option Bool).bind _) = _
 unfold dl
 by_cases hp : fieldAt x g.fField ≥ 0
 ·rw [decide_eq_true hp, decide_eq_false (show ¬ fieldAt x g.fField < 0 by omega), aR hp (jQ x _)]
  simp only [cond_false, beq_self_eq_true, cond_true, aR hp (jQ x _), Option.bind_some]
  cases decide (g.fOp ≥ 1) <;> cases decide (g.fOp ≤ 6) <;> rfl
 ·rw [decide_eq_false hp, decide_eq_true (show fieldAt x g.fField < 0 by omega)]
  rfl
theorem oC {k : Nat} {b : a7} {t : Int} {x : b7} {c : A5} {i m : Nat} {K : Option Bool} (hk : maxLen + 12 ≤ k) (hw : i1 b) (h : u4 b [t] = 0) (hx : idx b.fTypes t = some x) (hi : i < c.length) (hl : (c[i]).length ≤ maxLen) (hm : maxLen < m) :
  y5 k b t c (i : Int) (fun _ => K) m 0 = bif (c[i]).any (fun g => !R4 x g) then some false else K := by
 refine Eq.trans (S9 (L := fun m x => y5 k b t c (i : Int) (fun _ => K) m x) (n := (c[i]).length) (g := at' c[i] (fun g => !R4 x g)) (r := fun _ => some false) (z := K) ?_ ?_ (by omega)) ?_
 rotate_left 2
 ·rw [u7, hJ]
 ·intro m j hj _
  simp only [y5, n7 hi, n7 hj, t6 hj, Option.bind_some, l4 hj hl, show decide ((j : Int) < ((c[i]).length : Int)) = true by simp; exact hj, cond_true, cU hk hw h hx]
 ·intro m _
  simp only [y5, n7 hi, Option.bind_some, show decide (((c[i]).length : Int) < ((c[i]).length : Int)) = false by simp, cond_false]
theorem W4 {k : Nat} {b : a7} {t : Int} {x : b7} {c : A5} (hk : maxLen + 13 ≤ k) (hw : i1 b) (hc : wfL (wfL u3) c) (h : u4 b [t] = 0) (hx : idx b.fTypes t = some x) : H3 k b t c = some (B3 x c) := by
 obtain ⟨k, rfl, hq⟩ := i8 hk
 simp only [H3]
 refine Eq.trans (S9 (L := fun m x => A8 k b t c _ m x) (n := c.length) (g := at' c (aQ x)) (r := fun _ => some false) (z := some (decide ((c.length : Int) ≤ 4))) ?_ ?_ (by have := hc.1; omega)) ?_
 rotate_left 2
 ·rw [u7, hJ, B3]
  cases c.any (aQ x) <;> cases decide ((c.length : Int) ≤ 4) <;> rfl
 ·intro m i hi _
  simp only [A8, n7 hi, t6 hi, Option.bind_some, l4 hi hc.1, show decide ((i : Int) < (c.length : Int)) = true by simp; exact hi, cond_true, oC (m := k) hq hw h hx hi (hc.2 _ (List.getElem_mem hi)).1 (by omega), aQ]
  cases decide (((c[i]).length : Int) < 1) <;> cases decide (((c[i]).length : Int) > 4) <;> rfl
 ·intro m _
  simp only [A8, show decide ((c.length : Int) < (c.length : Int)) = false by simp, cond_false]
end Go.Sh

namespace Go.Sh
open Go.AE
set_option linter.unusedVariables false
set_option linter.unusedSimpArgs false
theorem pp {S β : Type} {n : Nat} {L : Nat → Int → S → Option β}
  (hs : ∀ m i s, i < n → (∃ r, L (m + 1) (i : Int) s = some r) ∨ ∃ s', L (m + 1) (i : Int) s = L m ((i + 1 : Nat) : Int) s')
  (he : ∀ m s, ∃ r, L (m + 1) (n : Int) s = some r) : ∀ d i m, i + d = n → d < m → ∀ s, ∃ r, L m (i : Int) s = some r
 | 0, i, m, hd, hm, s => by
  obtain ⟨m, rfl⟩ : ∃ q, m = q + 1 := ⟨m - 1, by omega⟩
  obtain rfl : i = n := by omega
  exact he m s
 | d + 1, i, m, hd, hm, s => by
  obtain ⟨m, rfl⟩ : ∃ q, m = q + 1 := ⟨m - 1, by omega⟩
  rcases hs m i s (by omega) with h | ⟨s', h⟩
  ·exact h
  ·rw [h]
   exact pp hs he d (i + 1) m (by omega) (by omega) s'
theorem bif3 {b1 b2 b3 : Bool} {β : Type} {f : Bool → Option β} : ((bif b1 then some true else (bif b2 then some true else some b3)).bind f) = f (b1 || (b2 || b3)) := by
 cases b1 <;> cases b2 <;> rfl
theorem uW {β : Type} {n : Nat} {L : Nat → Int → Option β} (hs : ∀ m i, i < n → (∃ r, L (m + 1) (i : Int) = some r) ∨ L (m + 1) (i : Int) = L m ((i + 1 : Nat) : Int)) (he : ∀ m, ∃ r, L (m + 1) (n : Int) = some r) {m : Nat} (hm : n < m) : ∃ r, L m 0 = some r :=
 pp (S := Unit) (L := fun m x _ => L m x) (fun m i _ hi => (hs m i hi).imp id (fun h => ⟨(), h⟩)) (fun m _ => he m) n 0 m (by omega) hm ()
theorem Ez {β : Type} {n : Nat} {L : Nat → Int → Option β} {K : Option β} (hs : ∀ m i, i < n → (∃ r, L (m + 1) (i : Int) = some r) ∨ L (m + 1) (i : Int) = L m ((i + 1 : Nat) : Int)) (he : ∀ m, (∃ r, L (m + 1) (n : Int) = some r) ∨ L (m + 1) (n : Int) = K) {m : Nat} (hm : n < m) : (∃ r, L m 0 = some r) ∨ L m 0 = K := by
 have : ∀ d i m, i + d = n → d < m → (∃ r, L m (i : Int) = some r) ∨ L m (i : Int) = K := by
  intro d
  induction d with
  | zero =>
   intro i m hd hm
   obtain ⟨m, rfl⟩ : ∃ q, m = q + 1 := ⟨m - 1, by omega⟩
   obtain rfl : i = n := by omega
   exact he m
  | succ d ih =>
   intro i m hd hm
   obtain ⟨m, rfl⟩ : ∃ q, m = q + 1 := ⟨m - 1, by omega⟩
   rcases hs m i (by omega) with h | h
   ·exact .inl h
   ·rw [h]; exact ih (i + 1) m (by omega) (by omega)
 exact this n 0 m (by omega) hm
theorem EE {b1 b2 : Bool} {β : Type} {f : Bool → Option β} : ((bif b1 then some true else some b2).bind f) = f (b1 || b2) := by
 cases b1 <;> rfl
theorem rM {β : Type} {b : Bool} {r : β} {x : Option β} : (∃ q, (bif b then some r else x) = some q) ∨ (bif b then some r else x) = x := by
 cases b
 ·exact .inr rfl
 ·exact .inl ⟨_, rfl⟩
theorem sH {k : Nat} {b : a7} (hk : maxLen + 2 ≤ k) (hw : i1 b) : ∃ r, ck k b = some r := by
 obtain ⟨k, rfl, hq⟩ := i8 (c := maxLen + 1) hk
 have hl := hw.2.2.1.1
 have hl3 := hw.2.2.2.1.1
 simp only [ck, bif3]
 cases decide ((b.fTypes.length : Int) > 20) || (decide ((b.fIndexes.length : Int) > 20) || decide ((b.fName.length : Int) > 40)) with
 | true => exact ⟨_, rfl⟩
 | false =>
  simp only [cond_false]
  refine uW (L := fun m x => L3 k b _ m x) (n := b.fTypes.length) ?_ ?_ (by omega)
  ·intro m i hi
   simp only [L3, n7 hi, Option.bind_some, l4 hi hl, show decide ((i : Int) < (b.fTypes.length : Int)) = true by simp; exact hi, cond_true, EE]
   cases decide (((b.fTypes[i]).fFields.length : Int) > 20) || decide (((b.fTypes[i]).fName.length : Int) > 40) with
   | true => exact .inl ⟨_, rfl⟩
   | false =>
    simp only [cond_false]
    have hlf := (hw.2.2.1.2 _ (List.getElem_mem hi)).2.2.2.2.1.1
    refine Ez (L := fun m x => L4 b (i : Int) _ m x) (n := (b.fTypes[i]).fFields.length) ?_ ?_ (by omega)
    ·intro m j hj
     simp only [L4, n7 hi, n7 hj, Option.bind_some, l4 hj hlf, show decide ((j : Int) < ((b.fTypes[i]).fFields.length : Int)) = true by simp; exact hj, cond_true]
     exact rM
    ·intro m
     simp only [L4, n7 hi, Option.bind_some, show decide (((b.fTypes[i]).fFields.length : Int) < ((b.fTypes[i]).fFields.length : Int)) = false by simp, cond_false]
     exact .inr trivial
  ·intro m
   simp only [L3, show decide ((b.fTypes.length : Int) < (b.fTypes.length : Int)) = false by simp, cond_false]
   refine uW (L := fun m x => L5 b _ m x) (n := b.fIndexes.length) ?_ ?_ (by omega)
   ·intro m i hi
    simp only [L5, n7 hi, Option.bind_some, l4 hi hl3, show decide ((i : Int) < (b.fIndexes.length : Int)) = true by simp; exact hi, cond_true, EE]
    exact rM
   ·intro m
    simp only [L5, show decide ((b.fIndexes.length : Int) < (b.fIndexes.length : Int)) = false by simp, cond_false]
    exact ⟨_, rfl⟩
theorem ue {k : Nat} {c : A5} (hk : maxLen + 2 ≤ k) (hc : wfL (wfL u3) c) : ∃ r, eb k c = some r := by
 obtain ⟨k, rfl, hq⟩ := i8 (c := maxLen + 1) hk
 simp only [eb]
 refine uW (L := fun m x => P3 k c _ m x) (n := c.length) ?_ ?_ (by have := hc.1; omega)
 ·intro m i hi
  simp only [P3, n7 hi, Option.bind_some, l4 hi hc.1, show decide ((i : Int) < (c.length : Int)) = true by simp; exact hi, cond_true]
  cases decide (((c[i]).length : Int) > 20) with
  | true => exact .inl ⟨_, rfl⟩
  | false =>
   simp only [cond_false]
   have hlf := (hc.2 _ (List.getElem_mem hi)).1
   refine Ez (L := fun m x => P4 c (i : Int) _ m x) (n := (c[i]).length) ?_ ?_ (by omega)
   ·intro m j hj
    simp only [P4, n7 hi, n7 hj, Option.bind_some, l4 hj hlf, show decide ((j : Int) < ((c[i]).length : Int)) = true by simp; exact hj, cond_true, EE]
    exact rM
   ·intro m
    simp only [P4, n7 hi, Option.bind_some, show decide (((c[i]).length : Int) < ((c[i]).length : Int)) = false by simp, cond_false]
    exact .inr trivial
 ·intro m
  simp only [P3, show decide ((c.length : Int) < (c.length : Int)) = false by simp, cond_false]
  exact ⟨_, rfl⟩
theorem F1 {l : Str} (h : l.length ≤ 1000) : wfS l := by
 have e63 := m0
 show l.length ≤ maxLen
 omega
theorem K6 {n : Int} (h : -1000 ≤ n) (h' : n ≤ 1000) : wfI .i64 n := by
 unfold wfI Lit.wf
 have e1 : IntKind.i64.min = -9223372036854775808 := by decide
 have e2 : IntKind.i64.max = 9223372036854775807 := by decide
 simp only [e1, e2, Bool.and_eq_true, decide_eq_true_eq]
 omega
end Go.Sh

namespace Go.Sh
open Go.AE
set_option linter.unusedVariables false
set_option linter.unusedSimpArgs false
theorem kD {x : b7} {c : A5} (h : B3 x c = true) : ∀ g ∈ c, ∀ t ∈ g, R4 x t = true := by
 intro g hg t ht
 unfold B3 at h
 simp only [Bool.and_eq_true, Bool.not_eq_true'] at h
 have h2 := h.2
 rw [List.any_eq_false] at h2
 have h3 := h2 g hg
 unfold aQ at h3
 simp only [Bool.or_eq_true, not_or, Bool.not_eq_true] at h3
 have h4 := h3.2.2
 rw [List.any_eq_false] at h4
 have := h4 t ht
 simpa using this
end Go.Sh

namespace Go.Sh
open Go.AE
set_option linter.unusedVariables false
set_option linter.unusedSimpArgs false
def tEq (t u : a6) : Bool := (t.fField == u.fField && (t.fOp == u.fOp && (t.fValue == u.fValue && true)))
def gNe (g h : List a6) (j : Nat) : Bool := match g[j]?, h[j]? with | some a, some b => !tEq a b | _, _ => true
def gEq (g h : List a6) : Bool := bif ((g.length : Int) != (h.length : Int)) then false else !P0 (gNe g h) g.length
def cNe (c d : A5) (j : Nat) : Bool := match c[j]?, d[j]? with | some a, some b => !gEq a b | _, _ => true
def cEq (c d : A5) : Bool := bif ((c.length : Int) != (d.length : Int)) then false else !P0 (cNe c d) c.length
theorem tU {g h : List a6} {j : Nat} (h1 : j < g.length) (h2 : j < h.length) : gNe g h j = !tEq g[j] h[j] := by
 unfold gNe; rw [List.getElem?_eq_getElem h1, List.getElem?_eq_getElem h2]
theorem tB {c d : A5} {j : Nat} (h1 : j < c.length) (h2 : j < d.length) : cNe c d j = !gEq c[j] d[j] := by
 unfold cNe; rw [List.getElem?_eq_getElem h1, List.getElem?_eq_getElem h2]
theorem mq {m n : Nat} (h : ((m : Int) != (n : Int)) = false) : m = n := Int.ofNat.inj (by simpa using h)
theorem yK (g : List a6) : gEq g g = true := by
 unfold gEq
 rw [bne_self_eq_false, cond_false]
 have : P0 (gNe g g) g.length = false := P1.2 (fun i hi => by rw [tU hi hi]; simp [tEq])
 rw [this]; rfl
theorem wu (c : A5) : cEq c c = true := by
 unfold cEq
 rw [bne_self_eq_false, cond_false]
 have : P0 (cNe c c) c.length = false := P1.2 (fun i hi => by rw [tB hi hi, yK]; rfl)
 rw [this]; rfl
theorem W7 {k : Nat} {g h : List a6} (hk : maxLen + 2 ≤ k) (hg : g.length ≤ maxLen) : E9 k g h = some (gEq g h) := by
 obtain ⟨k, rfl, hq⟩ := i8 (c := maxLen + 1) hk
 simp only [E9, gEq]
 cases hne : ((g.length : Int) != (h.length : Int)) with
 | true => rfl
 | false =>
  have hl := mq hne
  simp only [cond_false]
  refine Eq.trans (S9 (L := fun m x => A9 g h _ m x) (n := g.length) (g := gNe g h) (r := fun _ => some false) (z := some true) ?_ ?_ (by omega)) ?_
  rotate_left 2
  ·rw [u7]; cases P0 (gNe g h) g.length <;> rfl
  ·intro m i hi _
   simp only [A9, n7 hi, n7 (show i < h.length by omega), tU hi (show i < h.length by omega), Option.bind_some, l4 hi hg, show decide ((i : Int) < (g.length : Int)) = true by simp; exact hi, cond_true, tEq]
  ·intro m _
   simp only [A9, show decide ((g.length : Int) < (g.length : Int)) = false by simp, cond_false]
theorem fk {k : Nat} {c d : A5} (hk : maxLen + 6 ≤ k) (hc : wfL (wfL u3) c) : em k c d = some (cEq c d) := by
 obtain ⟨k, rfl, hq⟩ := i8 (c := maxLen + 5) hk
 obtain ⟨k, rfl, hq2⟩ := i8 (c := maxLen + 4) hq
 simp only [em, E8, cEq]
 cases hne : ((c.length : Int) != (d.length : Int)) with
 | true => rfl
 | false =>
  have hl := mq hne
  simp only [cond_false]
  have : o0 k c d (fun j x0 x1 => E9 j x0 x1) (fun y14 => some true) k 0 = some (!P0 (cNe c d) c.length) := by
   refine Eq.trans (S9 (L := fun m x => o0 k c d _ _ m x) (n := c.length) (g := cNe c d) (r := fun _ => some false) (z := some true) ?_ ?_ (by have := hc.1; omega)) ?_
   rotate_left 2
   ·rw [u7]; cases P0 (cNe c d) c.length <;> rfl
   ·intro m i hi _
    simp only [o0, n7 hi, n7 (show i < d.length by omega), tB hi (show i < d.length by omega), Option.bind_some, l4 hi hc.1, show decide ((i : Int) < (c.length : Int)) = true by simp; exact hi, cond_true, W7 (show maxLen + 2 ≤ k by omega) (hc.2 _ (List.getElem_mem hi)).1]
   ·intro m _
    simp only [o0, show decide ((c.length : Int) < (c.length : Int)) = false by simp, cond_false]
  rw [this]
  rfl
theorem Aw {c d : A5} {i m : Nat} {K : Option Bool} (h1 : i < c.length) (h2 : i < d.length) (hg : (c[i]).length ≤ maxLen) (he : (c[i]).length = (d[i]).length) (hm : maxLen < m) : J7 c d (i : Int) (fun _ => K) m 0 = bif P0 (gNe c[i] d[i]) (c[i]).length then some false else K := by
 refine Eq.trans (S9 (L := fun m x => J7 c d (i : Int) (fun _ => K) m x) (n := (c[i]).length) (g := gNe c[i] d[i]) (r := fun _ => some false) (z := K) ?_ ?_ (by omega)) ?_
 rotate_left 2
 ·rw [u7]
 ·intro m j hj _
  simp only [J7, n7 h1, n7 h2, n7 hj, n7 (show j < (d[i]).length by omega), tU hj (show j < (d[i]).length by omega), Option.bind_some, l4 hj hg, show decide ((j : Int) < ((c[i]).length : Int)) = true by simp; exact hj, cond_true, tEq]
 ·intro m _
  simp only [J7, n7 h1, Option.bind_some, show decide (((c[i]).length : Int) < ((c[i]).length : Int)) = false by simp, cond_false]
theorem fp {k : Nat} {c d : A5} (hk : maxLen + 3 ≤ k) (hc : wfL (wfL u3) c) : ex k c d = some (cEq c d) := by
 obtain ⟨k, rfl, hq⟩ := i8 (c := maxLen + 2) hk
 simp only [ex, cEq]
 cases hne : ((c.length : Int) != (d.length : Int)) with
 | true => rfl
 | false =>
  have hl := mq hne
  simp only [cond_false]
  refine Eq.trans (S9 (L := fun m x => P7 k c d _ m x) (n := c.length) (g := cNe c d) (r := fun _ => some false) (z := some true) ?_ ?_ (by have := hc.1; omega)) ?_
  rotate_left 2
  ·rw [u7]; cases P0 (cNe c d) c.length <;> rfl
  ·intro m i hi _
   have hd : i < d.length := by omega
   simp only [P7, n7 hi, n7 hd, tB hi hd, Option.bind_some, l4 hi hc.1, show decide ((i : Int) < (c.length : Int)) = true by simp; exact hi, cond_true, gEq]
   cases hne2 : (((c[i]).length : Int) != ((d[i]).length : Int)) with
   | true => rfl
   | false =>
    simp only [cond_false, Bool.not_not]
    exact Aw hi hd (hc.2 _ (List.getElem_mem hi)).1 (mq hne2) (by omega)
  ·intro m _
   simp only [P7, show decide ((c.length : Int) < (c.length : Int)) = false by simp, cond_false]
theorem rS {x : b7} {c : A5} (h : B3 x c = true) : c.length ≤ 4 ∧ ∀ g ∈ c, g.length ≤ 4 := by
 unfold B3 at h
 simp only [Bool.and_eq_true, Bool.not_eq_true', decide_eq_true_eq] at h
 refine ⟨by omega, fun g hg => ?_⟩
 have h2 := h.2
 rw [List.any_eq_false] at h2
 have h3 := h2 g hg
 unfold aQ at h3
 simp only [Bool.or_eq_true, not_or, Bool.not_eq_true, decide_eq_false_iff_not] at h3
 omega
end Go.Sh

namespace Go.Sh
open Go.AE
set_option linter.unusedVariables false
set_option linter.unusedSimpArgs false
def Z5 (s : Str) : Str := s ++ List.replicate (8 - s.length) 32
def C1 (op : Int) : Str := bif op == 1 then [61, 32] else bif op == 2 then [60, 62] else bif op == 3 then [60, 32] else bif op == 4 then [60, 61] else bif op == 5 then [62, 32] else [62, 61]
def F7 (t : a6) : Str := Z5 t.fField ++ (C1 t.fOp ++ t.fValue)
def T6 : List a6 → Str
 | [] => []
 | t :: r => 38 :: (F7 t ++ T6 r)
def F5 : List a6 → Str
 | [] => []
 | t :: r => F7 t ++ T6 r
def Z7 : A5 → Str
 | [] => []
 | g :: r => 124 :: (F5 g ++ Z7 r)
def S6 : A5 → Str
 | [] => []
 | g :: r => F5 g ++ Z7 r
theorem Q0 {a b : Str} (h : a.length + b.length ≤ p4) : cat a b = some (a ++ b) := by
 unfold cat; rw [if_pos h]
theorem je (op : Int) : (C1 op).length = 2 := by
 unfold C1
 cases op == 1 <;> cases op == 2 <;> cases op == 3 <;> cases op == 4 <;> cases op == 5 <;> rfl
theorem fN {s : Str} (h : s.length ≤ 8) : (Z5 s).length = 8 := by
 unfold Z5
 rw [List.length_append, List.length_replicate]
 omega
theorem Z4 {k : Nat} {op : Int} (hk : 1 ≤ k) (h1 : 1 ≤ op) (h6 : op ≤ 6) : ao k op = some (C1 op) := by
 obtain ⟨k, rfl, _⟩ := i8 (show 0 + 1 ≤ k by omega)
 rcases (show op = 1 ∨ op = 2 ∨ op = 3 ∨ op = 4 ∨ op = 5 ∨ op = 6 by omega) with rfl | rfl | rfl | rfl | rfl | rfl
 all_goals rfl
theorem fq {k : Nat} {op : Int} (hk : 1 ≤ k) : ey k op = some (C1 op) := by
 obtain ⟨k, rfl, _⟩ := i8 (show 0 + 1 ≤ k by omega)
 simp only [ey, C1]
 cases op == 1 <;> cases op == 2 <;> cases op == 3 <;> cases op == 4 <;> cases op == 5 <;> rfl
theorem vJ {s : Str} (h : s.length < 8) : Z5 (s ++ [32]) = Z5 s := by
 unfold Z5
 rw [List.length_append, List.length_singleton, List.append_assoc, show 8 - s.length = (8 - (s.length + 1)) + 1 by omega, List.replicate_succ]
 rfl
theorem qt {K : Str → Option Str} : ∀ (d : Nat) (s : Str) (m : Nat), 8 - s.length = d → d < m → s.length ≤ 1000000 → I1 K m s = K (Z5 s)
 | 0, s, m, hd, hm, hs => by
  obtain ⟨m, rfl⟩ : ∃ q, m = q + 1 := ⟨m - 1, by omega⟩
  have h0 : decide ((s.length : Int) < 8) = false := by simp; omega
  simp only [I1, h0, cond_false]
  unfold Z5
  rw [hd, List.replicate_zero, List.append_nil]
 | d + 1, s, m, hd, hm, hs => by
  obtain ⟨m, rfl⟩ : ∃ q, m = q + 1 := ⟨m - 1, by omega⟩
  have h0 : decide ((s.length : Int) < 8) = true := by simp; omega
  simp only [I1, h0, cond_true]
  rw [Q0 (by simp only [List.length_singleton, p4]; omega), Option.bind_some, qt d (s ++ [32]) m (by simp; omega) (by omega) (by simp; omega), vJ (by omega)]
theorem T4 {k : Nat} {s : Str} (hk : 10 ≤ k) (hs : s.length ≤ 1000000) : Y1 k s = some (Z5 s) := by
 obtain ⟨k, rfl, hq⟩ := i8 (show 9 + 1 ≤ k by omega)
 unfold Y1
 exact qt (8 - s.length) s k rfl (by omega) hs
theorem tX (c : UInt8) : ∀ (l : List Str) (a : Str), List.intercalate [c] (a :: l) = a ++ (l.map (c :: ·)).flatten
 | [], a => by simp [List.intercalate]
 | b :: l, a => by
  have ih := tX c l b
  simp only [List.intercalate, List.intersperse] at ih ⊢
  simp only [List.flatten_cons, List.map_cons, ih]
  simp
theorem qD : ∀ l : List a6, ((l.map F7).map (38 :: ·)).flatten = T6 l
 | [] => rfl
 | t :: l => by
  simp only [List.map_cons, List.flatten_cons, qD l, T6, List.cons_append]
theorem qw : ∀ c : A5, ((c.map F5).map (124 :: ·)).flatten = Z7 c
 | [] => rfl
 | g :: c => by
  simp only [List.map_cons, List.flatten_cons, qw c, Z7, List.cons_append]
theorem sD {l : List a6} (hl : l.length ≤ 1000000) (h : (F5 l).length ≤ 140737488355328) : jz (l.map F7) [38] = some (F5 l) := by
 have e : List.intercalate [38] (l.map F7) = F5 l := by
  cases l with
  | nil => rfl
  | cons t l => rw [List.map_cons, tX, qD]; rfl
 unfold jz
 rw [e, if_pos ⟨by simpa using hl, h⟩]
theorem tY {c : A5} (hl : c.length ≤ 1000000) (h : (S6 c).length ≤ 140737488355328) : jz (c.map F5) [124] = some (S6 c) := by
 have e : List.intercalate [124] (c.map F5) = S6 c := by
  cases c with
  | nil => rfl
  | cons g c => rw [List.map_cons, tX, qw]; rfl
 unfold jz
 rw [e, if_pos ⟨by simpa using hl, h⟩]
def au (t : a6) : Prop := t.fField.length ≤ 8 ∧ t.fValue.length ≤ 40 ∧ 1 ≤ t.fOp ∧ t.fOp ≤ 6
theorem jg {t : a6} (h : au t) : (F7 t).length = 10 + t.fValue.length := by
 unfold F7
 rw [List.length_append, List.length_append, fN h.1, je]
 omega
theorem qC : ∀ (l : List a6), (∀ t ∈ l, au t) → (T6 l).length ≤ 51 * l.length
 | [], _ => Nat.le_refl _
 | t :: l, h => by
  have h1 := qC l (fun u hu => h u (List.mem_cons_of_mem _ hu))
  have h2 := jg (h t (by simp))
  have h3 := (h t (by simp)).2.1
  simp only [T6, List.length_cons, List.length_append]
  omega
theorem jS (l : List a6) (h : ∀ t ∈ l, au t) : (F5 l).length ≤ 51 * l.length := by
 cases l with
 | nil => exact Nat.le_refl _
 | cons t l =>
  have h1 := qC l (fun u hu => h u (List.mem_cons_of_mem _ hu))
  have h2 := jg (h t (by simp))
  have h3 := (h t (by simp)).2.1
  simp only [F5, List.length_cons, List.length_append]
  omega
def ux (c : A5) : Prop := c.length ≤ 4 ∧ ∀ g ∈ c, g.length ≤ 4 ∧ ∀ t ∈ g, au t
theorem qv : ∀ (c : A5), (∀ g ∈ c, g.length ≤ 4 ∧ ∀ t ∈ g, au t) → (Z7 c).length ≤ 205 * c.length
 | [], _ => Nat.le_refl _
 | g :: c, h => by
  have h1 := qv c (fun u hu => h u (List.mem_cons_of_mem _ hu))
  have h2 := jS g (h g (by simp)).2
  have h3 := (h g (by simp)).1
  simp only [Z7, List.length_cons, List.length_append]
  omega
theorem lS {c : A5} (h : ux c) : (S6 c).length ≤ 1024 := by
 obtain ⟨h0, h⟩ := h
 cases c with
 | nil => exact Nat.zero_le _
 | cons g c =>
  have h1 := qv c (fun u hu => h u (List.mem_cons_of_mem _ hu))
  have h2 := jS g (h g (by simp)).2
  have h3 := (h g (by simp)).1
  simp only [S6, List.length_cons, List.length_append] at h0 ⊢
  omega
theorem sU {n : Nat} (h : n ≤ 8) : vP [32] (Go.IntKind.wrap .i64 (8 - (n : Int))) = some (List.replicate (8 - n) 32) := by
 rw [U7 (by omega) (by omega)]
 unfold vP
 rw [if_pos ⟨by omega, by omega, by simp⟩, show (8 - (n : Int)).toNat = 8 - n by omega]
 congr 1
 generalize 8 - n = m
 induction m with
 | zero => rfl
 | succ m ih => rw [List.replicate_succ, List.replicate_succ, List.flatten_cons, ih]; rfl
theorem yH {k : Nat} {g : List a6} {K : Int → List Str → Option (Str × Int)} {K' : List Str → Option (Str × Int)} (hK : ∀ z y, K z y = K' y) (hk : 2 ≤ k) (hg : g.length ≤ 1000) (hs : ∀ t ∈ g, au t) : ∀ (d i m : Nat), i + d = g.length → d < m → H9 k g K m (i : Int) ((g.take i).map F7) = K' (g.map F7)
 | 0, i, m, hd, hm => by
  obtain ⟨m, rfl⟩ : ∃ q, m = q + 1 := ⟨m - 1, by omega⟩
  obtain rfl : i = g.length := by omega
  simp only [H9, show decide ((g.length : Int) < (g.length : Int)) = false by simp, cond_false, List.take_length, hK]
 | d + 1, i, m, hd, hm => by
  have e63 := m0
  obtain ⟨m, rfl⟩ : ∃ q, m = q + 1 := ⟨m - 1, by omega⟩
  have hi : i < g.length := by omega
  have h := hs _ (List.getElem_mem hi)
  have hrep : strings_Repeat k [32] (Go.IntKind.wrap .i64 (8 - ((g[i]).fField.length : Int))) = some (List.replicate (8 - (g[i]).fField.length) 32) := by
   obtain ⟨k, rfl, _⟩ := i8 (show 1 + 1 ≤ k by omega)
   exact sU h.1
  have hp : (g[i]).fField ++ List.replicate (8 - (g[i]).fField.length) 32 = Z5 (g[i]).fField := rfl
  have hpl := fN h.1
  have hsl := je (g[i]).fOp
  simp only [H9, show decide ((i : Int) < (g.length : Int)) = true by simp; omega, cond_true, n7 hi, Option.bind_some, hrep, Z4 (show 1 ≤ k by omega) h.2.2.1 h.2.2.2]
  rw [Q0 (by simp only [List.length_replicate, p4]; have := h.1; omega), Option.bind_some, hp, Q0 (by simp only [hpl, hsl, p4]; omega), Option.bind_some, Q0 (by rw [List.length_append, hpl, hsl]; simp only [p4]; have := h.2.1; omega), Option.bind_some, aG (by simp only [List.length_map, List.length_take, List.length_singleton, p4]; omega), Option.bind_some, l4 hi (by omega)]
  have e : (g.take i).map F7 ++ [Z5 (g[i]).fField ++ C1 (g[i]).fOp ++ (g[i]).fValue] = (g.take (i + 1)).map F7 := by
   rw [List.take_succ_eq_append_getElem hi, List.map_append]
   simp only [List.map_cons, List.map_nil, F7, List.append_assoc]
  rw [e]
  exact yH hK hk hg hs d (i + 1) m (by omega) (by omega)
theorem yG {k : Nat} {c : A5} {K : List Str → Int → Option (Str × Int)} {K' : List Str → Option (Str × Int)} (hK : ∀ y z, K y z = K' y) (hk : 1000 ≤ k) (hc : ux c) : ∀ (d i m : Nat), i + d = c.length → d < m → F2 k c K m ((c.take i).map F5) (i : Int) = K' (c.map F5)
 | 0, i, m, hd, hm => by
  obtain ⟨m, rfl⟩ : ∃ q, m = q + 1 := ⟨m - 1, by omega⟩
  obtain rfl : i = c.length := by omega
  simp only [F2, show decide ((c.length : Int) < (c.length : Int)) = false by simp, cond_false, List.take_length, hK]
 | d + 1, i, m, hd, hm => by
  have e63 := m0
  obtain ⟨m, rfl⟩ : ∃ q, m = q + 1 := ⟨m - 1, by omega⟩
  have hi : i < c.length := by omega
  obtain ⟨hgl, hgt⟩ := hc.2 _ (List.getElem_mem hi)
  have hc1 := hc.1
  simp only [F2, show decide ((i : Int) < (c.length : Int)) = true by simp; omega, cond_true, n7 hi, Option.bind_some]
  have hjoin : strings_Join k ((c[i]).map F7) [38] = some (F5 c[i]) := by
   obtain ⟨k, rfl, _⟩ := i8 (show 0 + 1 ≤ k by omega)
   exact sD (by omega) (by have := jS _ hgt; omega)
  refine (yH (g := c[i]) (K' := fun y => ((strings_Join k y [38]).bind fun v56 => (app ((c.take i).map F5) [v56])).bind fun o58 => F2 k c K m o58 (Go.IntKind.wrap .i64 ((i : Int) + 1))) (fun z y => rfl) (by omega) (by omega) hgt (c[i]).length 0 k (by omega) (by omega)).trans ?_
  simp only [hjoin, Option.bind_some]
  rw [aG (by simp only [List.length_map, List.length_take, List.length_singleton, p4]; omega), Option.bind_some, l4 hi (by omega)]
  have e : (c.take i).map F5 ++ [F5 c[i]] = (c.take (i + 1)).map F5 := by
   rw [List.take_succ_eq_append_getElem hi, List.map_append]
   simp only [List.map_cons, List.map_nil]
  rw [e]
  exact yG hK hk hc d (i + 1) m (by omega) (by omega)
theorem kO {x : b7} (hok : y4 x = true) {j : Nat} (hj : j < x.fFields.length) : (x.fFields[j]).fName.length ≤ 8 ∧ C3 (x.fFields[j]).fName = true ∧ (x.fFields.take j).any (fun g => g.fName == (x.fFields[j]).fName) = false := by
 unfold y4 dX at hok
 simp only [Bool.and_eq_true, Bool.not_eq_true', Bool.or_eq_false_iff, Bool.not_eq_false', decide_eq_false_iff_not] at hok
 obtain ⟨⟨_, h1, h2, h3, h4, _⟩, _⟩ := hok
 have := P1.1 h4 j hj
 rw [S5, t6 hj] at this
 simp only [Bool.or_eq_false_iff, Bool.not_eq_false', decide_eq_false_iff_not] at this
 obtain ⟨⟨g0, _⟩, g5⟩ := this
 refine ⟨?_, g0, g5⟩
 unfold C3 at g0
 simp only [Bool.and_eq_true, decide_eq_true_eq] at g0
 omega
theorem lM {x : b7} {t : a6} (h : R4 x t = true) : ∃ j, ∃ hj : j < x.fFields.length, fieldAt x t.fField = (j : Int) ∧ (x.fFields[j]).fName = t.fField ∧ (t.fValue.length : Int) = (x.fFields[j]).fBytes ∧ 1 ≤ t.fOp ∧ t.fOp ≤ 6 := by
 unfold R4 at h
 simp only [Bool.and_eq_true, decide_eq_true_eq] at h
 obtain ⟨h1, h2, h3, h4⟩ := h
 rcases K4 x.fFields (fun f => f.fName == t.fField) with ⟨_, e⟩ | ⟨j, hj, hp, _, e⟩
 ·unfold fieldAt at h1; rw [e] at h1; omega
 ·have e' : fieldAt x t.fField = (j : Int) := e
  rw [e', n7 hj] at h4
  exact ⟨j, hj, e', eq_of_beq hp, by simpa using h4, h2, h3⟩
theorem bk {x : b7} (hok : y4 x = true) {t : a6} (h : R4 x t = true) : au t := by
 obtain ⟨j, hj, _, h1, h2, h3, h4⟩ := lM h
 have h5 := (kO hok hj).1
 have h6 := cf hok hj
 rw [h1] at h5
 exact ⟨h5, by omega, h3, h4⟩
theorem dt {x : b7} (hok : y4 x = true) {c : A5} (h : B3 x c = true) : ux c := by
 obtain ⟨h1, h2⟩ := rS h
 exact ⟨h1, fun g hg => ⟨h2 g hg, fun t ht => bk hok (kD h g hg t ht)⟩⟩
def aP (b : a7) (t : Int) (c : A5) : Str × Int := bif (X2 b t [c]).2 != 0 then ([], (X2 b t [c]).2) else (S6 c, 0)
theorem pT {b : a7} {t : Int} {c : A5} (hw : i1 b) : (∃ e, X2 b t [c] = (vh, e) ∧ (X2 b t [c, []]).2 = e ∧ (e != 0) = true) ∨ ∃ x, X2 b t [c] = (x, 0) ∧ (X2 b t [c, []]).2 = 0 ∧ idx b.fTypes t = some x ∧ u4 b [t] = 0 ∧ D5 x ∧ y4 x = true ∧ B3 x c = true := by
 unfold X2
 by_cases h : u4 b [t] = 0
 ·obtain ⟨x, hx, hwx, hok, _⟩ := dP hw h
  have hn : B3 x [] = true := rfl
  simp only [h, hx, bne_self_eq_false, cond_false, List.any_cons, List.any_nil, Bool.or_false, hn, Bool.not_true]
  cases h1 : B3 x c with
  | false => exact .inl ⟨110, rfl, rfl, rfl⟩
  | true => refine .inr ⟨x, ?_, ?_, ?_, ?_, hwx, hok, ?_⟩ <;> first | rfl | trivial | assumption
 ·have : (u4 b [t] != 0) = true := by simpa using h
  simp only [this, cond_true]
  exact .inl ⟨_, rfl, rfl, this⟩
theorem lb {k : Nat} {b : a7} {t : Int} {c : A5} (hk : maxLen + 20 ≤ k) (hw : i1 b) (hc : wfL (wfL u3) c) : E4 k b t c = some (aP b t c) := by
 have e63 := m0
 obtain ⟨k, rfl, hq⟩ := i8 (c := maxLen + 19) hk
 simp only [E4, Q1 (cs := [c]) (show maxLen + 18 ≤ k by omega) hw (by simp) (fun d hd => by simp at hd; subst hd; exact hc), Option.bind_some, aP]
 rcases pT (t := t) (c := c) hw with ⟨e, h1, _, h3⟩ | ⟨x, h1, _, hx, ha, hwx, hok, hco⟩
 ·rw [h1]
  simp only [h3, cond_true]
 ·rw [h1]
  have hs := dt hok hco
  have hs1 := hs.1
  have hl := lS hs
  simp only [bne_self_eq_false, cond_false]
  refine (yG (c := c) (K' := fun y => ((strings_Join k y [124]).bind fun v61 => some (v61, 0)).bind fun o62 => some (o62.1, o62.2)) (fun y z => rfl) (by omega) hs c.length 0 k (by omega) (by omega)).trans ?_
  obtain ⟨k, rfl, _⟩ := i8 (show 0 + 1 ≤ k by omega)
  show (((jz (c.map F5) [124]).bind fun v61 => some (v61, 0)).bind fun o62 => some (o62.1, o62.2)) = _
  rw [tY (by omega) (by omega)]
  rfl
end Go.Sh

namespace Go.Sh
open Go.AE
open Go.Lib (trimRightB)
set_option linter.unusedVariables false
set_option linter.unusedSimpArgs false
def opN (q : Str) : Int := bif C1 1 == q then 1 else bif C1 2 == q then 2 else bif C1 3 == q then 3 else bif C1 4 == q then 4 else bif C1 5 == q then 5 else bif C1 6 == q then 6 else 7
def sgn (s : Str) : Str := (s.take 10).drop 8
def Fr : a6 := { fField := [], fOp := 0, fValue := [] }
def U5 (x : b7) (s : Str) : Option (a6 × Str) :=
 bif decide ((s.length : Int) < 10) then none else match idx x.fFields (fieldAt x (trimRightB (s.take 8) 32)) with
 | none => none
 | some f => bif decide (opN (sgn s) > 6) then none else bif decide ((s.length : Int) < 10 + f.fBytes) then none else
  some ({ fField := trimRightB (s.take 8) 32, fOp := opN (sgn s), fValue := (s.drop 10).take f.fBytes.toNat }, s.drop (10 + f.fBytes.toNat))
def pm : Option (a6 × Str) → a6 × Str × Bool
 | none => (Fr, [], false)
 | some r => (r.1, r.2, true)
theorem mA (q : Str) : (opN q = 7 ∧ ∀ op : Int, 1 ≤ op → op ≤ 6 → C1 op ≠ q) ∨ (1 ≤ opN q ∧ opN q ≤ 6 ∧ C1 (opN q) = q) := by
 unfold opN
 cases h1 : C1 1 == q with
 | true => exact .inr ⟨show (1 : Int) ≤ 1 by decide, show (1 : Int) ≤ 6 by decide, eq_of_beq h1⟩
 | false =>
  cases h2 : C1 2 == q with
  | true => exact .inr ⟨show (1 : Int) ≤ 2 by decide, show (2 : Int) ≤ 6 by decide, eq_of_beq h2⟩
  | false =>
   cases h3 : C1 3 == q with
   | true => exact .inr ⟨show (1 : Int) ≤ 3 by decide, show (3 : Int) ≤ 6 by decide, eq_of_beq h3⟩
   | false =>
    cases h4 : C1 4 == q with
    | true => exact .inr ⟨show (1 : Int) ≤ 4 by decide, show (4 : Int) ≤ 6 by decide, eq_of_beq h4⟩
    | false =>
     cases h5 : C1 5 == q with
     | true => exact .inr ⟨show (1 : Int) ≤ 5 by decide, show (5 : Int) ≤ 6 by decide, eq_of_beq h5⟩
     | false =>
      cases h6 : C1 6 == q with
      | true => exact .inr ⟨show (1 : Int) ≤ 6 by decide, show (6 : Int) ≤ 6 by decide, eq_of_beq h6⟩
      | false =>
       refine .inl ⟨rfl, fun op g1 g6 e => ?_⟩
       rcases (show op = 1 ∨ op = 2 ∨ op = 3 ∨ op = 4 ∨ op = 5 ∨ op = 6 by omega) with rfl | rfl | rfl | rfl | rfl | rfl <;> simp_all
theorem za {op : Int} (h1 : 1 ≤ op) (h6 : op ≤ 6) : opN (C1 op) = op := by
 rcases (show op = 1 ∨ op = 2 ∨ op = 3 ∨ op = 4 ∨ op = 5 ∨ op = 6 by omega) with rfl | rfl | rfl | rfl | rfl | rfl <;> decide
theorem iT (l : Str) (c b : UInt8) : trimRightB (l ++ [b]) c = if b = c then trimRightB l c else l ++ [b] := by
 unfold trimRightB
 rw [List.reverse_append, List.reverse_singleton, List.singleton_append, List.dropWhile_cons]
 by_cases h : b = c
 ·rw [if_pos h, if_pos (by simp [h])]
 ·rw [if_neg h, if_neg (by simp [h]), List.reverse_cons, List.reverse_reverse]
theorem pq (l : Str) (c : UInt8) : ∀ n : Nat, trimRightB (l ++ List.replicate n c) c = trimRightB l c
 | 0 => by rw [List.replicate_zero, List.append_nil]
 | n + 1 => by rw [List.replicate_succ', ← List.append_assoc, iT, if_pos rfl, pq l c n]
theorem jh (c : UInt8) : ∀ (n : Nat) (l : Str), l.length = n → ∃ m, l = trimRightB l c ++ List.replicate m c
 | 0, l, h => by
  obtain rfl := List.eq_nil_of_length_eq_zero h
  exact ⟨0, rfl⟩
 | n + 1, l, h => by
  obtain ⟨i, b, rfl⟩ : ∃ i b, l = i ++ [b] := by
   rcases List.eq_nil_or_concat l with e | ⟨i, b, e⟩
   ·subst e; simp at h
   ·exact ⟨i, b, by simpa using e⟩
  rw [iT]
  split
  ·rename_i e
   subst e
   obtain ⟨m, hm⟩ := jh b n i (by simpa using h)
   refine ⟨m + 1, ?_⟩
   rw [List.replicate_succ', ← List.append_assoc, ← hm]
  ·exact ⟨0, by simp⟩
theorem mz {n : Str} (h : C3 n = true) (m : Nat) : trimRightB (n ++ List.replicate m 32) 32 = n := by
 rw [pq]
 obtain ⟨i, b, rfl⟩ : ∃ i b, n = i ++ [b] := by
  rcases List.eq_nil_or_concat n with e | ⟨i, b, e⟩
  ·subst e
   unfold C3 at h
   simp at h
  ·exact ⟨i, b, by simpa using e⟩
 rw [iT, if_neg]
 rintro rfl
 unfold C3 at h
 simp only [Bool.and_eq_true, Bool.not_eq_true'] at h
 have := P1.1 h.1 i.length (by simp)
 rw [wm, t6 (by simp)] at this
 simp at this
theorem sR {n p : Str} (h : C3 n = true) (h8 : n.length ≤ 8) (hp : p.length = 8) : (p == Z5 n) = (n == trimRightB p 32) := by
 rw [Bool.eq_iff_iff]
 constructor
 ·intro e
  have := eq_of_beq e
  subst this
  unfold Z5
  rw [mz h, beq_self_eq_true]
 ·intro e
  have e := eq_of_beq e
  obtain ⟨m, hm⟩ := jh 32 _ p rfl
  rw [← e] at hm
  have hl : p.length = n.length + m := by rw [hm]; simp
  have : Z5 n = p := by
   unfold Z5
   rw [hm, show 8 - n.length = m by omega]
  rw [this, beq_self_eq_true]
theorem ni {p : Str} (hp : p.length = 8) : Z5 (trimRightB p 32) = p := by
 obtain ⟨m, hm⟩ := jh 32 _ p rfl
 have hl : p.length = (trimRightB p 32).length + m := by rw [← List.length_replicate (n := m) (a := (32 : UInt8)), ← List.length_append, ← hm]
 unfold Z5
 rw [show 8 - (trimRightB p 32).length = m by omega, ← hm]
theorem du {α : Type} {l : List α} {i j : Nat} (h1 : i ≤ j) (h2 : j ≤ l.length) : cut l (i : Int) (j : Int) = some ((l.take j).drop i) := by
 unfold cut
 rw [if_pos ⟨by omega, by omega, by omega⟩, Int.toNat_natCast, Int.toNat_natCast]
theorem ca {α : Type} {l : List α} {i : Nat} (h : i ≤ l.length) : cut l (i : Int) (l.length : Int) = some (l.drop i) := by
 rw [du h (Nat.le_refl _), List.take_length]
theorem dN {k : Nat} {s : Str} {K : Int → Option (a6 × Str × Bool)} {m : Nat} {op : Int} (hk : 1 ≤ k) (hs : 10 ≤ s.length) (h1 : 1 ≤ op) (h6 : op ≤ 6) : G7 k s K (m + 1) op = bif C1 op == sgn s then K op else G7 k s K m (op + 1) := by
 have hc : cut s 8 10 = some (sgn s) := du (i := 8) (j := 10) (by omega) hs
 simp only [G7, show decide (op ≤ 6) = true by simpa using h6, cond_true, Z4 hk h1 h6, hc, Option.bind_some, U7 (show -9223372036854775808 ≤ op + 1 by omega) (show op + 1 ≤ 9223372036854775807 by omega)]
 cases C1 op == sgn s <;> rfl
theorem Ay {k : Nat} {s : Str} {K : Int → Option (a6 × Str × Bool)} {m : Nat} (hk : 1 ≤ k) (hs : 10 ≤ s.length) (hm : 8 ≤ m) : G7 k s K m 1 = K (opN (sgn s)) := by
 obtain ⟨m, rfl⟩ : ∃ q, m = q + 1 + 1 + 1 + 1 + 1 + 1 + 1 := ⟨m - 7, by omega⟩
 rw [dN hk hs (by decide) (by decide), show (1 : Int) + 1 = 2 by rfl, dN hk hs (by decide) (by decide), show (2 : Int) + 1 = 3 by rfl, dN hk hs (by decide) (by decide), show (3 : Int) + 1 = 4 by rfl, dN hk hs (by decide) (by decide), show (4 : Int) + 1 = 5 by rfl, dN hk hs (by decide) (by decide), show (5 : Int) + 1 = 6 by rfl, dN hk hs (by decide) (by decide), show (6 : Int) + 1 = 7 by rfl]
 have h7 : G7 k s K (m + 1) 7 = K 7 := rfl
 rw [h7]
 unfold opN
 cases C1 1 == sgn s <;> cases C1 2 == sgn s <;> cases C1 3 == sgn s <;> cases C1 4 == sgn s <;> cases C1 5 == sgn s <;> cases C1 6 == sgn s <;> rfl
theorem fl {k : Nat} {x : b7} {s : Str} (hk : maxLen + 6 ≤ k) (hok : y4 x = true) (hx : x.fFields.length ≤ maxLen) : en k x s = some (pm (U5 x s)) := by
 have e63 := m0
 obtain ⟨k, rfl, hq⟩ := i8 (c := maxLen + 5) hk
 unfold en U5
 by_cases h10 : s.length < 10
 ·have : decide ((s.length : Int) < 10) = true := by simp; omega
  simp only [this, cond_true]
  rfl
 have hd : decide ((s.length : Int) < 10) = false := by simp; omega
 have hcut : cut s 0 8 = some (s.take 8) := by
  have := du (l := s) (i := 0) (j := 8) (by omega) (by omega)
  simpa using this
 have htrim : F0 k (s.take 8) [32] = some (trimRightB (s.take 8) 32) := by
  obtain ⟨k, rfl, _⟩ := i8 (show 0 + 1 ≤ k by omega)
  simp only [F0, qF]
  rw [if_pos ⟨by decide, by rw [List.length_take]; omega⟩]
 simp only [hd, cond_false, hcut, Option.bind_some, htrim]
 rw [Ay (show 1 ≤ k by omega) (by omega) (by omega), W0 (show maxLen + 4 ≤ k by omega) hx]
 generalize hn : trimRightB (s.take 8) 32 = name
 rcases K4 x.fFields (fun f => f.fName == name) with ⟨_, e⟩ | ⟨j, hj, hp, _, e⟩
 ·have e' : fieldAt x name = -1 := e
  rw [e']
  rfl
 have e' : fieldAt x name = (j : Int) := e
 rw [e']
 have hge : decide ((j : Int) ≥ 0) = true := by simp
 simp only [Option.bind_some, hge, Bool.not_true, cond_false, n7 hj]
 rcases mA (sgn s) with ⟨e7, _⟩ | ⟨_, h6, _⟩
 ·rw [e7]
  rfl
 have h6' : decide (opN (sgn s) > 6) = false := by simpa using h6
 have hf := cf hok hj
 obtain ⟨n, hn2⟩ : ∃ n : Nat, (x.fFields[j]).fBytes = (n : Int) := ⟨(x.fFields[j]).fBytes.toNat, (Int.toNat_of_nonneg (by omega)).symm⟩
 have hc10 : cut s 10 (s.length : Int) = some (s.drop 10) := ca (i := 10) (by omega)
 have hdl : (s.drop 10).length = s.length - 10 := List.length_drop
 simp only [h6', cond_false, hc10, Option.bind_some, hn2, Int.toNat_natCast]
 by_cases hlen : s.length < 10 + n
 ·have h1 : decide (((s.drop 10).length : Int) < (n : Int)) = true := by simp; omega
  have h2 : decide ((s.length : Int) < 10 + (n : Int)) = true := by simp; omega
  simp only [h1, h2, cond_true]
  rfl
 ·have h1 : decide (((s.drop 10).length : Int) < (n : Int)) = false := by simp; omega
  have h2 : decide ((s.length : Int) < 10 + (n : Int)) = false := by simp; omega
  simp only [h1, h2, cond_false, ij (show n ≤ (s.drop 10).length by omega), ca (show n ≤ (s.drop 10).length by omega), Option.bind_some, List.drop_drop]
  rfl
def pE (s : Str) (f : d6) : Bool := decide (10 + f.fBytes ≤ (s.length : Int)) && (s.take 8 == Z5 f.fName)
theorem Fo {s p z : Str} (hs : 10 ≤ s.length) (hp : p.length = 8) : (s.take 10 == p ++ z) = (s.take 8 == p && z == sgn s) := by
 have e : s.take 10 = s.take 8 ++ sgn s := by
  have := (List.take_append_drop 8 (s.take 10)).symm
  rw [List.take_take] at this
  exact this
 rw [Bool.eq_iff_iff]
 constructor
 ·intro h
  have h := eq_of_beq h
  rw [e] at h
  obtain ⟨h1, h2⟩ := List.append_inj h (by rw [hp, List.length_take]; omega)
  rw [h1, h2]
  simp
 ·intro h
  rw [Bool.and_eq_true] at h
  rw [e, eq_of_beq h.1, eq_of_beq h.2, beq_self_eq_true]
def me (s : Str) (f : d6) (op : Int) : a6 × Str × Bool := ({ fField := f.fName, fOp := op, fValue := (s.drop 10).take f.fBytes.toNat }, s.drop (10 + f.fBytes.toNat), true)
theorem bt {k : Nat} {s : Str} {f : d6} {K : Int → Option (a6 × Str × Bool)} {m : Nat} {op : Int} (hk : 10 ≤ k) (hl : s.length ≤ maxLen) (h8 : f.fName.length ≤ 8) (hb : 1 ≤ f.fBytes) (hb2 : f.fBytes ≤ 40) (h1 : 1 ≤ op) (h6 : op ≤ 6) :
  E6 k s f K (m + 1) op = bif pE s f && (C1 op == sgn s) then some (me s f op) else E6 k s f K m (op + 1) := by
 have e63 := m0
 have hpl := fN h8
 have hsl := je op
 have hol : (Z5 f.fName ++ C1 op).length = 10 := by rw [List.length_append, hpl, hsl]
 obtain ⟨n, hn⟩ : ∃ n : Nat, f.fBytes = (n : Int) := ⟨f.fBytes.toNat, (Int.toNat_of_nonneg (by omega)).symm⟩
 simp only [E6, show decide (op ≤ 6) = true by simpa using h6, cond_true, T4 hk (show f.fName.length ≤ 1000000 by omega), fq (show 1 ≤ k by omega), Option.bind_some]
 rw [Q0 (by rw [hpl, hsl]; simp only [p4]; omega)]
 simp only [Option.bind_some, hol, pE, hn, U7 (show -9223372036854775808 ≤ ((10 : Nat) : Int) + (n : Int) by omega) (show ((10 : Nat) : Int) + (n : Int) ≤ 9223372036854775807 by omega), U7 (show -9223372036854775808 ≤ op + 1 by omega) (show op + 1 ≤ 9223372036854775807 by omega), me, Int.toNat_natCast]
 by_cases hlen : 10 + n ≤ s.length
 ·have d1 : decide ((s.length : Int) ≥ ((10 : Nat) : Int) + (n : Int)) = true := by simp; omega
  have d2 : decide (10 + (n : Int) ≤ (s.length : Int)) = true := by simp; omega
  have hcut : cut s 0 ((10 : Nat) : Int) = some (s.take 10) := ij (by omega)
  have hc2 : cut s ((10 : Nat) : Int) (((10 : Nat) : Int) + (n : Int)) = some ((s.drop 10).take n) := by
   have := du (l := s) (i := 10) (j := 10 + n) (by omega) hlen
   rw [Int.natCast_add] at this
   rw [this, List.drop_take, show 10 + n - 10 = n by omega]
  have hc3 : cut s (((10 : Nat) : Int) + (n : Int)) (s.length : Int) = some (s.drop (10 + n)) := by
   have := ca (l := s) (i := 10 + n) hlen
   rw [Int.natCast_add] at this
   exact this
  simp only [d1, d2, cond_true, hcut, Option.bind_some, Fo (show 10 ≤ s.length by omega) hpl, hc2, hc3, Bool.true_and]
 ·have d1 : decide ((s.length : Int) ≥ ((10 : Nat) : Int) + (n : Int)) = false := by simp; omega
  have d2 : decide (10 + (n : Int) ≤ (s.length : Int)) = false := by simp; omega
  simp only [d1, d2, cond_false, Option.bind_some, Bool.false_and]
theorem yJ {k : Nat} {s : Str} {f : d6} {K : Int → Option (a6 × Str × Bool)} {m : Nat} (hk : 10 ≤ k) (hl : s.length ≤ maxLen) (h8 : f.fName.length ≤ 8) (hb : 1 ≤ f.fBytes) (hb2 : f.fBytes ≤ 40) (hm : 8 ≤ m) :
  E6 k s f K m 1 = bif pE s f && decide (opN (sgn s) ≤ 6) then some (me s f (opN (sgn s))) else K 7 := by
 obtain ⟨m, rfl⟩ : ∃ q, m = q + 1 + 1 + 1 + 1 + 1 + 1 + 1 := ⟨m - 7, by omega⟩
 rw [bt hk hl h8 hb hb2 (by decide) (by decide), show (1 : Int) + 1 = 2 by rfl, bt hk hl h8 hb hb2 (by decide) (by decide), show (2 : Int) + 1 = 3 by rfl, bt hk hl h8 hb hb2 (by decide) (by decide), show (3 : Int) + 1 = 4 by rfl, bt hk hl h8 hb hb2 (by decide) (by decide), show (4 : Int) + 1 = 5 by rfl, bt hk hl h8 hb hb2 (by decide) (by decide), show (5 : Int) + 1 = 6 by rfl, bt hk hl h8 hb hb2 (by decide) (by decide), show (6 : Int) + 1 = 7 by rfl]
 have h7 : E6 k s f K (m + 1) 7 = K 7 := rfl
 rw [h7]
 unfold opN
 cases pE s f <;> cases C1 1 == sgn s <;> cases C1 2 == sgn s <;> cases C1 3 == sgn s <;> cases C1 4 == sgn s <;> cases C1 5 == sgn s <;> cases C1 6 == sgn s <;> rfl
theorem ew {k : Nat} {b : a7} {t : Int} {x : b7} {s : Str} (hk : maxLen + 6 ≤ k) (hi : idx b.fTypes t = some x) (hok : y4 x = true) (hx : x.fFields.length ≤ maxLen) (hl : s.length ≤ maxLen) : cp k b t s = some (pm (U5 x s)) := by
 have e63 := m0
 obtain ⟨k, rfl, hq⟩ := i8 (c := maxLen + 5) hk
 unfold cp
 refine Eq.trans (S9 (L := fun m i => M2 k b t s (fun y52 => some (({ fField := [], fOp := 0, fValue := [] } : a6), ([] : Str), false)) m i) (n := x.fFields.length) (g := at' x.fFields fun f => pE s f && decide (opN (sgn s) ≤ 6)) (r := fun i => match x.fFields[i]? with | some f => some (me s f (opN (sgn s))) | none => none) (z := some (pm none)) ?_ ?_ (by omega)) ?_
 ·intro m i hlt _
  obtain ⟨h8, _, _⟩ := kO hok hlt
  have hf := cf hok hlt
  simp only [M2, hi, Option.bind_some, n7 hlt, show decide ((i : Int) < (x.fFields.length : Int)) = true by simp; omega, cond_true, yJ (show 10 ≤ k by omega) hl h8 hf.2.1 (show (x.fFields[i]).fBytes ≤ 40 by omega) (show 8 ≤ k by omega), t6 hlt, l4 hlt hx, List.getElem?_eq_getElem hlt]
 ·intro m _
  simp only [M2, hi, Option.bind_some, show decide ((x.fFields.length : Int) < (x.fFields.length : Int)) = false by simp, cond_false]
  rfl
 -- the same place
 unfold U5
 by_cases h10 : s.length < 10
 ·have : decide ((s.length : Int) < 10) = true := by simp; omega
  rw [this, cond_true]
  refine aq _ _ (fun j _ hj => ?_)
  have hjl : j < x.fFields.length := by omega
  have hf := cf hok hjl
  rw [t6 hjl]
  have : decide (10 + (x.fFields[j]).fBytes ≤ (s.length : Int)) = false := by simp; omega
  rw [pE, this]
  rfl
 have hd : decide ((s.length : Int) < 10) = false := by simp; omega
 rw [hd, cond_false]
 have hit : ∀ j (hj : j < x.fFields.length), pE s x.fFields[j] = (decide (10 + (x.fFields[j]).fBytes ≤ (s.length : Int)) && ((x.fFields[j]).fName == trimRightB (s.take 8) 32)) := by
  intro j hj
  obtain ⟨h8, hno, _⟩ := kO hok hj
  rw [pE, sR hno h8 (by rw [List.length_take]; omega)]
 generalize hn : trimRightB (s.take 8) 32 = name at hit
 rcases K4 x.fFields (fun f => f.fName == name) with ⟨hall, e⟩ | ⟨j, hj, hp, hbef, e⟩
 ·have e' : fieldAt x name = -1 := e
  rw [e']
  refine aq _ _ (fun j _ hj => ?_)
  have hjl : j < x.fFields.length := by omega
  rw [t6 hjl, hit j hjl, hall j hjl]
  simp
 have e' : fieldAt x name = (j : Int) := e
 rw [e', n7 hj]
 have hother : ∀ i (hi : i < x.fFields.length), i ≠ j → ((x.fFields[i]).fName == name) = false := by
  intro i hi hne
  rcases Nat.lt_or_ge i j with h | h
  ·exact hbef i hi h
  ·obtain ⟨_, _, hany⟩ := kO hok hi
   rw [List.any_eq_false] at hany
   have := hany x.fFields[j] (by rw [List.mem_take_iff_getElem]; exact ⟨j, by omega, rfl⟩)
   have hpj := eq_of_beq hp
   refine beq_eq_false_iff_ne.2 fun e2 => this ?_
   rw [hpj, e2, beq_self_eq_true]
 have hf := cf hok hj
 rcases mA (sgn s) with ⟨e7, _⟩ | ⟨_, h6, _⟩
 ·rw [e7]
  refine aq _ _ (fun i _ hi => ?_)
  have hil : i < x.fFields.length := by omega
  rw [t6 hil]
  simp
 have h6' : decide (opN (sgn s) > 6) = false := by simpa using h6
 have h6'' : decide (opN (sgn s) ≤ 6) = true := by simpa using h6
 simp only [h6', cond_false]
 by_cases hlen : (s.length : Int) < 10 + (x.fFields[j]).fBytes
 ·have d1 : decide ((s.length : Int) < 10 + (x.fFields[j]).fBytes) = true := by simpa using hlen
  rw [d1, cond_true]
  refine aq _ _ (fun i _ hi => ?_)
  have hil : i < x.fFields.length := by omega
  rw [t6 hil, hit i hil]
  by_cases e2 : i = j
  ·subst e2
   have : decide (10 + (x.fFields[i]).fBytes ≤ (s.length : Int)) = false := by simp; omega
   rw [this]
   rfl
  ·rw [hother i hil e2]
   simp
 ·have d1 : decide ((s.length : Int) < 10 + (x.fFields[j]).fBytes) = false := by simpa using hlen
  rw [d1, cond_false]
  have hgj : at' x.fFields (fun f => pE s f && decide (opN (sgn s) ≤ 6)) j = true := by
   rw [t6 hj, hit j hj, h6'', hp]
   have : decide (10 + (x.fFields[j]).fBytes ≤ (s.length : Int)) = true := by simp; omega
   rw [this]
   rfl
  rcases gE (at' x.fFields fun f => pE s f && decide (opN (sgn s) ≤ 6)) (fun i => match x.fFields[i]? with | some f => some (me s f (opN (sgn s))) | none => none) (some (pm none)) x.fFields.length 0 with ⟨g1, _⟩ | ⟨i, _, g2, g3, _, g4⟩
  ·rw [g1 j (by omega) (by omega)] at hgj; cases hgj
  ·have hil : i < x.fFields.length := by omega
   have hij : i = j := by
    by_cases e2 : i = j
    ·exact e2
    ·rw [t6 hil, hit i hil, hother i hil e2] at g3
     simp at g3
   subst hij
   rw [g4, List.getElem?_eq_getElem hil]
   simp only [me, pm, eq_of_beq hp]
end Go.Sh

namespace Go.Sh
open Go.AE
open Go.Lib (trimRightB)
set_option linter.unusedVariables false
set_option linter.unusedSimpArgs false
def U6 (x : b7) : Nat → Str → List a6 → A5 → Option A5
 | 0, _, _, _ => none
 | n + 1, s, g, out => match U5 x s with
  | none => none
  | some (t, r) => match r with
   | [] => some (out ++ [g ++ [t]])
   | c :: r => bif c == 38 then U6 x n r (g ++ [t]) out else bif c == 124 then U6 x n r [] (out ++ [g ++ [t]]) else none
def rz (x : b7) : Option A5 → A5 × Int
 | none => ([], 3)
 | some c => bif B3 x c then (c, 0) else ([], 3)
def ag (b : a7) (t : Int) (s : Str) : A5 × Int := bif u4 b [t] != 0 then ([], u4 b [t]) else match idx b.fTypes t with
 | none => ([], 0)
 | some x => bif s == [] then ([], 0) else rz x (U6 x (s.length + 1) s [] [])
theorem Ax {s : Str} : s.take 10 = s.take 8 ++ sgn s := by
 have := (List.take_append_drop 8 (s.take 10)).symm
 rw [List.take_take] at this
 exact this
theorem gn {x : b7} {s r : Str} {t : a6} (hok : y4 x = true) (h : U5 x s = some (t, r)) : s = F7 t ++ r ∧ R4 x t = true ∧ r.length + 11 ≤ s.length := by
 unfold U5 at h
 by_cases h10 : s.length < 10
 ·have : decide ((s.length : Int) < 10) = true := by simp; omega
  rw [this] at h
  cases h
 have hd : decide ((s.length : Int) < 10) = false := by simp; omega
 rw [hd, cond_false] at h
 have h8 : (s.take 8).length = 8 := by rw [List.length_take]; omega
 have hpad := ni h8
 generalize trimRightB (s.take 8) 32 = name at h hpad
 rcases K4 x.fFields (fun f => f.fName == name) with ⟨_, e⟩ | ⟨j, hj, hp, _, e⟩
 ·have e' : fieldAt x name = -1 := e
  rw [e'] at h
  cases h
 have e' : fieldAt x name = (j : Int) := e
 rw [e', n7 hj] at h
 simp only at h
 rcases mA (sgn s) with ⟨e7, _⟩ | ⟨h1, h6, hs⟩
 ·rw [e7] at h
  cases h
 have h6' : decide (opN (sgn s) > 6) = false := by simpa using h6
 rw [h6', cond_false] at h
 have hf := cf hok hj
 obtain ⟨n, hn⟩ : ∃ n : Nat, (x.fFields[j]).fBytes = (n : Int) := ⟨(x.fFields[j]).fBytes.toNat, (Int.toNat_of_nonneg (by omega)).symm⟩
 rw [hn] at h
 by_cases hlen : s.length < 10 + n
 ·have : decide ((s.length : Int) < 10 + (n : Int)) = true := by simp; omega
  rw [this] at h
  cases h
 have hl : decide ((s.length : Int) < 10 + (n : Int)) = false := by simp; omega
 rw [hl, cond_false, Int.toNat_natCast] at h
 obtain ⟨rfl, rfl⟩ := Prod.mk.inj (Option.some.inj h)
 refine ⟨?_, ?_, ?_⟩
 ·simp only [F7, hpad, hs]
  rw [← List.append_assoc (s.take 8), ← Ax, List.append_assoc, ← List.drop_drop, List.take_append_drop, List.take_append_drop]
 ·unfold R4
  simp only [e', n7 hj, hn, List.length_take, List.length_drop, Bool.and_eq_true, decide_eq_true_eq]
  refine ⟨by omega, h1, h6, ?_⟩
  rw [Nat.min_eq_left (by omega), beq_self_eq_true]
 ·rw [List.length_drop]
  omega
theorem V1 {x : b7} {t : a6} (r : Str) (hok : y4 x = true) (h : R4 x t = true) : U5 x (F7 t ++ r) = some (t, r) := by
 obtain ⟨j, hj, e, h1, h2, h3, h4⟩ := lM h
 obtain ⟨h8, hno, _⟩ := kO hok hj
 rw [h1] at h8 hno
 have hpl := fN h8
 have hsl := je t.fOp
 have hlen : (F7 t ++ r).length = 10 + t.fValue.length + r.length := by
  unfold F7
  simp only [List.length_append, hpl, hsl]
  omega
 have ha : F7 t ++ r = Z5 t.fField ++ (C1 t.fOp ++ (t.fValue ++ r)) := by simp only [F7, List.append_assoc]
 have hb : F7 t ++ r = (Z5 t.fField ++ C1 t.fOp) ++ (t.fValue ++ r) := by simp only [F7, List.append_assoc]
 have hc : F7 t ++ r = ((Z5 t.fField ++ C1 t.fOp) ++ t.fValue) ++ r := by simp only [F7, List.append_assoc]
 have t8 : (F7 t ++ r).take 8 = Z5 t.fField := by rw [ha]; exact List.take_left' hpl
 have hpsl : (Z5 t.fField ++ C1 t.fOp).length = 10 := by rw [List.length_append, hpl, hsl]
 have t10 : (F7 t ++ r).take 10 = Z5 t.fField ++ C1 t.fOp := by rw [hb]; exact List.take_left' hpsl
 have hsg : sgn (F7 t ++ r) = C1 t.fOp := by unfold sgn; rw [t10]; exact List.drop_left' hpl
 have d10 : (F7 t ++ r).drop 10 = t.fValue ++ r := by rw [hb]; exact List.drop_left' hpsl
 have hname : trimRightB (Z5 t.fField) 32 = t.fField := mz hno _
 unfold U5
 have hd : decide (((F7 t ++ r).length : Int) < 10) = false := by rw [hlen]; simp; omega
 rw [hd, cond_false, t8, hname, e, n7 hj, hsg, za h3 h4]
 have hd2 : decide (((F7 t ++ r).length : Int) < 10 + (t.fValue.length : Int)) = false := by rw [hlen]; simp; omega
 have hd3 : decide (t.fOp > 6) = false := by simpa using h4
 simp only [hd2, hd3, cond_false, ← h2, Int.toNat_natCast, d10, List.take_left]
 rw [← List.drop_drop, d10, List.drop_left]
def qa (c : A5) : Prop := ∀ h ∈ c, h.length ≤ 1000000 ∧ ∀ u ∈ h, au u
theorem ot {out : A5} {g : List a6} (h : qa out) (hg : g.length ≤ 1000000) (hs : ∀ u ∈ g, au u) : qa (out ++ [g]) := by
 intro q hq
 rcases List.mem_append.1 hq with hq | hq
 ·exact h q hq
 ·rw [List.mem_singleton] at hq
  subst hq
  exact ⟨hg, hs⟩
theorem qy {g : List a6} {t : a6} (hs : ∀ u ∈ g, au u) (ht : au t) : ∀ u ∈ g ++ [t], au u := by
 intro u hu
 rcases List.mem_append.1 hu with hu | hu
 ·exact hs u hu
 ·rw [List.mem_singleton] at hu
  subst hu
  exact ht
theorem gA {x : b7} (hok : y4 x = true) : ∀ (n : Nat) (s : Str) (g : List a6) (out c : A5), U6 x n s g out = some c → s.length + g.length + out.length ≤ 1000000 → qa out → (∀ u ∈ g, au u) → qa c ∧ c.length ≤ 1000000
 | 0, s, g, out, c, h, _, _, _ => by cases h
 | n + 1, s, g, out, c, h, hb, ho, hg => by
  unfold U6 at h
  cases hf : U5 x s with
  | none => rw [hf] at h; cases h
  | some q =>
   obtain ⟨t, r⟩ := q
   obtain ⟨_, h2, h3⟩ := gn hok hf
   have ht := bk hok h2
   have hg' := qy hg ht
   rw [hf] at h
   simp only at h
   cases r with
   | nil =>
    obtain rfl := Option.some.inj h
    exact ⟨ot ho (by simp; omega) hg', by simp; omega⟩
   | cons a r =>
    simp only [List.length_cons] at h3
    simp only at h
    cases h38 : a == 38 with
    | true =>
     rw [h38, cond_true] at h
     exact gA hok n r _ out c h (by simp; omega) ho hg'
    | false =>
     rw [h38, cond_false] at h
     cases h124 : a == 124 with
     | true =>
      rw [h124, cond_true] at h
      exact gA hok n r [] _ c h (by simp; omega) (ot ho (by simp; omega) hg') (by simp)
     | false => rw [h124] at h; cases h
theorem zK {t : a6} (h : au t) : u3 t := ⟨F1 (by have := h.1; omega), K6 (by have := h.2.2.1; omega) (by have := h.2.2.2; omega), F1 (by have := h.2.1; omega), trivial⟩
theorem nK {c : A5} (h : qa c) (hl : c.length ≤ 1000000) : wfL (wfL u3) c := by
 have e63 := m0
 exact ⟨by omega, fun g hg => ⟨by have := (h g hg).1; omega, fun u hu => zK ((h g hg).2 u hu)⟩⟩
theorem kB (c n : UInt8) : (((c.toNat : Int)) == (n.toNat : Int)) = (c == n) := by
 by_cases h : c = n
 ·subst h; simp
 ·rw [beq_eq_false_iff_ne.2 h]
  refine beq_eq_false_iff_ne.2 fun hq => h ?_
  apply UInt8.toNat_inj.1
  omega
theorem wt (c : UInt8) : ((c.toNat : Int) == 38) = (c == 38) := kB c 38
theorem uN (c : UInt8) : ((c.toNat : Int) == 124) = (c == 124) := kB c 124
theorem dJ (c : UInt8) (r : Str) : G0 (c :: r) 0 = some (c.toNat : Int) := rfl
theorem kG (c : UInt8) (r : Str) : cut (c :: r) 1 ((c :: r).length : Int) = some r := ca (l := c :: r) (i := 1) (by simp)
theorem oR {k : Nat} {b : a7} {t : Int} {x : b7} {K : Str → A5 → Option (A5 × Int)} (hk : maxLen + 6 ≤ k) (hi : idx b.fTypes t = some x) (hok : y4 x = true) (hx : x.fFields.length ≤ maxLen) :
  ∀ (n m : Nat) (s : Str) (g : List a6) (out : A5), s.length < n → n ≤ m → s.length + g.length + out.length ≤ 1000000 → L6 k b t K m s (out ++ [g]) = match U6 x n s g out with | none => some ([], 3) | some c => K [] c
 | 0, m, s, g, out, h, _, _ => by omega
 | n + 1, m, s, g, out, h, hm, hb => by
  obtain ⟨m, rfl⟩ : ∃ q, m = q + 1 := ⟨m - 1, by omega⟩
  have e63 := m0
  simp only [L6, hi, Option.bind_some, fl hk hok hx]
  unfold U6
  cases hf : U5 x s with
  | none => rfl
  | some q =>
   obtain ⟨u, r⟩ := q
   obtain ⟨_, _, h3⟩ := gn hok hf
   have hw : Go.IntKind.wrap .i64 (((out ++ [g]).length : Int) - 1) = (out.length : Int) := by
    rw [List.length_append, List.length_singleton, U7 (by omega) (by omega)]
    omega
   have h1 : inB (out ++ [g]).length (out.length : Int) = some () := by
    unfold inB
    rw [if_pos ⟨by omega, by rw [List.length_append, List.length_singleton]; omega⟩]
   have h2 : (out ++ [g])[0 + (out.length : Int).toNat]? = some g := by
    rw [Int.toNat_natCast, Nat.zero_add, List.getElem?_append_right (Nat.le_refl _), Nat.sub_self]
    rfl
   have h4 : (out ++ [g]).set (0 + (out.length : Int).toNat) (g ++ [u]) = out ++ [g ++ [u]] := by
    rw [Int.toNat_natCast, Nat.zero_add, List.set_append_right _ _ (Nat.le_refl _), Nat.sub_self]
    rfl
   simp only [pm, Bool.not_true, cond_false, hw, h1, h2, Option.bind_some]
   rw [aG (by simp only [List.length_singleton, p4]; omega)]
   simp only [Option.bind_some, h4]
   cases r with
   | nil => rfl
   | cons a r =>
    simp only [List.length_cons] at h3
    simp only [show ((a :: r : Str) == ([] : Str)) = false by rfl, cond_false, dJ, Option.bind_some, wt, uN, kG]
    cases h38 : a == 38 with
    | true =>
     simp only [cond_true]
     exact oR hk hi hok hx n m r (g ++ [u]) out (by omega) (by omega) (by rw [List.length_append, List.length_singleton]; omega)
    | false =>
     simp only [cond_false]
     cases h124 : a == 124 with
     | true =>
      simp only [cond_true]
      rw [aG (by simp only [List.length_append, List.length_singleton, p4]; omega), Option.bind_some]
      exact oR hk hi hok hx n m r [] (out ++ [g ++ [u]]) (by omega) (by omega) (by simp only [List.length_append, List.length_singleton, List.length_nil]; omega)
     | false => rfl
theorem mu {k : Nat} {b : a7} {t : Int} {s : Str} (hk : maxLen + 20 ≤ k) (hw : i1 b) (hs : s.length ≤ 100000) : N9 k b t s = some (ag b t s) := by
 have e63 := m0
 obtain ⟨k, rfl, hq⟩ := i8 (c := maxLen + 19) hk
 simp only [N9, L7 (show maxLen + 13 ≤ k by omega) hw, Option.bind_some, ag]
 by_cases h : u4 b [t] = 0
 ·obtain ⟨x, hx, hwx, hok, _⟩ := dP hw h
  have hfl : x.fFields.length ≤ maxLen := hwx.2.2.2.2.1.1
  simp only [h, hx, bne_self_eq_false, cond_false]
  cases hse : s == ([] : Str) with
  | true => rfl
  | false =>
   simp only [cond_false]
   have e := oR (K := fun y39 y40 => (((idx b.fTypes t).bind fun v41 => ((R5 k v41 y40).bind fun v42 => (some ((!v42))))).bind fun o43 => (bif o43 then (some (([] : A5), 3)) else (some (y40, 0))))) (show maxLen + 6 ≤ k by omega) hx hok hfl (s.length + 1) k s [] [] (by omega) (by omega) (by simp; omega)
   simp only [hx, Option.bind_some] at e ⊢
   refine e.trans ?_
   cases hp : U6 x (s.length + 1) s [] [] with
   | none => rfl
   | some c =>
    obtain ⟨hg, hl⟩ := gA hok _ _ _ _ _ hp (by simp; omega) (by intro q hq; cases hq) (by intro q hq; cases hq)
    simp only [L8 (show maxLen + 13 ≤ k by omega) hfl (nK hg hl), Option.bind_some, rz]
    cases B3 x c <;> rfl
 ·have : (u4 b [t] != 0) = true := by simpa using h
  simp only [this, cond_true]
theorem rv {x : b7} (hok : y4 x = true) : ∀ (cs : A5), (∀ h ∈ cs, h ≠ [] ∧ ∀ u ∈ h, R4 x u = true) → ∀ (ts : List a6) (t : a6) (n : Nat) (g : List a6) (out : A5), (∀ u ∈ t :: ts, R4 x u = true) → (F7 t ++ (T6 ts ++ Z7 cs)).length < n →
  U6 x n (F7 t ++ (T6 ts ++ Z7 cs)) g out = some (out ++ [g ++ t :: ts] ++ cs) := by
 intro cs
 induction cs with
 | nil =>
  intro _ ts
  induction ts with
  | nil =>
   intro t n g out ht hn
   obtain ⟨n, rfl⟩ : ∃ q, n = q + 1 := ⟨n - 1, by omega⟩
   unfold U6
   rw [V1 _ hok (ht t (by simp))]
   simp only [T6, Z7, List.append_nil]
  | cons u us ih =>
   intro t n g out ht hn
   obtain ⟨n, rfl⟩ : ∃ q, n = q + 1 := ⟨n - 1, by omega⟩
   unfold U6
   rw [V1 _ hok (ht t (by simp))]
   simp only [T6, List.cons_append, List.length_append, List.length_cons, show ((38 : UInt8) == 38) = true by rfl, cond_true] at hn ⊢
   rw [List.append_assoc, ih u n (g ++ [t]) out (fun v hv => ht v (List.mem_cons_of_mem _ hv)) (by simp only [List.length_append]; omega)]
   simp only [List.append_assoc, List.cons_append, List.nil_append]
 | cons h cs ihc =>
  intro hcs ts
  have hh := hcs h (by simp)
  have ihc := ihc (fun q hq => hcs q (by simp [hq]))
  induction ts with
  | nil =>
   intro t n g out ht hn
   obtain ⟨n, rfl⟩ : ∃ q, n = q + 1 := ⟨n - 1, by omega⟩
   unfold U6
   rw [V1 _ hok (ht t (by simp))]
   obtain ⟨v, vs, rfl⟩ : ∃ v vs, h = v :: vs := by
    cases h with
    | nil => exact absurd rfl hh.1
    | cons v vs => exact ⟨v, vs, rfl⟩
   simp only [T6, Z7, List.nil_append, F5, List.length_append, List.length_cons, show ((124 : UInt8) == 38) = false by rfl, show ((124 : UInt8) == 124) = true by rfl, cond_true, cond_false] at hn ⊢
   rw [List.append_assoc, ihc vs v n [] (out ++ [g ++ [t]]) hh.2 (by simp only [List.length_append]; omega)]
   simp only [List.append_assoc, List.cons_append, List.nil_append]
  | cons u us ih =>
   intro t n g out ht hn
   obtain ⟨n, rfl⟩ : ∃ q, n = q + 1 := ⟨n - 1, by omega⟩
   unfold U6
   rw [V1 _ hok (ht t (by simp))]
   simp only [T6, List.cons_append, List.length_append, List.length_cons, show ((38 : UInt8) == 38) = true by rfl, cond_true] at hn ⊢
   rw [List.append_assoc, ih u n (g ++ [t]) out (fun v hv => ht v (List.mem_cons_of_mem _ hv)) (by simp only [List.length_append]; omega)]
   simp only [List.append_assoc, List.cons_append, List.nil_append]
theorem fj {x : b7} {c : A5} (h : B3 x c = true) : ∀ g ∈ c, g ≠ [] ∧ ∀ u ∈ g, R4 x u = true := by
 intro g hg
 refine ⟨?_, kD h g hg⟩
 rintro rfl
 unfold B3 at h
 simp only [Bool.and_eq_true, Bool.not_eq_true'] at h
 have := h.2
 rw [List.any_eq_false] at this
 exact this [] hg rfl
theorem Fl {b : a7} {t : Int} {c : A5} (hw : i1 b) (h : (aP b t c).2 = 0) : ag b t (aP b t c).1 = (c, 0) ∧ (aP b t c).1.length ≤ 1024 := by
 unfold aP at h ⊢
 rcases pT (t := t) (c := c) hw with ⟨e, h1, _, h3⟩ | ⟨x, h1, _, hx, ha, hwx, hok, hco⟩
 ·rw [h1] at h
  simp only [h3, cond_true] at h
  rw [h] at h3
  cases h3
 ·rw [h1]
  simp only [bne_self_eq_false, cond_false]
  have hl := lS (dt hok hco)
  refine ⟨?_, hl⟩
  unfold ag
  rw [ha, hx]
  simp only [bne_self_eq_false, cond_false]
  have hgs := fj hco
  cases hcc : c with
  | nil => rfl
  | cons g cs =>
   rw [hcc] at hgs
   obtain ⟨v, vs, rfl⟩ : ∃ v vs, g = v :: vs := by
    cases g with
    | nil => exact absurd rfl (hgs [] (by simp)).1
    | cons v vs => exact ⟨v, vs, rfl⟩
   have hv := bk hok ((hgs (v :: vs) (by simp)).2 v (by simp))
   have e : S6 ((v :: vs) :: cs) = F7 v ++ (T6 vs ++ Z7 cs) := by simp only [S6, F5, List.append_assoc]
   have hne : (F7 v ++ (T6 vs ++ Z7 cs) == ([] : Str)) = false := by
    refine beq_eq_false_iff_ne.2 fun e2 => ?_
    have := congrArg List.length e2
    rw [List.length_append, jg hv] at this
    simp at this
   rw [e, hne, cond_false, rv hok cs (fun q hq => hgs q (by simp [hq])) vs v _ [] [] (fun u hu => (hgs (v :: vs) (by simp)).2 u hu) (Nat.lt_succ_self _)]
   rw [hcc] at hco
   simp only [List.nil_append, rz, List.singleton_append, hco, cond_true]
theorem zp {b : a7} {t : Int} {s : Str} (hw : i1 b) (hs : s.length ≤ 100000) : wfL (wfL u3) (ag b t s).1 := by
 have hn : wfL (wfL u3) ([] : A5) := ⟨by simp, fun g hg => by cases hg⟩
 unfold ag
 cases h0 : u4 b [t] != 0 with
 | true => exact hn
 | false =>
  have ha : u4 b [t] = 0 := by simpa using h0
  obtain ⟨x, hx, hwx, hok, _⟩ := dP hw ha
  rw [hx]
  simp only [cond_false]
  cases hse : s == ([] : Str) with
  | true => exact hn
  | false =>
   simp only [cond_false]
   cases hp : U6 x (s.length + 1) s [] [] with
   | none => exact hn
   | some c =>
    obtain ⟨hg, hl⟩ := gA hok _ _ _ _ _ hp (by simp; omega) (by intro q hq; cases hq) (by intro q hq; cases hq)
    simp only [rz]
    cases B3 x c with
    | false => exact hn
    | true => exact nK hg hl
end Go.Sh

namespace Go.Sh
open Go.AE
set_option linter.unusedVariables false
set_option linter.unusedSimpArgs false
def T0 (a : Nat) (c : UInt8) : Nat := if a = 0 ∧ c = 68 then 1 else if a ≤ 1 ∧ c = 76 then 2 else if a ≤ 2 ∧ c = 80 then 3 else 0
def C7 : Nat → Str → Bool
 | _, [] => true
 | a, c :: r => bif Nat.beq (T0 a c) 0 then false else C7 (T0 a c) r
theorem yX (a : Nat) (c : UInt8) : T0 a c ≤ 3 := by
 unfold T0
 split
 ·omega
 ·split
  ·omega
  ·split <;> omega
theorem eZ (a : Nat) (c : UInt8) : (T0 a c = 1 ∧ a = 0 ∧ c = 68) ∨ (T0 a c = 2 ∧ a ≤ 1 ∧ c = 76) ∨ (T0 a c = 3 ∧ a ≤ 2 ∧ c = 80) ∨ (T0 a c = 0 ∧ ¬ (a = 0 ∧ c = 68) ∧ ¬ (a ≤ 1 ∧ c = 76) ∧ ¬ (a ≤ 2 ∧ c = 80)) := by
 unfold T0
 by_cases h1 : a = 0 ∧ c = 68
 ·rw [if_pos h1]; exact .inl ⟨rfl, h1⟩
 ·rw [if_neg h1]
  by_cases h2 : a ≤ 1 ∧ c = 76
  ·rw [if_pos h2]; exact .inr (.inl ⟨rfl, h2⟩)
  ·rw [if_neg h2]
   by_cases h3 : a ≤ 2 ∧ c = 80
   ·rw [if_pos h3]; exact .inr (.inr (.inl ⟨rfl, h3⟩))
   ·rw [if_neg h3]; exact .inr (.inr (.inr ⟨rfl, h1, h2, h3⟩))
theorem X4 {b c : UInt8} {l : Str} (h : c ≠ b) : cg (b :: l) c = if cg l c == -1 then -1 else cg l c + 1 := by
 rw [cg, if_neg]
 rw [beq_iff_eq]
 exact fun e => h e.symm
theorem rh {a : Nat} (ha : a ≤ 3) (c : UInt8) : ∃ l, cut ([68, 76, 80] : Str) (a : Int) 3 = some l ∧ cg l c = (if T0 a c = 0 then -1 else ((T0 a c : Int) - 1 - (a : Int))) := by
 have hn : cg [] c = -1 := rfl
 rcases (show a = 0 ∨ a = 1 ∨ a = 2 ∨ a = 3 by omega) with rfl | rfl | rfl | rfl
 ·refine ⟨[68, 76, 80], rfl, ?_⟩
  by_cases h1 : c = 68
  ·subst h1; rfl
  by_cases h2 : c = 76
  ·subst h2; rfl
  by_cases h3 : c = 80
  ·subst h3; rfl
  rw [X4 h1, X4 h2, X4 h3, hn]
  simp [T0, h1, h2, h3]
 ·refine ⟨[76, 80], rfl, ?_⟩
  by_cases h2 : c = 76
  ·subst h2; rfl
  by_cases h3 : c = 80
  ·subst h3; rfl
  rw [X4 h2, X4 h3, hn]
  simp [T0, h2, h3]
 ·refine ⟨[80], rfl, ?_⟩
  by_cases h3 : c = 80
  ·subst h3; rfl
  rw [X4 h3, hn]
  simp [T0, h3]
 ·refine ⟨[], rfl, ?_⟩
  rw [hn]
  simp [T0]
theorem eN {k : Nat} {s : Str} (hk : 1 ≤ k) (hs : s.length ≤ maxLen) : ∀ (d i a m : Nat), a ≤ 3 → i + d = s.length → d < m → I4 k s (fun _ _ => some true) m (a : Int) (i : Int) = some (C7 a (s.drop i))
 | 0, i, a, m, ha, hd, hm => by
  obtain ⟨m, rfl⟩ : ∃ q, m = q + 1 := ⟨m - 1, by omega⟩
  obtain rfl : i = s.length := by omega
  simp only [I4, show decide ((s.length : Int) < (s.length : Int)) = false by simp, cond_false, List.drop_length, C7]
 | d + 1, i, a, m, ha, hd, hm => by
  obtain ⟨m, rfl⟩ : ∃ q, m = q + 1 := ⟨m - 1, by omega⟩
  have hi : i < s.length := by omega
  obtain ⟨l, hl, hx⟩ := rh ha s[i]
  obtain ⟨k, rfl, _⟩ := i8 (c := 0) hk
  have e3 : ((([68, 76, 80] : Str).length : Nat) : Int) = 3 := rfl
  have e4 : ∀ l, strings_IndexByte (k + 1) l ((s[i].toNat : Nat) : Int) = some (cg l s[i]) := fun l => by
   show some (cg l (((s[i].toNat : Nat) : Int).toNat.toUInt8)) = _
   rw [Int.toNat_natCast, Nat.toUInt8_eq, UInt8.ofNat_toNat]
  simp only [I4, show decide ((i : Int) < (s.length : Int)) = true by simp; exact hi, cond_true, e3, hl, gp hi, e4, Option.bind_some, hx, l4 hi hs]
  rw [List.drop_eq_getElem_cons hi, C7]
  have hle := yX a s[i]
  rcases eZ a s[i] with ⟨h1, h2, _⟩ | ⟨h1, h2, _⟩ | ⟨h1, h2, _⟩ | ⟨h1, h2⟩ <;> rw [h1]
  ·subst h2
   exact eN (k := k + 1) hk hs d (i + 1) 1 m (by omega) (by omega) (by omega)
  ·rw [if_neg (by decide), decide_eq_false (by omega)]
   simp only [cond_false]
   rw [U7 (x := ((2 : Nat) : Int) - 1 - (a : Int) + 1) (by omega) (by omega), U7 (by omega) (by omega), show (a : Int) + (((2 : Nat) : Int) - 1 - (a : Int) + 1) = ((2 : Nat) : Int) by omega]
   exact eN (k := k + 1) hk hs d (i + 1) 2 m (by omega) (by omega) (by omega)
  ·rw [if_neg (by decide), decide_eq_false (by omega)]
   simp only [cond_false]
   rw [U7 (x := ((3 : Nat) : Int) - 1 - (a : Int) + 1) (by omega) (by omega), U7 (by omega) (by omega), show (a : Int) + (((3 : Nat) : Int) - 1 - (a : Int) + 1) = ((3 : Nat) : Int) by omega]
   exact eN (k := k + 1) hk hs d (i + 1) 3 m (by omega) (by omega) (by omega)
  ·rfl
theorem dg {k : Nat} {s : Str} (hk : maxLen + 3 ≤ k) (hs : s.length ≤ maxLen) : dG k s = some (C7 0 s) := by
 obtain ⟨k, rfl, hq⟩ := i8 (c := maxLen + 2) hk
 exact eN (k := k) (by omega) hs s.length 0 0 k (by omega) (by omega) (by omega)
theorem Ap (v : UInt8) (c : UInt8) : (((v.toNat : Nat) : Int) != ((c.toNat : Nat) : Int)) = !(c == v) := by
 by_cases h : c = v
 ·subst h; simp
 ·have h1 : v.toNat ≠ c.toNat := fun e => h (UInt8.toNat_inj.1 e.symm)
  have h2 : ((v.toNat : Nat) : Int) ≠ ((c.toNat : Nat) : Int) := by omega
  rw [bne_iff_ne.2 h2, beq_eq_false_iff_ne.2 h]; rfl
theorem oB {s : Str} {i : Nat} {K : Int → Option Bool} (hi : i < s.length) : ∀ (d a m : Nat), a + d = 3 → d < m → K5 s (i : Int) K m (a : Int) = K (if T0 a s[i] = 0 then 3 else (T0 a s[i] : Int) - 1)
 | 0, a, m, hd, hm => by
  obtain ⟨m, rfl⟩ : ∃ q, m = q + 1 := ⟨m - 1, by omega⟩
  obtain rfl : a = 3 := by omega
  have : T0 3 s[i] = 0 := by unfold T0; simp
  rw [this]
  rfl
 | d + 1, a, m, hd, hm => by
  obtain ⟨m, rfl⟩ : ∃ q, m = q + 1 := ⟨m - 1, by omega⟩
  have ih := oB (K := K) hi d (a + 1) m (by omega) (by omega)
  have hL : ∃ v : UInt8, G0 ([68, 76, 80] : Str) (a : Int) = some ((v.toNat : Nat) : Int) ∧ (s[i] = v → T0 a s[i] = a + 1) ∧ (s[i] ≠ v → T0 a s[i] = T0 (a + 1) s[i]) := by
   rcases (show a = 0 ∨ a = 1 ∨ a = 2 by omega) with rfl | rfl | rfl
   ·refine ⟨68, rfl, fun h => by rw [h]; rfl, fun h => ?_⟩
    unfold T0
    simp [h]
   ·refine ⟨76, rfl, fun h => by rw [h]; rfl, fun h => ?_⟩
    unfold T0
    simp [h]
   ·refine ⟨80, rfl, fun h => by rw [h]; rfl, fun h => ?_⟩
    unfold T0
    simp [h]
  obtain ⟨v, hv, h1, h2⟩ := hL
  simp only [K5, decide_eq_true (show (a : Int) < 3 by omega), cond_true, hv, gp hi, Option.bind_some, Ap]
  by_cases h : s[i] = v
  ·rw [beq_iff_eq.2 h, h1 h]
   simp only [Bool.not_true, cond_false]
   rw [if_neg (by omega)]
   congr 1
   omega
  ·rw [beq_eq_false_iff_ne.2 h, h2 h]
   simp only [Bool.not_false, cond_true]
   rw [U7 (by omega) (by omega), show (a : Int) + 1 = ((a + 1 : Nat) : Int) by omega]
   exact ih
theorem gr {k : Nat} {s : Str} (hk : 4 ≤ k) (hs : s.length ≤ maxLen) : ∀ (d i a m : Nat), a ≤ 3 → i + d = s.length → d < m → G3 k s (fun _ _ => some true) m (a : Int) (i : Int) = some (C7 a (s.drop i))
 | 0, i, a, m, ha, hd, hm => by
  obtain ⟨m, rfl⟩ : ∃ q, m = q + 1 := ⟨m - 1, by omega⟩
  obtain rfl : i = s.length := by omega
  simp only [G3, show decide ((s.length : Int) < (s.length : Int)) = false by simp, cond_false, List.drop_length, C7]
 | d + 1, i, a, m, ha, hd, hm => by
  obtain ⟨m, rfl⟩ : ∃ q, m = q + 1 := ⟨m - 1, by omega⟩
  have hi : i < s.length := by omega
  simp only [G3, show decide ((i : Int) < (s.length : Int)) = true by simp; exact hi, cond_true, l4 hi hs]
  rw [oB hi (3 - a) a k (by omega) (by omega), List.drop_eq_getElem_cons hi, C7]
  rcases eZ a s[i] with ⟨h1, _⟩ | ⟨h1, _⟩ | ⟨h1, _⟩ | ⟨h1, _⟩ <;> rw [h1]
  ·exact gr hk hs d (i + 1) 1 m (by omega) (by omega) (by omega)
  ·exact gr hk hs d (i + 1) 2 m (by omega) (by omega) (by omega)
  ·exact gr hk hs d (i + 1) 3 m (by omega) (by omega) (by omega)
  ·rfl
theorem bG {k : Nat} {s : Str} (hk : maxLen + 5 ≤ k) (hs : s.length ≤ maxLen) : bW k s = some (C7 0 s) := by
 obtain ⟨k, rfl, hq⟩ := i8 (c := maxLen + 4) hk
 exact gr (k := k) (by omega) hs s.length 0 0 k (by omega) (by omega) (by omega)
def bl (b : a7) (t : Int) (c : A5) : Bool × Int := bif u4 b [t] != 0 then (false, u4 b [t]) else match idx b.fTypes t with | some x => (B3 x c, 0) | none => (false, 0)
theorem uI {k : Nat} {b : a7} {t : Int} {c : A5} (hk : maxLen + 16 ≤ k) (hw : i1 b) (hc : wfL (wfL u3) c) : ay k b t c = some (bl b t c) := by
 obtain ⟨k, rfl, hq⟩ := i8 (c := maxLen + 15) hk
 simp only [ay, bl, L7 (show maxLen + 13 ≤ k by omega) hw, Option.bind_some]
 by_cases h : u4 b [t] = 0
 ·obtain ⟨x, hx, hwx, _⟩ := dP hw h
  simp only [h, hx, bne_self_eq_false, cond_false, L8 (show maxLen + 13 ≤ k by omega) hwx.2.2.2.2.1.1 hc, Option.bind_some]
 ·have : (u4 b [t] != 0) = true := by simpa using h
  simp only [this, cond_true]
def sAJ : Str := [65, 74]
def sAC : Str := [65, 67]
def sAK : Str := [65, 75]
def sOK : Str := [32, 32]
def T7 (b : a7) (a : a8) : Int := (u0 b a.fSegment).1
def I9 (b : a7) (above : Int) (a : a8) : Str × Int :=
 bif !C7 0 a.fCodes then (sAJ, 0) else bif (u0 b a.fSegment).2 != 0 then (sAC, 0) else
  bif decide (above ≥ 0) && !(iX b above (T7 b a)).1 then (sAC, 0) else bif !(bl b (T7 b a) a.fWhen).1 then (sAK, 0) else (sOK, T7 b a)
theorem fz {k : Nat} {b : a7} {above : Int} {a : a8} (hk : maxLen + 17 ≤ k) (hw : i1 b) (ha : n6 a) : eJ k b above a = some (I9 b above a) := by
 obtain ⟨k, rfl, hq⟩ := i8 (c := maxLen + 16) hk
 have hc : a.fCodes.length ≤ maxLen := ha.2.1
 simp only [eJ, I9, dg (show maxLen + 3 ≤ k by omega) hc, jy (show maxLen + 11 ≤ k by omega) hw, lU (show maxLen + 11 ≤ k by omega) hw, uI hq hw ha.2.2.1, Option.bind_some, T7]
 cases C7 0 a.fCodes with
 | false => rfl
 | true =>
  cases (u0 b a.fSegment).2 != 0 with
  | true => rfl
  | false =>
   cases decide (above ≥ 0) with
   | false => cases (bl b (u0 b a.fSegment).1 a.fWhen).1 <;> rfl
   | true => cases (iX b above (u0 b a.fSegment).1).1 <;> cases (bl b (u0 b a.fSegment).1 a.fWhen).1 <;> rfl
theorem tb {b : a7} {above : Int} {a : a8} (h : ((I9 b above a).1 == sOK) = true) : (I9 b above a).2 = T7 b a := by
 unfold I9 at h ⊢
 revert h
 cases !C7 0 a.fCodes <;> cases (u0 b a.fSegment).2 != 0 <;> cases decide (above ≥ 0) && !(iX b above (T7 b a)).1 <;> cases !(bl b (T7 b a) a.fWhen).1 <;> intro h <;> first | rfl | (exact Bool.noConfusion (show false = true from h))
def iZ (b : a7) : Int → List Int → List a8 → Str × List Int
 | _, ts, [] => (sOK, ts)
 | above, ts, a :: r => bif !((I9 b above a).1 == sOK) then ((I9 b above a).1, []) else iZ b (I9 b above a).2 (ts ++ [(I9 b above a).2]) r
def gd (b : a7) (l : List a8) : Str × List Int := bif decide ((l.length : Int) > 5) then (sAJ, []) else iZ b (-1) [] l
theorem ai {k : Nat} {b : a7} {l : List a8} (hk : maxLen + 17 ≤ k) (hw : i1 b) (hl : ∀ a ∈ l, n6 a) (hn : l.length ≤ 5) : ∀ (d i m : Nat) (above : Int) (ts : List Int), i + d = l.length → d < m → ts.length ≤ i →
  S4 k b l (fun _ y17 _ => some (([32, 32] : Str), y17)) m above ts (i : Int) = some (iZ b above ts (l.drop i))
 | 0, i, m, above, ts, hd, hm, ht => by
  obtain ⟨m, rfl⟩ : ∃ q, m = q + 1 := ⟨m - 1, by omega⟩
  obtain rfl : i = l.length := by omega
  simp only [S4, show decide ((l.length : Int) < (l.length : Int)) = false by simp, cond_false, List.drop_length, iZ, sOK]
 | d + 1, i, m, above, ts, hd, hm, ht => by
  obtain ⟨m, rfl⟩ : ∃ q, m = q + 1 := ⟨m - 1, by omega⟩
  have hi : i < l.length := by omega
  simp only [S4, show decide ((i : Int) < (l.length : Int)) = true by simp; exact hi, cond_true, n7 hi, Option.bind_some, fz hk hw (hl _ (List.getElem_mem hi)), l4 hi (show l.length ≤ maxLen by rw [m0]; omega)]
  rw [List.drop_eq_getElem_cons hi, iZ]
  show (bif !((I9 b above l[i]).1 == sOK) then _ else _) = _
  cases (I9 b above l[i]).1 == sOK with
  | false => rfl
  | true =>
   simp only [Bool.not_true, cond_false]
   rw [aG (by simp only [List.length_cons, List.length_nil, p4]; omega), Option.bind_some]
   exact ai hk hw hl hn d (i + 1) m _ _ (by omega) (by omega) (by simp; omega)
theorem gI {k : Nat} {b : a7} {l : List a8} (hk : maxLen + 18 ≤ k) (hw : i1 b) (hl : ∀ a ∈ l, n6 a) : fT k b l = some (gd b l) := by
 obtain ⟨k, rfl, hq⟩ := i8 (c := maxLen + 17) hk
 simp only [fT, gd]
 by_cases h : (l.length : Int) > 5
 ·rw [decide_eq_true h]; rfl
 ·rw [decide_eq_false h]
  exact ai hq hw hl (by omega) l.length 0 k (-1) [] (by omega) (by omega) (by simp)
def fg (b : a7) (l : List a8) : List Int × Int := bif !valid b then ([], 100) else bif !((gd b l).1 == sOK) then ([], 2) else ((gd b l).2, 0)
theorem bj {k : Nat} {b : a7} {l : List a8} (hk : maxLen + 19 ≤ k) (hw : i1 b) (hl : ∀ a ∈ l, n6 a) : bM k b l = some (fg b l) := by
 obtain ⟨k, rfl, hq⟩ := i8 (c := maxLen + 18) hk
 simp only [bM, fg, lX (show maxLen + 9 ≤ k by omega) hw, gI hq hw hl, Option.bind_some]
 cases valid b with
 | false => rfl
 | true =>
  show (bif !((gd b l).1 == sOK) then _ else _) = _
  cases (gd b l).1 == sOK <;> rfl
theorem rk {k : Nat} {l : List a8} (hk : maxLen + 4 ≤ k) (hl : wfL n6 l) : ∃ r, ef k l = some r := by
 obtain ⟨k, rfl, hq⟩ := i8 (c := maxLen + 3) hk
 simp only [ef]
 refine uW (L := fun m x => P5 k l _ m x) (n := l.length) ?_ ?_ (by have := hl.1; omega)
 ·intro m i hi
  obtain ⟨r, hr⟩ := ue (k := k) (by omega) (hl.2 _ (List.getElem_mem hi)).2.2.1
  simp only [P5, n7 hi, Option.bind_some, l4 hi hl.1, show decide ((i : Int) < (l.length : Int)) = true by simp; exact hi, cond_true, hr]
  cases decide (((l[i]).fSegment.length : Int) > 100) <;> cases decide (((l[i]).fCodes.length : Int) > 100) <;> cases r <;> first | exact .inl ⟨_, rfl⟩ | exact .inr rfl
 ·intro m
  simp only [P5, show decide ((l.length : Int) < (l.length : Int)) = false by simp, cond_false]
  exact ⟨_, rfl⟩
def ve : b7 := { fName := [67, 85, 83, 84], fParent := (-1), fMin := 4, fSize := 10, fFields := [{ fName := [67, 85, 83, 84, 78, 79], fAt := 0, fBytes := 4 }], fKey := 0, fUnique := true, fLast := false }
def pr : b7 := { fName := [79, 82, 68, 69, 82], fParent := 0, fMin := 4, fSize := 8, fFields := [{ fName := [79, 82, 68, 78, 79], fAt := 0, fBytes := 4 }], fKey := 0, fUnique := false, fLast := false }
def ar : a7 := { fName := [83, 72, 79, 80], fKind := 4, fTypes := [ve, pr], fIndexes := [] }
def kx : a8 := { fSegment := [79, 82, 68, 69, 82], fCodes := [68], fWhen := [[{ fField := [79, 82, 68, 78, 79], fOp := 1, fValue := [48, 48, 48, 53] }]] }
def tv : a8 := { fSegment := [67, 85, 83, 84], fCodes := [], fWhen := [] }
theorem bQ {α : Type} {p : α → Prop} {l : List α} (h : l.length ≤ 1000) (hp : ∀ x ∈ l, p x) : wfL p l := by
 have e63 := m0
 exact ⟨by omega, hp⟩
theorem sq {f : d6} (h1 : f.fName.length ≤ 1000) (h2 : -1000 ≤ f.fAt) (h3 : f.fAt ≤ 1000) (h4 : -1000 ≤ f.fBytes) (h5 : f.fBytes ≤ 1000) : bm f := ⟨F1 h1, K6 h2 h3, K6 h4 h5, trivial⟩
theorem zG : D5 ve := by
 refine ⟨F1 (by decide), K6 (by decide) (by decide), K6 (by decide) (by decide), K6 (by decide) (by decide), bQ (by decide) (fun f hf => ?_), K6 (by decide) (by decide), trivial, trivial, trivial⟩
 obtain rfl : f = { fName := [67, 85, 83, 84, 78, 79], fAt := 0, fBytes := 4 } := by simpa [ve] using hf
 exact sq (by decide) (by decide) (by decide) (by decide) (by decide)
theorem zH : D5 pr := by
 refine ⟨F1 (by decide), K6 (by decide) (by decide), K6 (by decide) (by decide), K6 (by decide) (by decide), bQ (by decide) (fun f hf => ?_), K6 (by decide) (by decide), trivial, trivial, trivial⟩
 obtain rfl : f = { fName := [79, 82, 68, 78, 79], fAt := 0, fBytes := 4 } := by simpa [pr] using hf
 exact sq (by decide) (by decide) (by decide) (by decide) (by decide)
theorem mQ : i1 ar := by
 refine ⟨F1 (by decide), K6 (by decide) (by decide), bQ (by decide) (fun t ht => ?_), bQ (by decide) (fun x hx => by cases hx), trivial⟩
 rcases (by simpa [ar] using ht : t = ve ∨ t = pr) with rfl | rfl
 ·exact zG
 ·exact zH
theorem uL : n6 kx := by
 refine ⟨F1 (by decide), F1 (by decide), bQ (by decide) (fun g hg => bQ ?_ (fun t ht => ?_)), trivial⟩
 ·obtain rfl : g = [{ fField := [79, 82, 68, 78, 79], fOp := 1, fValue := [48, 48, 48, 53] }] := by simpa [kx] using hg
  decide
 ·obtain rfl : g = [{ fField := [79, 82, 68, 78, 79], fOp := 1, fValue := [48, 48, 48, 53] }] := by simpa [kx] using hg
  obtain rfl : t = { fField := [79, 82, 68, 78, 79], fOp := 1, fValue := [48, 48, 48, 53] } := by simpa using ht
  exact ⟨F1 (by decide), K6 (by decide) (by decide), F1 (by decide), trivial⟩
theorem zO : n6 tv := ⟨F1 (by decide), F1 (by decide), bQ (by decide) (fun g hg => by cases hg), trivial⟩
theorem Fp : fg ar [kx] = ([1], 0) := by
 have : (fg ar [kx] == ([1], (0 : Int))) = true := by decide +kernel
 exact eq_of_beq this
theorem Fq : fg ar [tv] = ([0], 0) := by
 have : (fg ar [tv] == ([0], (0 : Int))) = true := by decide +kernel
 exact eq_of_beq this
theorem zV : X2 ar 1 [kx.fWhen] = (pr, 0) := by
 have : (X2 ar 1 [kx.fWhen] == (pr, (0 : Int))) = true := by decide +kernel
 exact eq_of_beq this
theorem zP {k : Nat} (hk : maxLen + 30 ≤ k) : V5 k = some true := by
 have e63 := m0
 obtain ⟨k, rfl⟩ : ∃ q, k = q + 12 := ⟨k - 12, by omega⟩
 have hs : bu (k + 11) = some ar := rfl
 have t1 : bM (k + 10) ar [kx] = some ([1], 0) := by
  rw [bj (by omega) mQ (fun a ha => by rw [show a = kx by simpa using ha]; exact uL), Fp]
 have t2 : bM (k + 10) ar [tv] = some ([0], 0) := by
  rw [bj (by omega) mQ (fun a ha => by rw [show a = tv by simpa using ha]; exact zO), Fq]
 have hc : J9 (k + 9) ar 1 [kx.fWhen] = some (pr, 0) := by
  rw [Q1 (by omega) mQ (by simp) (fun c hc => by rw [show c = kx.fWhen by simpa using hc]; exact uL.2.2.1), zV]
 have hm : E4 (k + 10) ar 1 kx.fWhen = some ([79, 82, 68, 78, 79, 32, 32, 32, 61, 32, 48, 48, 48, 53], 0) := by
  simp only [E4, hc, Option.bind_some]
  rfl
 have f1 : B2 (k + 11) ar kx = some ([79, 82, 68, 69, 82, 32, 32, 32, 42, 68, 40, 79, 82, 68, 78, 79, 32, 32, 32, 61, 32, 48, 48, 48, 53, 41], 0) := by
  simp only [B2, t1, Option.bind_some]
  have e : idx ([1] : List Int) 0 = some 1 := rfl
  simp only [e, Option.bind_some, hm]
  rfl
 have f2 : B2 (k + 11) ar tv = some ([67, 85, 83, 84, 32, 32, 32, 32, 32], 0) := by
  simp only [B2, t2, Option.bind_some]
  rfl
 unfold kx at f1
 unfold tv at f2
 simp only [V5, hs, f1, f2, Option.bind_some]
 rfl
end Go.Sh

namespace Go.Sh
open Go.AE
set_option linter.unusedVariables false
set_option linter.unusedSimpArgs false
theorem zN {α : Type} {p : α → Prop} {a : α} (h : p a) : ∀ x ∈ [a], p x := fun x hx => by
 rw [List.mem_singleton] at hx
 rw [hx]; exact h
theorem qG {t : b7} (ht : y4 t = true) : C3 t.fName = true := by
 unfold y4 at ht
 simp only [Bool.and_eq_true, Bool.not_eq_true', Bool.or_eq_false_iff, Bool.not_eq_false'] at ht
 exact ht.1.1
theorem sN {s : Str} (h : C3 s = true) : 1 ≤ s.length ∧ s.length ≤ 8 := by
 unfold C3 at h
 simp only [Bool.and_eq_true, decide_eq_true_eq] at h
 omega
theorem fF : ∀ (s : Str) (a : Nat), C7 a s = true → s.length ≤ 3 - a
 | [], a, _ => by simp
 | c :: r, a, h => by
  rw [C7] at h
  rcases eZ a c with ⟨h1, h2, _⟩ | ⟨h1, h2, _⟩ | ⟨h1, h2, _⟩ | ⟨h1, _⟩ <;> rw [h1] at h
  ·have := fF r 1 h; simp; omega
  ·have := fF r 2 h; simp; omega
  ·have := fF r 3 h; simp; omega
  ·cases h
theorem rL {b : a7} {above : Int} {a : a8} (hw : i1 b) (hv : valid b = true) (h : ((I9 b above a).1 == sOK) = true) :
  C7 0 a.fCodes = true ∧ (u0 b a.fSegment).2 = 0 ∧ (∃ x, idx b.fTypes (T7 b a) = some x ∧ y4 x = true ∧ x.fName = a.fSegment ∧ B3 x a.fWhen = true) ∧ 0 ≤ T7 b a ∧ T7 b a < (b.fTypes.length : Int) ∧ u4 b [T7 b a] = 0 ∧ (bl b (T7 b a) a.fWhen).1 = true := by
 unfold I9 at h
 cases h1 : C7 0 a.fCodes with
 | false => rw [h1] at h; exact Bool.noConfusion (show false = true from h)
 | true =>
  cases h2 : (u0 b a.fSegment).2 != 0 with
  | true => rw [h1, h2] at h; exact Bool.noConfusion (show false = true from h)
  | false =>
   cases h3 : decide (above ≥ 0) && !(iX b above (T7 b a)).1 with
   | true => rw [h1, h2, h3] at h; exact Bool.noConfusion (show false = true from h)
   | false =>
    cases h4 : (bl b (T7 b a) a.fWhen).1 with
    | false => rw [h1, h2, h3, h4] at h; exact Bool.noConfusion (show false = true from h)
    | true =>
     have e0 : (u0 b a.fSegment).2 = 0 := by simpa using h2
     have ha0 : u4 b [] = 0 := by unfold u4; rw [hv]; rfl
     have et : u0 b a.fSegment = dl (pos b.fTypes (fun t => t.fName == a.fSegment)) := by
      unfold u0
      rw [ha0]
      rfl
     rcases K4 b.fTypes (fun t => t.fName == a.fSegment) with ⟨_, hp⟩ | ⟨j, hj, hj2, _, hp⟩
     ·rw [et, hp] at e0; exact absurd e0 (by decide)
     ·have ei : T7 b a = (j : Int) := by
       unfold T7
       rw [et, hp]
       unfold dl
       rw [decide_eq_false (by omega)]
       rfl
      have hx : idx b.fTypes (T7 b a) = some b.fTypes[j] := by rw [ei]; exact n7 hj
      have hasked : u4 b [T7 b a] = 0 := by
       unfold u4
       rw [hv]
       simp only [Bool.not_true, cond_false, List.any_cons, List.any_nil, Bool.or_false, aW, ei, decide_eq_false (show ¬ ((j : Int) < 0) by omega), decide_eq_false (show ¬ ((j : Int) ≥ (b.fTypes.length : Int)) by omega)]
      refine ⟨rfl, e0, ⟨_, hx, nL hv hj, eq_of_beq hj2, ?_⟩, by omega, by omega, hasked, rfl⟩
      unfold bl at h4
      rw [hasked, hx] at h4
      exact h4
end Go.Sh

