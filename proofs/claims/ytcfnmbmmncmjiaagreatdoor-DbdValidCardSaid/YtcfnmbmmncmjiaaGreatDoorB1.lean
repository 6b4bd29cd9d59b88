/- The functions as functions on lists, and what they come to: no program in sight. Conditions: those that each theorem names. -/
import Derived.Test.YtcfnmbmmncmjiaaGreatDoorA3
import Derived.IntWalk
import Derived.Lib.SplitLaws
import Derived.Lib.AtoiAllCases
set_option linter.unusedSimpArgs false
set_option linter.unusedVariables false
namespace Go.Sh
open Go.AE (idx X6 cut cat app rM inB bh lM wfI wfS wfL wfT mkN repS repL nU FX dC lG lL xN rF kW orI xorI catL fV sJ repG Hq fdS mr eC xb kZ rG splN cutS od xR dJ)
abbrev Str:=List UInt8
structure b8 where
 fName:Str
 fAt:Int
 fBytes:Int
 deriving DecidableEq
structure a7 where
 fName:Str
 fParent:Int
 fMin:Int
 fSize:Int
 fFields:(List b8)
 fKey:Int
 fUnique:Bool
 fLast:Bool
 deriving DecidableEq
structure a8 where
 fName:Str
 fType:Int
 fField:Int
 fSparse:Str
 deriving DecidableEq
structure a6 where
 fName:Str
 fKind:Int
 fTypes:(List a7)
 fIndexes:(List a8)
 deriving DecidableEq
def aA (a:b8):Prop:=wfS a.fName∧(wfI .i64) a.fAt∧(wfI .i64) a.fBytes∧wfT ()
def I1 (a:a7):Prop:=wfS a.fName∧(wfI .i64) a.fParent∧(wfI .i64) a.fMin∧(wfI .i64) a.fSize∧(wfL aA) a.fFields∧(wfI .i64) a.fKey∧wfT a.fUnique∧wfT a.fLast∧wfT ()
def N3 (a:a8):Prop:=wfS a.fName∧(wfI .i64) a.fType∧(wfI .i64) a.fField∧wfS a.fSparse∧wfT ()
def z7 (a:a6):Prop:=wfS a.fName∧(wfI .i64) a.fKind∧(wfL I1) a.fTypes∧(wfL N3) a.fIndexes∧wfT ()
def L7 (a0:a6)  (K0:Int→Option Bool):Nat→Int→Option Bool
 | 0,_=>none
 | m+1,x3=>
  (bif (decide (x3 < (a0.fTypes.length:Int))) then (((idx a0.fTypes x3).bind fun v4=>(some ((decide ((v4.fFields.length:Int) > 10))))).bind fun o5=>
        (bif o5 then (some false) else
        (L7 a0 K0 m (Go.IntKind.wrap .i64 (x3+1))))) else
    (K0 x3))
def dm:Nat→(a6)→Option Bool
 | 0,_=>none
 | k+1,a0=>
  (L7 a0 (fun y6=>
   ((bif (decide ((a0.fTypes.length:Int)≤12)) then (some ((decide ((a0.fIndexes.length:Int)≤6)))) else (some (false))).bind fun o7=>
    (some o7))) k 0)
def X7:Nat→Option a6
 | 0=>none
 | k+1=>
  (some ({ fName:=([83,72,79,80]:Str),fKind:=4,fTypes:=([({ fName:=([67,85,83,84]:Str),fParent:=(-1),fMin:=4,fSize:=10,fFields:=([({ fName:=([67,85,83,84,78,79]:Str),fAt:=0,fBytes:=4 }:b8)]:List b8),fKey:=0,fUnique:=true,fLast:=false }:a7),({ fName:=([79,82,68,69,82]:Str),fParent:=0,fMin:=4,fSize:=12,fFields:=([({ fName:=([79,82,68,78,79]:Str),fAt:=0,fBytes:=4 }:b8)]:List b8),fKey:=0,fUnique:=false,fLast:=false }:a7),({ fName:=([73,84,69,77]:Str),fParent:=1,fMin:=1,fSize:=8,fFields:=([]:List b8),fKey:=(-1),fUnique:=false,fLast:=true }:a7),({ fName:=([80,72,79,78,69]:Str),fParent:=0,fMin:=1,fSize:=8,fFields:=([]:List b8),fKey:=(-1),fUnique:=false,fLast:=false }:a7)]:List a7),fIndexes:=([]:List a8) }:a6))
def I0 (a0:Str)  (K0:Int→Option Bool):Nat→Int→Option Bool
 | 0,_=>none
 | m+1,x7=>
  (bif (decide (x7 < (a0.length:Int))) then (((X6 a0 x7).bind fun v8=>(bif (decide (v8 ≥ 65)) then ((X6 a0 x7).bind fun v9=>(some ((decide (v9≤90))))) else (some (false)))).bind fun o0=>
        ((bif (!o0) then (bif (x7 == 0) then (some (true)) else ((X6 a0 x7).bind fun v0=>(bif (decide (v0 < 48)) then (some (true)) else ((X6 a0 x7).bind fun v1=>(some ((decide (v1 > 57)))))))) else (some (false))).bind fun o1=>
        (bif o1 then (some false) else
        (I0 a0 K0 m (Go.IntKind.wrap .i64 (x7+1)))))) else
    (K0 x7))
def L3:Nat→(Str)→Option Bool
 | 0,_=>none
 | k+1,a0=>
  (I0 a0 (fun y0=>
   ((bif (decide ((a0.length:Int) ≥ 1)) then (some ((decide ((a0.length:Int)≤8)))) else (some (false))).bind fun o0=>
    (some o0))) k 0)
def E9 (k:Nat) (a0:(List b8)) (a1:Nat→b8→Option Bool) (K0:Int→Option Int):Nat→Int→Option Int
 | 0,_=>none
 | m+1,x4=>
  (bif (decide (x4 < (a0.length:Int))) then (((idx a0 x4).bind fun v5=>(a1 k v5)).bind fun o7=>
        (bif o7 then (some x4) else
        (E9 k a0 a1 K0 m (Go.IntKind.wrap .i64 (x4+1))))) else
    (K0 x4))
def E7:Nat→((List b8))→(Nat→b8→Option Bool)→Option Int
 | 0,_,_=>none
 | k+1,a0,a1=>
  (E9 k a0 a1 (fun y8=>
   (some (-1))) k 0)
def C2:Nat→((List b8))→(Nat→b8→Option Bool)→Option Bool
 | 0,_,_=>none
 | k+1,a0,a1=>
  (((E7 k a0 a1).bind fun v1=>(some ((decide (v1 ≥ 0))))).bind fun o2=>
   (some o2))
def Q4:Nat→(b8)→(b8)→Option Bool
 | 0,_,_=>none
 | k+1,a0,a1=>
  (some (a0.fName == a1.fName))
def H5 (k:Nat) (a0:(List b8)) (a1:Int)  (K0:Int→Option Bool):Nat→Int→Option Bool
 | 0,_=>none
 | m+1,x8=>
  (bif (decide (x8 < (a0.length:Int))) then (((idx a0 x8).bind fun v9=>(some (x8,v9))).bind fun o0=>
        (((L3 k o0.2.fName).bind fun v0=>(bif (!v0) then (some (true)) else (bif (decide (o0.2.fAt < 0)) then (some (true)) else (bif (decide (o0.2.fAt ≥ a1)) then (some (true)) else (bif (decide (o0.2.fBytes < 1)) then (some (true)) else (some ((decide (o0.2.fBytes > (Go.IntKind.wrap .i64 (a1 - o0.2.fAt))))))))))).bind fun o1=>
        (bif o1 then (some false) else
        (((cut a0 0 o0.1).bind fun v1=>(C2 k v1 (fun j x0=>(Q4 j x0 o0.2)))).bind fun o2=>
         (bif o2 then (some false) else
         (H5 k a0 a1 K0 m (Go.IntKind.wrap .i64 (x8+1)))))))) else
    (K0 x8))
def V9:Nat→((List b8))→(Int)→Option Bool
 | 0,_,_=>none
 | k+1,a0,a1=>
  (H5 k a0 a1 (fun y0=>
   (some (decide ((a0.length:Int)≤5)))) k 0)
def ct:Nat→(a7)→Option Bool
 | 0,_=>none
 | k+1,a0=>
  (((L3 k a0.fName).bind fun v1=>(bif (!v1) then (some (true)) else (bif (decide (a0.fMin < 1)) then (some (true)) else (bif (decide (a0.fMin > a0.fSize)) then (some (true)) else (bif (decide (a0.fSize > 40)) then (some (true)) else ((V9 k a0.fFields a0.fSize).bind fun v2=>(some ((!v2))))))))).bind fun o3=>
   (bif o3 then (some false) else
   (bif (a0.fKey == (-1)) then (some (!a0.fUnique)) else
    ((bif (decide (a0.fKey < 0)) then (some (true)) else (some ((decide (a0.fKey ≥ (a0.fFields.length:Int)))))).bind fun o4=>
     (bif o4 then (some false) else
     (((idx a0.fFields a0.fKey).bind fun v5=>((idx a0.fFields a0.fKey).bind fun v6=>(some ((decide ((Go.IntKind.wrap .i64 (v5.fAt+v6.fBytes))≤a0.fMin)))))).bind fun o7=>
      (some o7)))))))
def F3 (k:Nat) (a0:(List a7)) (a1:Nat→a7→Option Bool) (K0:Int→Option Int):Nat→Int→Option Int
 | 0,_=>none
 | m+1,x4=>
  (bif (decide (x4 < (a0.length:Int))) then (((idx a0 x4).bind fun v5=>(a1 k v5)).bind fun o7=>
        (bif o7 then (some x4) else
        (F3 k a0 a1 K0 m (Go.IntKind.wrap .i64 (x4+1))))) else
    (K0 x4))
def B5:Nat→((List a7))→(Nat→a7→Option Bool)→Option Int
 | 0,_,_=>none
 | k+1,a0,a1=>
  (F3 k a0 a1 (fun y8=>
   (some (-1))) k 0)
def D1:Nat→((List a7))→(Nat→a7→Option Bool)→Option Bool
 | 0,_,_=>none
 | k+1,a0,a1=>
  (((B5 k a0 a1).bind fun v1=>(some ((decide (v1 ≥ 0))))).bind fun o2=>
   (some o2))
def S5:Nat→(a7)→(a7)→Option Bool
 | 0,_,_=>none
 | k+1,a0,a1=>
  (some (a0.fName == a1.fName))
def J4 (a0:(List Int)) (a1:Int)  (K0:Int→Option Int):Nat→Int→Option Int
 | 0,_=>none
 | m+1,x3=>
  (bif (decide (x3 < (a0.length:Int))) then (((idx a0 x3).bind fun v4=>(some ((a1 == v4)))).bind fun o5=>
        (bif o5 then (some x3) else
        (J4 a0 a1 K0 m (Go.IntKind.wrap .i64 (x3+1))))) else
    (K0 x3))
def U7:Nat→((List Int))→(Int)→Option Int
 | 0,_,_=>none
 | k+1,a0,a1=>
  (J4 a0 a1 (fun y6=>
   (some (-1))) k 0)
def I9 (k:Nat) (a0:(List a7))  (K0:Int→(List Int)→Option Bool):Nat→Int→(List Int)→Option Bool
 | 0,_,_=>none
 | m+1,x1,x2=>
  (bif (decide (x1 < (a0.length:Int))) then (((idx a0 x1).bind fun v0=>(some (x1,v0))).bind fun o0=>
        (((ct k o0.2).bind fun v1=>(bif (!v1) then (some (true)) else ((cut a0 0 o0.1).bind fun v2=>(D1 k v2 (fun j x0=>(S5 j x0 o0.2)))))).bind fun o1=>
        (bif o1 then (some false) else
        ((U7 k x2 o0.2.fParent).bind fun o2=>
         ((bif (o0.1 == 0) then (bif (o0.2.fParent != (-1)) then (some (true)) else (bif (decide (o0.2.fKey < 0)) then (some (true)) else (bif (!o0.2.fUnique) then (some (true)) else ((idx o0.2.fFields o0.2.fKey).bind fun v3=>(bif (decide (v3.fBytes > 24)) then (some (true)) else (bif (decide (o0.1 > 0)) then (some ((decide (o2 < 0)))) else (some (false)))))))) else (bif (decide (o0.1 > 0)) then (some ((decide (o2 < 0)))) else (some (false)))).bind fun o3=>
         (bif o3 then (some false) else
         (((rM x2 (Go.IntKind.wrap .i64 (o2+1))).bind fun v4=>(app (List.take v4 x2) ([o0.1]:List Int))).bind fun o4=>
          (bif (decide ((o4.length:Int) > 5)) then (some false) else
          (I9 k a0 K0 m (Go.IntKind.wrap .i64 (x1+1)) o4))))))))) else
    (K0 x1 x2))
def ac:Nat→((List a7))→Option Bool
 | 0,_=>none
 | k+1,a0=>
  ((bif (decide ((a0.length:Int) < 1)) then (some (true)) else (some ((decide ((a0.length:Int) > 8))))).bind fun o1=>
   (bif o1 then (some false) else
   (I9 k a0 (fun y0 y1=>
    (some true)) k 0 ([]:List Int))))
def D9 (k:Nat) (a0:(List a8)) (a1:Nat→a8→Option Bool) (K0:Int→Option Int):Nat→Int→Option Int
 | 0,_=>none
 | m+1,x4=>
  (bif (decide (x4 < (a0.length:Int))) then (((idx a0 x4).bind fun v5=>(a1 k v5)).bind fun o7=>
        (bif o7 then (some x4) else
        (D9 k a0 a1 K0 m (Go.IntKind.wrap .i64 (x4+1))))) else
    (K0 x4))
def I8:Nat→((List a8))→(Nat→a8→Option Bool)→Option Int
 | 0,_,_=>none
 | k+1,a0,a1=>
  (D9 k a0 a1 (fun y8=>
   (some (-1))) k 0)
def C0:Nat→((List a8))→(Nat→a8→Option Bool)→Option Bool
 | 0,_,_=>none
 | k+1,a0,a1=>
  (((I8 k a0 a1).bind fun v1=>(some ((decide (v1 ≥ 0))))).bind fun o2=>
   (some o2))
def P1:Nat→(a8)→(a8)→Option Bool
 | 0,_,_=>none
 | k+1,a0,a1=>
  (some (a0.fName == a1.fName))
def G0 (k:Nat) (a0:(List a8)) (a1:(List a7))  (K0:Int→Option Bool):Nat→Int→Option Bool
 | 0,_=>none
 | m+1,x1=>
  (bif (decide (x1 < (a0.length:Int))) then (((idx a0 x1).bind fun v0=>(some (x1,v0))).bind fun o0=>
        (((L3 k o0.2.fName).bind fun v1=>(bif (!v1) then (some (true)) else (bif (decide (o0.2.fType < 0)) then (some (true)) else (bif (decide (o0.2.fType ≥ (a1.length:Int))) then (some (true)) else (bif (decide ((o0.2.fSparse.length:Int) > 1)) then (some (true)) else ((cut a0 0 o0.1).bind fun v2=>(C0 k v2 (fun j x0=>(P1 j x0 o0.2))))))))).bind fun o1=>
        (bif o1 then (some false) else
        (((idx a1 o0.2.fType).bind fun v3=>(some (v3.fFields))).bind fun o2=>
         ((bif (decide (o0.2.fField < 0)) then (some (true)) else (bif (decide (o0.2.fField ≥ (o2.length:Int))) then (some (true)) else ((idx o2 o0.2.fField).bind fun v4=>(some ((decide (v4.fBytes > 20))))))).bind fun o3=>
         (bif o3 then (some false) else
         (G0 k a0 a1 K0 m (Go.IntKind.wrap .i64 (x1+1))))))))) else
    (K0 x1))
def S4:Nat→((List a8))→((List a7))→Option Bool
 | 0,_,_=>none
 | k+1,a0,a1=>
  (G0 k a0 a1 (fun y0=>
   (some (decide ((a0.length:Int)≤3)))) k 0)
def Y3:Nat→(a6)→Option Bool
 | 0,_=>none
 | k+1,a0=>
  (((L3 k a0.fName).bind fun v1=>(bif v1 then (bif (decide (a0.fKind ≥ 1)) then (bif (decide (a0.fKind≤4)) then ((ac k a0.fTypes).bind fun v2=>(bif v2 then (S4 k a0.fIndexes a0.fTypes) else (some (false)))) else (some (false))) else (some (false))) else (some (false)))).bind fun o4=>
   (some o4))
def F6 (k:Nat) (a0:(List Int)) (a1:Nat→Int→Option Bool) (K0:Int→Option Int):Nat→Int→Option Int
 | 0,_=>none
 | m+1,x4=>
  (bif (decide (x4 < (a0.length:Int))) then (((idx a0 x4).bind fun v5=>(a1 k v5)).bind fun o7=>
        (bif o7 then (some x4) else
        (F6 k a0 a1 K0 m (Go.IntKind.wrap .i64 (x4+1))))) else
    (K0 x4))
def O4:Nat→((List Int))→(Nat→Int→Option Bool)→Option Int
 | 0,_,_=>none
 | k+1,a0,a1=>
  (F6 k a0 a1 (fun y8=>
   (some (-1))) k 0)
def D6:Nat→((List Int))→(Nat→Int→Option Bool)→Option Bool
 | 0,_,_=>none
 | k+1,a0,a1=>
  (((O4 k a0 a1).bind fun v1=>(some ((decide (v1 ≥ 0))))).bind fun o2=>
   (some o2))
def Y4:Nat→(Int)→(a6)→Option Bool
 | 0,_,_=>none
 | k+1,a0,a1=>
  ((bif (decide (a0 < 0)) then (some (true)) else (some ((decide (a0 ≥ (a1.fTypes.length:Int)))))).bind fun o1=>
   (some o1))
def ch:Nat→(a6)→((List Int))→Option Int
 | 0,_,_=>none
 | k+1,a0,a1=>
  (((Y3 k a0).bind fun v1=>(some ((!v1)))).bind fun o2=>
   (bif o2 then (some 100) else
   ((D6 k a1 (fun j x0=>(Y4 j x0 a0))).bind fun o4=>
    (bif o4 then (some 2) else
    (some 0)))))
def slices_Reverse_int:Nat→List Int→Option (List Int)
 | 0,_=>none
 | _+1,l=>lM l
def X4 (a0:a6)  (K0:Int→(List Int)→Option (List Int)):Nat→Int→(List Int)→Option (List Int)
 | 0,_,_=>none
 | m+1,x5,x6=>
  (bif (decide (x5 ≥ 0)) then ((app x6 ([x5]:List Int)).bind fun o8=>
        (((idx a0.fTypes x5).bind fun v9=>(some (v9.fParent))).bind fun o0=>
        (X4 a0 K0 m o0 o8))) else
    (K0 x5 x6))
def jP:Nat→(a6)→(Int)→Option (List Int)
 | 0,_,_=>none
 | k+1,a0,a1=>
  (X4 a0 (fun y0 y1=>
   (((slices_Reverse_int k y1).bind (bh y1)).bind fun o0=>
    (some o0))) k a1 ([]:List Int))
def jI:Nat→(a6)→(Int)→Option ((List Int)×Int)
 | 0,_,_=>none
 | k+1,a0,a1=>
  ((ch k a0 ([a1]:List Int)).bind fun o2=>
   (bif (o2 != 0) then (some (([]:List Int),o2)) else
   (((jP k a0 a1).bind fun v3=>(some (v3,0))).bind fun o4=>
    (some (o4.1,o4.2)))))
def G6 (a0:a6) (a1:Int)  (K0:(List Int)→Int→Option ((List Int)×Int)):Nat→(List Int)→Int→Option ((List Int)×Int)
 | 0,_,_=>none
 | m+1,x7,x8=>
  (bif (decide (x8 < (a0.fTypes.length:Int))) then (((idx a0.fTypes x8).bind fun v9=>(some (x8,v9))).bind fun o0=>
        (bif (o0.2.fParent == a1) then ((app x7 ([o0.1]:List Int)).bind fun o1=>
         (G6 a0 a1 K0 m o1 (Go.IntKind.wrap .i64 (x8+1)))) else
        (G6 a0 a1 K0 m x7 (Go.IntKind.wrap .i64 (x8+1))))) else
    (K0 x7 x8))
def Z8:Nat→(a6)→(Int)→Option ((List Int)×Int)
 | 0,_,_=>none
 | k+1,a0,a1=>
  ((ch k a0 ([a1]:List Int)).bind fun o2=>
   (bif (o2 != 0) then (some (([]:List Int),o2)) else
   (G6 a0 a1 (fun y0 y1=>
    (some (y0,0))) k ([]:List Int) 0)))
def G3 (a0:(List Int)) (a1:(List Int))  (K0:Int→Option Bool):Nat→Int→Option Bool
 | 0,_=>none
 | m+1,x4=>
  (bif (decide (x4 < (a0.length:Int))) then (((idx a0 x4).bind fun v5=>((idx a1 x4).bind fun v6=>(some ((v5 != v6))))).bind fun o7=>
        (bif o7 then (some false) else
        (G3 a0 a1 K0 m (Go.IntKind.wrap .i64 (x4+1))))) else
    (K0 x4))
def P2:Nat→((List Int))→((List Int))→Option Bool
 | 0,_,_=>none
 | k+1,a0,a1=>
  (bif ((a0.length:Int) != (a1.length:Int)) then (some false) else
   (G3 a0 a1 (fun y8=>
    (some true)) k 0))
def S9:Nat→Option Bool
 | 0=>none
 | k+1=>
  (((X7 k).bind fun v1=>((jI k v1 2).bind fun v2=>(some (v2.1,v2.2)))).bind fun o3=>
   (((X7 k).bind fun v4=>((Z8 k v4 0).bind fun v5=>(some (v5.1,v5.2)))).bind fun o6=>
   ((bif (o3.2 == 0) then (bif (o6.2 == 0) then ((P2 k o3.1 ([0,1,2]:List Int)).bind fun v7=>(bif v7 then (P2 k o6.1 ([1,3]:List Int)) else (some (false)))) else (some (false))) else (some (false))).bind fun o9=>
   (some o9))))
def strconv_Itoa:Nat→Int→Option Str
 | 0,_=>none
 | _+1,n=>sJ n
def strings_Join:Nat→List Str→Str→Option Str
 | 0,_,_=>none
 | _+1,s,n=>nU s n
def F7:Nat→Str→Str→Option Str
 | 0,_,_=>none
 | _+1,b,s=>eC b s
def H4:Nat→Str→Int→Option Str
 | 0,_,_=>none
 | _+1,b,s=>xb b s
def w8:Nat→(Str)→((List Str))→Option (Str)
 | 0,_,_=>none
 | k+1,a0,a1=>
  (((strings_Join k a1 ([32]:Str)).bind fun v1=>(F7 k a0 v1)).bind fun o3=>
   ((H4 k o3 10).bind fun o5=>
   (some o5)))
def J8:Nat→Str→Option Str
 | 0,_=>none
 | _+1,b=>kZ b
def E0 (k:Nat) (o0:a7)  (K0:Int→Str→Option (Str×Int)):Nat→Int→Str→Option (Str×Int)
 | 0,_,_=>none
 | m+1,x0,x1=>
  (bif (decide (x0 < (o0.fFields.length:Int))) then (((idx o0.fFields x0).bind fun v0=>(some (x0,v0))).bind fun o1=>
        (bif (o1.1 == o0.fKey) then (bif o0.fUnique then (((strconv_Itoa k o1.2.fAt).bind fun v1=>((strconv_Itoa k o1.2.fBytes).bind fun v2=>(w8 k x1 ([([70,73,69,76,68]:Str),o1.2.fName,v1,v2,([85]:Str)]:List Str)))).bind fun o2=>
          (E0 k o0 K0 m (Go.IntKind.wrap .i64 (x0+1)) o2)) else
         (((strconv_Itoa k o1.2.fAt).bind fun v3=>((strconv_Itoa k o1.2.fBytes).bind fun v4=>(w8 k x1 ([([70,73,69,76,68]:Str),o1.2.fName,v3,v4,([77]:Str)]:List Str)))).bind fun o3=>
          (E0 k o0 K0 m (Go.IntKind.wrap .i64 (x0+1)) o3))) else
        (((strconv_Itoa k o1.2.fAt).bind fun v5=>((strconv_Itoa k o1.2.fBytes).bind fun v6=>(w8 k x1 ([([70,73,69,76,68]:Str),o1.2.fName,v5,v6,([45]:Str)]:List Str)))).bind fun o4=>
         (E0 k o0 K0 m (Go.IntKind.wrap .i64 (x0+1)) o4)))) else
    (K0 x0 x1))
def F2 (k:Nat) (a0:a6)  (K0:Int→Str→Option (Str×Int)):Nat→Int→Str→Option (Str×Int)
 | 0,_,_=>none
 | m+1,x0,x1=>
  (bif (decide (x0 < (a0.fTypes.length:Int))) then ((idx a0.fTypes x0).bind fun o0=>
        (bif (decide (o0.fParent ≥ 0)) then (((idx a0.fTypes o0.fParent).bind fun v0=>(some (v0.fName))).bind fun o1=>
         (bif o0.fLast then (((strconv_Itoa k o0.fMin).bind fun v1=>((strconv_Itoa k o0.fSize).bind fun v2=>(w8 k x1 ([([83,69,71,77]:Str),o0.fName,o1,v1,v2,([76]:Str)]:List Str)))).bind fun o2=>
          (E0 k o0 (fun y0 y1=>
          (F2 k a0 K0 m (Go.IntKind.wrap .i64 (x0+1)) y1)) k 0 o2)) else
         (((strconv_Itoa k o0.fMin).bind fun v3=>((strconv_Itoa k o0.fSize).bind fun v4=>(w8 k x1 ([([83,69,71,77]:Str),o0.fName,o1,v3,v4,([70]:Str)]:List Str)))).bind fun o3=>
          (E0 k o0 (fun y2 y3=>
          (F2 k a0 K0 m (Go.IntKind.wrap .i64 (x0+1)) y3)) k 0 o3)))) else
        (bif o0.fLast then (((strconv_Itoa k o0.fMin).bind fun v5=>((strconv_Itoa k o0.fSize).bind fun v6=>(w8 k x1 ([([83,69,71,77]:Str),o0.fName,([45]:Str),v5,v6,([76]:Str)]:List Str)))).bind fun o4=>
          (E0 k o0 (fun y4 y5=>
          (F2 k a0 K0 m (Go.IntKind.wrap .i64 (x0+1)) y5)) k 0 o4)) else
         (((strconv_Itoa k o0.fMin).bind fun v7=>((strconv_Itoa k o0.fSize).bind fun v8=>(w8 k x1 ([([83,69,71,77]:Str),o0.fName,([45]:Str),v7,v8,([70]:Str)]:List Str)))).bind fun o5=>
          (E0 k o0 (fun y6 y7=>
          (F2 k a0 K0 m (Go.IntKind.wrap .i64 (x0+1)) y7)) k 0 o5))))) else
    (K0 x0 x1))
def J9 (k:Nat) (a0:a6)  (K0:Int→Str→Option (Str×Int)):Nat→Int→Str→Option (Str×Int)
 | 0,_,_=>none
 | m+1,x0,x1=>
  (bif (decide (x0 < (a0.fIndexes.length:Int))) then ((idx a0.fIndexes x0).bind fun o0=>
        (bif (!(o0.fSparse == ([]:Str))) then ((X6 o0.fSparse 0).bind fun o1=>
         (((rF .u8 o1 4).bind fun v0=>((rF .u8 o1 4).bind fun v1=>((cut ([48,49,50,51,52,53,54,55,56,57,97,98,99,100,101,102]:Str) v0 (Go.IntKind.wrap .u8 (v1+1))).bind fun v2=>((cut ([48,49,50,51,52,53,54,55,56,57,97,98,99,100,101,102]:Str) (kW .u8 o1 15) (Go.IntKind.wrap .u8 ((kW .u8 o1 15)+1))).bind fun v3=>(cat v2 v3))))).bind fun o2=>
         ((idx a0.fTypes o0.fType).bind fun o3=>
         (((idx o3.fFields o0.fField).bind fun v4=>(w8 k x1 ([([73,78,68,69,88]:Str),o0.fName,o3.fName,v4.fName,o2]:List Str))).bind fun o4=>
         (J9 k a0 K0 m (Go.IntKind.wrap .i64 (x0+1)) o4))))) else
        ((idx a0.fTypes o0.fType).bind fun o5=>
         (((idx o5.fFields o0.fField).bind fun v5=>(w8 k x1 ([([73,78,68,69,88]:Str),o0.fName,o5.fName,v5.fName,([45]:Str)]:List Str))).bind fun o6=>
         (J9 k a0 K0 m (Go.IntKind.wrap .i64 (x0+1)) o6))))) else
    (K0 x0 x1))
def S0:Nat→(a6)→Option (Str×Int)
 | 0,_=>none
 | k+1,a0=>
  (((Y3 k a0).bind fun v1=>(some ((!v1)))).bind fun o2=>
   (bif o2 then (some (([]:Str),100)) else
   (((strconv_Itoa k a0.fKind).bind fun v3=>(w8 k ([]:Str) ([([68,66,68]:Str),a0.fName,v3]:List Str))).bind fun o5=>
    (F2 k a0 (fun y0 y1=>
    (J9 k a0 (fun y2 y3=>
     (((J8 k y3).bind fun v0=>(some (v0,0))).bind fun o0=>
      (some (o0.1,o0.2)))) k 0 y1)) k 0 o5))))
def N2 (a0:Str)  (K0:Int→Option Bool):Nat→Int→Option Bool
 | 0,_=>none
 | m+1,x7=>
  (bif (decide (x7 < (a0.length:Int))) then (((X6 a0 x7).bind fun v8=>(bif (decide (v8 ≥ 65)) then ((X6 a0 x7).bind fun v9=>(some ((decide (v9≤90))))) else (some (false)))).bind fun o0=>
        ((bif (!o0) then (bif (x7 == 0) then (some (true)) else ((X6 a0 x7).bind fun v0=>(bif (decide (v0 < 48)) then (some (true)) else ((X6 a0 x7).bind fun v1=>(some ((decide (v1 > 57)))))))) else (some (false))).bind fun o1=>
        (bif o1 then (some false) else
        (N2 a0 K0 m (Go.IntKind.wrap .i64 (x7+1)))))) else
    (K0 x7))
def G4:Nat→(Str)→Option Bool
 | 0,_=>none
 | k+1,a0=>
  (N2 a0 (fun y0=>
   ((bif (decide ((a0.length:Int) ≥ 1)) then (some ((decide ((a0.length:Int)≤8)))) else (some (false))).bind fun o0=>
    (some o0))) k 0)
def G9 (a0:a7) (x0:Int) (o0:b8)  (K0:Int→Option Bool):Nat→Int→Option Bool
 | 0,_=>none
 | m+1,x1=>
  (bif (decide (x1 < x0)) then (((idx a0.fFields x1).bind fun v0=>(some ((v0.fName == o0.fName)))).bind fun o1=>
        (bif o1 then (some false) else
        (G9 a0 x0 o0 K0 m (Go.IntKind.wrap .i64 (x1+1))))) else
    (K0 x1))
def J2 (k:Nat) (a0:a7)  (K0:Int→Option Bool):Nat→Int→Option Bool
 | 0,_=>none
 | m+1,x0=>
  (bif (decide (x0 < (a0.fFields.length:Int))) then ((idx a0.fFields x0).bind fun o0=>
        (((G4 k o0.fName).bind fun v0=>(bif (!v0) then (some (true)) else (bif (decide (o0.fAt < 0)) then (some (true)) else (bif (decide (o0.fAt > a0.fSize)) then (some (true)) else (bif (decide (o0.fBytes < 1)) then (some (true)) else (some ((decide (o0.fBytes > (Go.IntKind.wrap .i64 (a0.fSize - o0.fAt))))))))))).bind fun o1=>
        (bif o1 then (some false) else
        (G9 a0 x0 o0 (fun y0=>
         (J2 k a0 K0 m (Go.IntKind.wrap .i64 (x0+1)))) k 0)))) else
    (K0 x0))
def ap:Nat→(a7)→Option Bool
 | 0,_=>none
 | k+1,a0=>
  (J2 k a0 (fun y0=>
   ((bif (decide (a0.fKey < (-1))) then (some (true)) else (bif (decide (a0.fKey ≥ (a0.fFields.length:Int))) then (some (true)) else (bif (decide (a0.fKey < 0)) then (some (a0.fUnique)) else (some (false))))).bind fun o0=>
    (bif o0 then (some false) else
    ((bif (decide ((a0.fFields.length:Int)≤5)) then (bif (decide (a0.fKey < 0)) then (some (true)) else ((idx a0.fFields a0.fKey).bind fun v0=>((idx a0.fFields a0.fKey).bind fun v1=>(some ((decide ((Go.IntKind.wrap .i64 (v0.fAt+v1.fBytes))≤a0.fMin))))))) else (some (false))).bind fun o1=>
     (some o1))))) k 0)
def P3 (a0:a6) (a1:Int)  (K0:Int→Option Bool):Nat→Int→Option Bool
 | 0,_=>none
 | m+1,x5=>
  (bif (decide (x5 ≥ 0)) then (bif (x5 == a1) then (some true) else
        (((idx a0.fTypes x5).bind fun v6=>(some (v6.fParent))).bind fun o7=>
         (P3 a0 a1 K0 m o7))) else
    (K0 x5))
def bq:Nat→(a6)→(Int)→(Int)→Option Bool
 | 0,_,_,_=>none
 | k+1,a0,a1,a2=>
  (((idx a0.fTypes a2).bind fun v1=>(some (v1.fParent))).bind fun o2=>
   (P3 a0 a1 (fun y8=>
   (some false)) k o2))
def Q0 (a0:a6)  (K0:Int→(List Int)→Option (List Int)):Nat→Int→(List Int)→Option (List Int)
 | 0,_,_=>none
 | m+1,x5,x6=>
  (bif (decide (x5 ≥ 0)) then ((app ([x5]:List Int) x6).bind fun o8=>
        (((idx a0.fTypes x5).bind fun v9=>(some (v9.fParent))).bind fun o0=>
        (Q0 a0 K0 m o0 o8))) else
    (K0 x5 x6))
def cl:Nat→(a6)→(Int)→Option (List Int)
 | 0,_,_=>none
 | k+1,a0,a1=>
  (Q0 a0 (fun y0 y1=>
   (some y1)) k a1 ([]:List Int))
def I3 (a0:a6) (x0:Int) (o0:a7)  (K0:Int→Option Bool):Nat→Int→Option Bool
 | 0,_=>none
 | m+1,x1=>
  (bif (decide (x1 < x0)) then (((idx a0.fTypes x1).bind fun v0=>(some ((v0.fName == o0.fName)))).bind fun o1=>
        (bif o1 then (some false) else
        (I3 a0 x0 o0 K0 m (Go.IntKind.wrap .i64 (x1+1))))) else
    (K0 x1))
def G5 (k:Nat) (a0:a6)  (K0:Int→Option Bool):Nat→Int→Option Bool
 | 0,_=>none
 | m+1,x0=>
  (bif (decide (x0 < (a0.fTypes.length:Int))) then ((idx a0.fTypes x0).bind fun o0=>
        (((G4 k o0.fName).bind fun v0=>(bif (!v0) then (some (true)) else (bif (decide (o0.fMin < 1)) then (some (true)) else (bif (decide (o0.fMin > o0.fSize)) then (some (true)) else (bif (decide (o0.fSize > 40)) then (some (true)) else ((ap k o0).bind fun v1=>(some ((!v1))))))))).bind fun o1=>
        (bif o1 then (some false) else
        (I3 a0 x0 o0 (fun y0=>
         (bif (x0 == 0) then ((bif (o0.fParent != (-1)) then (some (true)) else (bif (decide (o0.fKey < 0)) then (some (true)) else (bif (!o0.fUnique) then (some (true)) else ((idx o0.fFields o0.fKey).bind fun v2=>(some ((decide (v2.fBytes > 24)))))))).bind fun o2=>
           (bif o2 then (some false) else
           (G5 k a0 K0 m (Go.IntKind.wrap .i64 (x0+1))))) else
          ((bif (decide (o0.fParent < 0)) then (some (true)) else (bif (decide (o0.fParent ≥ x0)) then (some (true)) else (bif (o0.fParent != (Go.IntKind.wrap .i64 (x0 - 1))) then ((bq k a0 o0.fParent (Go.IntKind.wrap .i64 (x0 - 1))).bind fun v3=>(bif (!v3) then (some (true)) else ((cl k a0 x0).bind fun v4=>(some ((decide ((v4.length:Int) > 5))))))) else ((cl k a0 x0).bind fun v5=>(some ((decide ((v5.length:Int) > 5)))))))).bind fun o3=>
           (bif o3 then (some false) else
           (G5 k a0 K0 m (Go.IntKind.wrap .i64 (x0+1))))))) k 0)))) else
    (K0 x0))
def I5 (a0:a6) (x0:Int) (o0:a8)  (K0:Int→Option Bool):Nat→Int→Option Bool
 | 0,_=>none
 | m+1,x1=>
  (bif (decide (x1 < x0)) then (((idx a0.fIndexes x1).bind fun v0=>(some ((v0.fName == o0.fName)))).bind fun o1=>
        (bif o1 then (some false) else
        (I5 a0 x0 o0 K0 m (Go.IntKind.wrap .i64 (x1+1))))) else
    (K0 x1))
def I4 (k:Nat) (a0:a6)  (K0:Int→Option Bool):Nat→Int→Option Bool
 | 0,_=>none
 | m+1,x0=>
  (bif (decide (x0 < (a0.fIndexes.length:Int))) then ((idx a0.fIndexes x0).bind fun o0=>
        (((G4 k o0.fName).bind fun v0=>(bif (!v0) then (some (true)) else (bif (decide (o0.fType < 0)) then (some (true)) else (bif (decide (o0.fType ≥ (a0.fTypes.length:Int))) then (some (true)) else (bif (decide (o0.fField < 0)) then (some (true)) else ((idx a0.fTypes o0.fType).bind fun v1=>(bif (decide (o0.fField ≥ (v1.fFields.length:Int))) then (some (true)) else ((idx a0.fTypes o0.fType).bind fun v2=>((idx v2.fFields o0.fField).bind fun v3=>(bif (decide (v3.fBytes > 20)) then (some (true)) else (some ((decide ((o0.fSparse.length:Int) > 1)))))))))))))).bind fun o1=>
        (bif o1 then (some false) else
        (I5 a0 x0 o0 (fun y0=>
         (I4 k a0 K0 m (Go.IntKind.wrap .i64 (x0+1)))) k 0)))) else
    (K0 x0))
def T1:Nat→(a6)→Option Bool
 | 0,_=>none
 | k+1,a0=>
  (((G4 k a0.fName).bind fun v1=>(bif (!v1) then (some (true)) else (bif (decide (a0.fKind < 1)) then (some (true)) else (bif (decide (a0.fKind > 4)) then (some (true)) else (bif (decide ((a0.fTypes.length:Int) < 1)) then (some (true)) else (bif (decide ((a0.fTypes.length:Int) > 8)) then (some (true)) else (some ((decide ((a0.fIndexes.length:Int) > 3)))))))))).bind fun o2=>
   (bif o2 then (some false) else
   (G5 k a0 (fun y0=>
    (I4 k a0 (fun y1=>
     (some true)) k 0)) k 0)))
def m0:Nat→(Int)→Option Str
 | 0,_=>none
 | k+1,a0=>
  ((bif (decide (a0 < 0)) then (some ((decide (a0 > (-10))))) else (some (false))).bind fun o1=>
   (bif o1 then (((m0 k (Go.IntKind.wrap .i64 (0 - a0))).bind fun v2=>(cat ([45]:Str) v2)).bind fun o4=>
    (some o4)) else
   (bif (decide (a0 < 0)) then (((lG .i64 a0 10).bind fun v5=>((m0 k v5).bind fun v6=>((lL a0 10).bind fun v7=>((m0 k (Go.IntKind.wrap .i64 (0 - v7))).bind fun v8=>(cat v6 v8))))).bind fun o0=>
     (some o0)) else
    (bif (decide (a0 < 10)) then ((mr (Go.IntKind.wrap .i32 (Go.IntKind.wrap .i64 (48+a0)))).bind fun o2=>
      (some o2)) else
     (((lG .i64 a0 10).bind fun v0=>((m0 k v0).bind fun v1=>((lL a0 10).bind fun v3=>((mr (Go.IntKind.wrap .i32 (Go.IntKind.wrap .i64 (48+v3)))).bind fun v4=>(cat v1 v4))))).bind fun o3=>
      (some o3))))))
def al (a0:Str)  (K0:Str→Int→Option Str):Nat→Str→Int→Option Str
 | 0,_,_=>none
 | m+1,x0,x1=>
  (bif (decide (x1 < (a0.length:Int))) then (((X6 a0 x1).bind fun v0=>((lG .u8 v0 16).bind fun v1=>((X6 a0 x1).bind fun v2=>((lG .u8 v2 16).bind fun v3=>((cut ([48,49,50,51,52,53,54,55,56,57,97,98,99,100,101,102]:Str) v1 (Go.IntKind.wrap .u8 (v3+1))).bind fun v4=>((X6 a0 x1).bind fun v5=>((lL v5 16).bind fun v6=>((X6 a0 x1).bind fun v7=>((lL v7 16).bind fun v8=>((cut ([48,49,50,51,52,53,54,55,56,57,97,98,99,100,101,102]:Str) v6 (Go.IntKind.wrap .u8 (v8+1))).bind fun v9=>((cat v4 v9).bind fun va=>(cat x0 va)))))))))))).bind fun o0=>
        (al a0 K0 m o0 (Go.IntKind.wrap .i64 (x1+1)))) else
    (K0 x0 x1))
def em:Nat→(Str)→Option Str
 | 0,_=>none
 | k+1,a0=>
  (al a0 (fun y0 y1=>
   (some y0)) k ([]:Str) 0)
def B8 (k:Nat) (o0:a7)  (K0:Str→Int→Option (Str×Int)):Nat→Str→Int→Option (Str×Int)
 | 0,_,_=>none
 | m+1,x0,x1=>
  (bif (decide (x1 < (o0.fFields.length:Int))) then ((idx o0.fFields x1).bind fun o1=>
        (bif (x1 == o0.fKey) then (bif o0.fUnique then (((cat ([70,73,69,76,68,32]:Str) o1.fName).bind fun v0=>((cat v0 ([32]:Str)).bind fun v1=>((m0 k o1.fAt).bind fun v2=>((cat v1 v2).bind fun v3=>((cat v3 ([32]:Str)).bind fun v4=>((m0 k o1.fBytes).bind fun v5=>((cat v4 v5).bind fun v6=>((cat v6 ([32]:Str)).bind fun v7=>((cat v7 ([85]:Str)).bind fun v8=>((cat v8 ([10]:Str)).bind fun v9=>(cat x0 v9))))))))))).bind fun o2=>
          (B8 k o0 K0 m o2 (Go.IntKind.wrap .i64 (x1+1)))) else
         (((cat ([70,73,69,76,68,32]:Str) o1.fName).bind fun va=>((cat va ([32]:Str)).bind fun vb=>((m0 k o1.fAt).bind fun vc=>((cat vb vc).bind fun vd=>((cat vd ([32]:Str)).bind fun ve=>((m0 k o1.fBytes).bind fun vf=>((cat ve vf).bind fun vg=>((cat vg ([32]:Str)).bind fun vh=>((cat vh ([77]:Str)).bind fun vi=>((cat vi ([10]:Str)).bind fun vj=>(cat x0 vj))))))))))).bind fun o3=>
          (B8 k o0 K0 m o3 (Go.IntKind.wrap .i64 (x1+1))))) else
        (((cat ([70,73,69,76,68,32]:Str) o1.fName).bind fun vk=>((cat vk ([32]:Str)).bind fun vl=>((m0 k o1.fAt).bind fun vm=>((cat vl vm).bind fun vn=>((cat vn ([32]:Str)).bind fun vo=>((m0 k o1.fBytes).bind fun vp=>((cat vo vp).bind fun vq=>((cat vq ([32]:Str)).bind fun vr=>((cat vr ([45]:Str)).bind fun vs=>((cat vs ([10]:Str)).bind fun vt=>(cat x0 vt))))))))))).bind fun o4=>
         (B8 k o0 K0 m o4 (Go.IntKind.wrap .i64 (x1+1)))))) else
    (K0 x0 x1))
def C8 (k:Nat) (a0:a6)  (K0:Str→Int→Option (Str×Int)):Nat→Str→Int→Option (Str×Int)
 | 0,_,_=>none
 | m+1,x0,x1=>
  (bif (decide (x1 < (a0.fTypes.length:Int))) then ((idx a0.fTypes x1).bind fun o0=>
        (bif (decide (o0.fParent ≥ 0)) then (((idx a0.fTypes o0.fParent).bind fun v0=>(some (v0.fName))).bind fun o1=>
         (bif o0.fLast then (((cat ([83,69,71,77,32]:Str) o0.fName).bind fun v1=>((cat v1 ([32]:Str)).bind fun v2=>((cat v2 o1).bind fun v3=>((cat v3 ([32]:Str)).bind fun v4=>((m0 k o0.fMin).bind fun v5=>((cat v4 v5).bind fun v6=>((cat v6 ([32]:Str)).bind fun v7=>((m0 k o0.fSize).bind fun v8=>((cat v7 v8).bind fun v9=>((cat v9 ([32]:Str)).bind fun va=>((cat va ([76]:Str)).bind fun vb=>((cat vb ([10]:Str)).bind fun vc=>(cat x0 vc))))))))))))).bind fun o2=>
          (B8 k o0 (fun y0 y1=>
          (C8 k a0 K0 m y0 (Go.IntKind.wrap .i64 (x1+1)))) k o2 0)) else
         (((cat ([83,69,71,77,32]:Str) o0.fName).bind fun vd=>((cat vd ([32]:Str)).bind fun ve=>((cat ve o1).bind fun vf=>((cat vf ([32]:Str)).bind fun vg=>((m0 k o0.fMin).bind fun vh=>((cat vg vh).bind fun vi=>((cat vi ([32]:Str)).bind fun vj=>((m0 k o0.fSize).bind fun vk=>((cat vj vk).bind fun vl=>((cat vl ([32]:Str)).bind fun vm=>((cat vm ([70]:Str)).bind fun vn=>((cat vn ([10]:Str)).bind fun vo=>(cat x0 vo))))))))))))).bind fun o3=>
          (B8 k o0 (fun y2 y3=>
          (C8 k a0 K0 m y2 (Go.IntKind.wrap .i64 (x1+1)))) k o3 0)))) else
        (bif o0.fLast then (((cat ([83,69,71,77,32]:Str) o0.fName).bind fun vp=>((cat vp ([32]:Str)).bind fun vq=>((cat vq ([45]:Str)).bind fun vr=>((cat vr ([32]:Str)).bind fun vs=>((m0 k o0.fMin).bind fun vt=>((cat vs vt).bind fun vu=>((cat vu ([32]:Str)).bind fun vv=>((m0 k o0.fSize).bind fun vw=>((cat vv vw).bind fun vx=>((cat vx ([32]:Str)).bind fun vy=>((cat vy ([76]:Str)).bind fun vz=>((cat vz ([10]:Str)).bind fun vA=>(cat x0 vA))))))))))))).bind fun o4=>
          (B8 k o0 (fun y4 y5=>
          (C8 k a0 K0 m y4 (Go.IntKind.wrap .i64 (x1+1)))) k o4 0)) else
         (((cat ([83,69,71,77,32]:Str) o0.fName).bind fun vB=>((cat vB ([32]:Str)).bind fun vC=>((cat vC ([45]:Str)).bind fun vD=>((cat vD ([32]:Str)).bind fun vE=>((m0 k o0.fMin).bind fun vF=>((cat vE vF).bind fun vG=>((cat vG ([32]:Str)).bind fun vH=>((m0 k o0.fSize).bind fun vI=>((cat vH vI).bind fun vJ=>((cat vJ ([32]:Str)).bind fun vK=>((cat vK ([70]:Str)).bind fun vL=>((cat vL ([10]:Str)).bind fun vM=>(cat x0 vM))))))))))))).bind fun o5=>
          (B8 k o0 (fun y6 y7=>
          (C8 k a0 K0 m y6 (Go.IntKind.wrap .i64 (x1+1)))) k o5 0))))) else
    (K0 x0 x1))
def G8 (k:Nat) (a0:a6)  (K0:Str→Int→Option (Str×Int)):Nat→Str→Int→Option (Str×Int)
 | 0,_,_=>none
 | m+1,x0,x1=>
  (bif (decide (x1 < (a0.fIndexes.length:Int))) then ((idx a0.fIndexes x1).bind fun o0=>
        (bif (!(o0.fSparse == ([]:Str))) then ((em k o0.fSparse).bind fun o1=>
         (((cat ([73,78,68,69,88,32]:Str) o0.fName).bind fun v0=>((cat v0 ([32]:Str)).bind fun v1=>((idx a0.fTypes o0.fType).bind fun v2=>((cat v1 v2.fName).bind fun v3=>((cat v3 ([32]:Str)).bind fun v4=>((idx a0.fTypes o0.fType).bind fun v5=>((idx v5.fFields o0.fField).bind fun v6=>((cat v4 v6.fName).bind fun v7=>((cat v7 ([32]:Str)).bind fun v8=>((cat v8 o1).bind fun v9=>((cat v9 ([10]:Str)).bind fun va=>(cat x0 va)))))))))))).bind fun o2=>
         (G8 k a0 K0 m o2 (Go.IntKind.wrap .i64 (x1+1))))) else
        (((cat ([73,78,68,69,88,32]:Str) o0.fName).bind fun vb=>((cat vb ([32]:Str)).bind fun vc=>((idx a0.fTypes o0.fType).bind fun vd=>((cat vc vd.fName).bind fun ve=>((cat ve ([32]:Str)).bind fun vf=>((idx a0.fTypes o0.fType).bind fun vg=>((idx vg.fFields o0.fField).bind fun vh=>((cat vf vh.fName).bind fun vi=>((cat vi ([32]:Str)).bind fun vj=>((cat vj ([45]:Str)).bind fun vk=>((cat vk ([10]:Str)).bind fun vl=>(cat x0 vl)))))))))))).bind fun o3=>
         (G8 k a0 K0 m o3 (Go.IntKind.wrap .i64 (x1+1)))))) else
    (K0 x0 x1))
def am:Nat→(a6)→Option (Str×Int)
 | 0,_=>none
 | k+1,a0=>
  (((T1 k a0).bind fun v1=>(some ((!v1)))).bind fun o2=>
   (bif o2 then (some (([]:Str),100)) else
   (((cat ([68,66,68,32]:Str) a0.fName).bind fun v3=>((cat v3 ([32]:Str)).bind fun v4=>((m0 k a0.fKind).bind fun v5=>((cat v4 v5).bind fun v6=>(cat v6 ([10]:Str)))))).bind fun o8=>
    (C8 k a0 (fun y0 y1=>
    (G8 k a0 (fun y2 y3=>
     (some (y2,0))) k y0 0)) k o8 0))))
def Y1:Nat→Str→Str→Option (List Str)
 | 0,_,_=>none
 | _+1,s,t=>xR s t
def strings_TrimSuffix:Nat→Str→Str→Option Str
 | 0,_,_=>none
 | _+1,s,t=>dJ s t
def strings_Split:Nat→Str→Str→Option (List Str)
 | 0,_,_=>none
 | _+1,s,t=>rG s t
def X3:Nat→Str→Option (Int×Bool)
 | 0,_=>none
 | _+1,s=>od false s
def P6:Nat→(Str)→(Str)→Option (Int×Int×Bool)
 | 0,_,_=>none
 | k+1,a0,a1=>
  (((X3 k a0).bind fun v1=>(some (v1.1,v1.2))).bind fun o2=>
   (((X3 k a1).bind fun v3=>(some (v3.1,v3.2))).bind fun o4=>
   ((bif o2.2 then (some (o2.1,o4.1,o4.2)) else (some (o2.1,o4.1,false))).bind fun o5=>
   (some (o5.1,o5.2.1,o5.2.2)))))
def Y6:Nat→(a7)→((List Str))→Option Bool
 | 0,_,_=>none
 | k+1,a0,a1=>
  (((idx a1 2).bind fun v1=>(some ((a0.fName == v1)))).bind fun o2=>
   (some o2))
def Y5:Nat→(a6)→((List Str))→Option (Bool×a6)
 | 0,_,_=>none
 | k+1,a0,a1=>
  (((idx a1 3).bind fun v1=>((idx a1 4).bind fun v2=>((P6 k v1 v2).bind fun v3=>(some (v3.1,v3.2.1,v3.2.2))))).bind fun o4=>
   (((idx a1 2).bind fun v5=>(some ((!(v5 == ([45]:Str)))))).bind fun o6=>
   (bif o6 then (((B5 k a0.fTypes (fun j x0=>(Y6 j x0 a1))).bind fun v7=>(some (v7))).bind fun o8=>
    ((bif o4.2.2 then (some ((decide (o8 ≥ 0)))) else (some (false))).bind fun o9=>
    (((idx a1 1).bind fun v0=>((idx a1 5).bind fun v4=>((app a0.fTypes [({ fName:=v0,fParent:=o8,fMin:=o4.1,fSize:=o4.2.1,fFields:=([]:List b8),fKey:=(-1),fUnique:=false,fLast:=(v4 == ([76]:Str)) }:a7)]).bind fun v6=>(some (v6))))).bind fun o0=>
    ((bif o9 then ((idx a1 5).bind fun v8=>(bif (v8 == ([76]:Str)) then (some (true)) else ((idx a1 5).bind fun v9=>(some ((v9 == ([70]:Str))))))) else (some (false))).bind fun o1=>
    (some (o1,({ fName:=a0.fName,fKind:=a0.fKind,fTypes:=o0,fIndexes:=a0.fIndexes }:a6))))))) else
   (((idx a1 1).bind fun va=>((idx a1 5).bind fun vb=>((app a0.fTypes [({ fName:=va,fParent:=(-1),fMin:=o4.1,fSize:=o4.2.1,fFields:=([]:List b8),fKey:=(-1),fUnique:=false,fLast:=(vb == ([76]:Str)) }:a7)]).bind fun vc=>(some (vc))))).bind fun o2=>
    ((bif o4.2.2 then ((idx a1 5).bind fun vd=>(bif (vd == ([76]:Str)) then (some (true)) else ((idx a1 5).bind fun ve=>(some ((ve == ([70]:Str))))))) else (some (false))).bind fun o3=>
    (some (o3,({ fName:=a0.fName,fKind:=a0.fKind,fTypes:=o2,fIndexes:=a0.fIndexes }:a6))))))))
def N5:Nat→(a6)→((List Str))→Option (Bool×a6)
 | 0,_,_=>none
 | k+1,a0,a1=>
  (bif ((a0.fTypes.length:Int) == 0) then (some (false,({ fName:=a0.fName,fKind:=a0.fKind,fTypes:=a0.fTypes,fIndexes:=a0.fIndexes }:a6))) else
   (((inB a0.fTypes.length (Go.IntKind.wrap .i64 ((a0.fTypes.length:Int) - 1))).bind fun v1=>(some ())).bind fun o2=>
    (((idx a1 2).bind fun v3=>((idx a1 3).bind fun v4=>((P6 k v3 v4).bind fun v5=>(some (v5.1,v5.2.1,v5.2.2))))).bind fun o6=>
    (((a0.fTypes[0+(Go.IntKind.wrap .i64 ((a0.fTypes.length:Int) - 1)).toNat]?).bind fun v7=>((idx a1 1).bind fun v8=>((app v7.fFields ([({ fName:=v8,fAt:=o6.1,fBytes:=o6.2.1 }:b8)]:List b8)).bind fun v9=>((a0.fTypes[0+(Go.IntKind.wrap .i64 ((a0.fTypes.length:Int) - 1)).toNat]?).bind fun v0=>(some ((a0.fTypes.set (0+(Go.IntKind.wrap .i64 ((a0.fTypes.length:Int) - 1)).toNat) { v7 with fFields:=v9 }))))))).bind fun o0=>
    (((idx a1 4).bind fun v2=>(some ((v2 == ([45]:Str))))).bind fun o1=>
    (bif o1 then (some (o6.2.2,({ fName:=a0.fName,fKind:=a0.fKind,fTypes:=o0,fIndexes:=a0.fIndexes }:a6))) else
    ((bif o6.2.2 then ((o0[0+(Go.IntKind.wrap .i64 ((a0.fTypes.length:Int) - 1)).toNat]?).bind fun v6=>(bif (decide (v6.fKey < 0)) then ((idx a1 4).bind fun va=>(bif (va == ([85]:Str)) then (some (true)) else ((idx a1 4).bind fun vb=>(some ((vb == ([77]:Str))))))) else (some (false)))) else (some (false))).bind fun o3=>
     (((o0[0+(Go.IntKind.wrap .i64 ((a0.fTypes.length:Int) - 1)).toNat]?).bind fun vc=>((o0[0+(Go.IntKind.wrap .i64 ((a0.fTypes.length:Int) - 1)).toNat]?).bind fun vd=>(some ((o0.set (0+(Go.IntKind.wrap .i64 ((a0.fTypes.length:Int) - 1)).toNat) { vd with fKey:=(Go.IntKind.wrap .i64 ((vc.fFields.length:Int) - 1)) }))))).bind fun o4=>
     (((idx a1 4).bind fun ve=>((o4[0+(Go.IntKind.wrap .i64 ((a0.fTypes.length:Int) - 1)).toNat]?).bind fun vf=>(some ((o4.set (0+(Go.IntKind.wrap .i64 ((a0.fTypes.length:Int) - 1)).toNat) { vf with fUnique:=(ve == ([85]:Str)) }))))).bind fun o5=>
     (some (o3,({ fName:=a0.fName,fKind:=a0.fKind,fTypes:=o5,fIndexes:=a0.fIndexes }:a6))))))))))))
def R2:Nat→(a7)→((List Str))→Option Bool
 | 0,_,_=>none
 | k+1,a0,a1=>
  (((idx a1 2).bind fun v1=>(some ((a0.fName == v1)))).bind fun o2=>
   (some o2))
def R3:Nat→(b8)→((List Str))→Option Bool
 | 0,_,_=>none
 | k+1,a0,a1=>
  (((idx a1 3).bind fun v1=>(some ((a0.fName == v1)))).bind fun o2=>
   (some o2))
def strings_IndexByte:Nat→Str→Int→Option Int
 | 0,_,_=>none
 | _+1,s,n=>some (dC s n.toNat.toUInt8)
def K3:Nat→(a6)→((List Str))→Option (Bool×a6)
 | 0,_,_=>none
 | k+1,a0,a1=>
  (((B5 k a0.fTypes (fun j x0=>(R2 j x0 a1))).bind fun v1=>(some (v1,a0.fTypes))).bind fun o2=>
   (bif (decide (o2.1 < 0)) then (some (false,({ fName:=a0.fName,fKind:=a0.fKind,fTypes:=o2.2,fIndexes:=a0.fIndexes }:a6))) else
   (((inB o2.2.length o2.1).bind fun v3=>((o2.2[0+o2.1.toNat]?).bind fun v4=>(E7 k v4.fFields (fun j x0=>(R3 j x0 a1))))).bind fun o6=>
    (((idx a1 4).bind fun v7=>(some ((!(v7 == ([45]:Str)))))).bind fun o8=>
    (bif o8 then (((idx a1 4).bind fun v9=>(some (((v9.length:Int) != 2)))).bind fun o0=>
     (bif o0 then (some (false,({ fName:=a0.fName,fKind:=a0.fKind,fTypes:=o2.2,fIndexes:=a0.fIndexes }:a6))) else
     (((idx a1 4).bind fun v0=>((X6 v0 0).bind fun v2=>((strings_IndexByte k ([48,49,50,51,52,53,54,55,56,57,97,98,99,100,101,102]:Str) v2).bind fun v5=>((idx a1 4).bind fun v6=>((X6 v6 1).bind fun v8=>((strings_IndexByte k ([48,49,50,51,52,53,54,55,56,57,97,98,99,100,101,102]:Str) v8).bind fun va=>(some (v5,va)))))))).bind fun o1=>
      ((bif (decide (o1.1 < 0)) then (some (true)) else (some ((decide (o1.2 < 0))))).bind fun o3=>
      (bif o3 then (some (false,({ fName:=a0.fName,fKind:=a0.fKind,fTypes:=o2.2,fIndexes:=a0.fIndexes }:a6))) else
      (((xN .i64 o1.1 4).bind fun vb=>(some ((Go.AE.strB ([(Go.IntKind.wrap .u8 (orI .i64 vb o1.2))]:List Int))))).bind fun o4=>
       (((idx a1 1).bind fun vc=>(app a0.fIndexes ([({ fName:=vc,fType:=o2.1,fField:=o6,fSparse:=o4 }:a8)]:List a8))).bind fun o5=>
       (some (true,({ fName:=a0.fName,fKind:=a0.fKind,fTypes:=o2.2,fIndexes:=o5 }:a6)))))))))) else
    (((idx a1 1).bind fun vd=>(app a0.fIndexes ([({ fName:=vd,fType:=o2.1,fField:=o6,fSparse:=([]:Str) }:a8)]:List a8))).bind fun o7=>
     (some (true,({ fName:=a0.fName,fKind:=a0.fKind,fTypes:=o2.2,fIndexes:=o7 }:a6)))))))))
def T8:Nat→(a6)→((List Str))→Option (Bool×a6)
 | 0,_,_=>none
 | k+1,a0,a1=>
  ((bif ((a1.length:Int) == 6) then ((idx a1 0).bind fun v1=>(bif (v1 == ([83,69,71,77]:Str)) then (some (((a0.fIndexes.length:Int) == 0))) else (some (false)))) else (some (false))).bind fun o2=>
   (bif o2 then (((Y5 k ({ fName:=a0.fName,fKind:=a0.fKind,fTypes:=a0.fTypes,fIndexes:=a0.fIndexes }:a6) a1).bind fun v3=>(some (v3.1,v3.2.fName,v3.2.fKind,v3.2.fTypes,v3.2.fIndexes))).bind fun o4=>
    (some (o4.1,({ fName:=o4.2.1,fKind:=o4.2.2.1,fTypes:=o4.2.2.2.1,fIndexes:=o4.2.2.2.2 }:a6)))) else
   ((bif ((a1.length:Int) == 5) then ((idx a1 0).bind fun v5=>(bif (v5 == ([70,73,69,76,68]:Str)) then (some (((a0.fIndexes.length:Int) == 0))) else (some (false)))) else (some (false))).bind fun o6=>
    (bif o6 then (((N5 k ({ fName:=a0.fName,fKind:=a0.fKind,fTypes:=a0.fTypes,fIndexes:=a0.fIndexes }:a6) a1).bind fun v7=>(some (v7.1,v7.2.fName,v7.2.fKind,v7.2.fTypes,v7.2.fIndexes))).bind fun o8=>
     (some (o8.1,({ fName:=o8.2.1,fKind:=o8.2.2.1,fTypes:=o8.2.2.2.1,fIndexes:=o8.2.2.2.2 }:a6)))) else
    ((bif ((a1.length:Int) == 5) then ((idx a1 0).bind fun v9=>(some ((v9 == ([73,78,68,69,88]:Str))))) else (some (false))).bind fun o0=>
     (bif o0 then (((K3 k ({ fName:=a0.fName,fKind:=a0.fKind,fTypes:=a0.fTypes,fIndexes:=a0.fIndexes }:a6) a1).bind fun v0=>(some (v0.1,v0.2.fName,v0.2.fKind,v0.2.fTypes,v0.2.fIndexes))).bind fun o1=>
      (some (o1.1,({ fName:=o1.2.1,fKind:=o1.2.2.1,fTypes:=o1.2.2.2.1,fIndexes:=o1.2.2.2.2 }:a6)))) else
     (some (false,({ fName:=a0.fName,fKind:=a0.fKind,fTypes:=a0.fTypes,fIndexes:=a0.fIndexes }:a6)))))))))
def D4 (k:Nat) (o2:(List Str)×Int×Int)  (K0:Int→Str→Int→Str→Int→(List a7)→(List a8)→Option (a6×Int)) (K1:Int→Str→Int→(List a7)→(List a8)→Option (a6×Int)):Nat→Int→Str→Int→(List a7)→(List a8)→Option (a6×Int)
 | 0,_,_,_,_,_=>none
 | m+1,x0,x1,x2,x3,x4=>
  (bif (decide (x0 < o2.2.1)) then (((idx o2.1 x0).bind fun v0=>(some (x0,v0))).bind fun o0=>
        (bif (o0.2 == ([]:Str)) then (K0 o0.1 o0.2 x0 x1 x2 x3 x4) else
        (((strings_TrimSuffix k o0.2 ([10]:Str)).bind fun v1=>(strings_Split k v1 ([32]:Str))).bind fun o1=>
         (bif (o0.1 == 0) then ((bif ((o1.length:Int) == 3) then ((idx o1 0).bind fun v2=>(some ((v2 == ([68,66,68]:Str))))) else (some (false))).bind fun o3=>
          (bif o3 then ((idx o1 1).bind fun o4=>
           (((idx o1 2).bind fun v3=>((X3 k v3).bind fun v4=>(some (v4.2,v4.1)))).bind fun o5=>
           (bif (!o5.1) then (some (({ fName:=[],fKind:=0,fTypes:=([]:List a7),fIndexes:=([]:List a8) }:a6),3)) else
           (D4 k o2 K0 K1 m (Go.IntKind.wrap .i64 (x0+1)) o4 o5.2 x3 x4)))) else
          (some (({ fName:=[],fKind:=0,fTypes:=([]:List a7),fIndexes:=([]:List a8) }:a6),3)))) else
         (((T8 k ({ fName:=x1,fKind:=x2,fTypes:=x3,fIndexes:=x4 }:a6) o1).bind fun v5=>(some (v5.1,v5.2.fName,v5.2.fKind,v5.2.fTypes,v5.2.fIndexes))).bind fun o6=>
          (bif (!o6.1) then (some (({ fName:=[],fKind:=0,fTypes:=([]:List a7),fIndexes:=([]:List a8) }:a6),3)) else
          (D4 k o2 K0 K1 m (Go.IntKind.wrap .i64 (x0+1)) o6.2.1 o6.2.2.1 o6.2.2.2.1 o6.2.2.2.2))))))) else
    (K1 x0 x1 x2 x3 x4))
def cg:Nat→(Str)→Option (a6×Int)
 | 0,_=>none
 | k+1,a0=>
  (((Y1 k a0 ([10]:Str)).bind fun v1=>(some (v1,(v1.length:Int),0))).bind fun o2=>
   (D4 k o2 (fun y0 y1 y2 y3 y4 y5 y6=>
   (((S0 k ({ fName:=y3,fKind:=y4,fTypes:=y5,fIndexes:=y6 }:a6)).bind fun v0=>(some (v0.1,v0.2))).bind fun o0=>
    ((bif (o0.2 != 0) then (some (true)) else (some ((!(o0.1 == a0))))).bind fun o1=>
    (bif o1 then (some (({ fName:=[],fKind:=0,fTypes:=([]:List a7),fIndexes:=([]:List a8) }:a6),3)) else
    (some (({ fName:=y3,fKind:=y4,fTypes:=y5,fIndexes:=y6 }:a6),0)))))) (fun y7 y8 y9 ya yb=>
   (((S0 k ({ fName:=y8,fKind:=y9,fTypes:=ya,fIndexes:=yb }:a6)).bind fun v2=>(some (v2.1,v2.2))).bind fun o3=>
    ((bif (o3.2 != 0) then (some (true)) else (some ((!(o3.1 == a0))))).bind fun o4=>
    (bif o4 then (some (({ fName:=[],fKind:=0,fTypes:=([]:List a7),fIndexes:=([]:List a8) }:a6),3)) else
    (some (({ fName:=y8,fKind:=y9,fTypes:=ya,fIndexes:=yb }:a6),0)))))) k o2.2.2 [] 0 ([]:List a7) ([]:List a8)))
def K7 (o0:a7×a7)  (K0:Int→Option Bool):Nat→Int→Option Bool
 | 0,_=>none
 | m+1,x0=>
  (bif (decide (x0 < (o0.1.fFields.length:Int))) then (((idx o0.1.fFields x0).bind fun v0=>((idx o0.2.fFields x0).bind fun v1=>(some ((!(v0.fName == v1.fName && (v0.fAt == v1.fAt && (v0.fBytes == v1.fBytes && true)))))))).bind fun o1=>
        (bif o1 then (some false) else
        (K7 o0 K0 m (Go.IntKind.wrap .i64 (x0+1))))) else
    (K0 x0))
def K6 (k:Nat) (a0:a6) (a1:a6)  (K0:Int→Option Bool):Nat→Int→Option Bool
 | 0,_=>none
 | m+1,x0=>
  (bif (decide (x0 < (a0.fTypes.length:Int))) then (((idx a0.fTypes x0).bind fun v0=>((idx a1.fTypes x0).bind fun v1=>(some (v0,v1)))).bind fun o0=>
        ((bif (!(o0.1.fName == o0.2.fName)) then (some (true)) else (bif (o0.1.fParent != o0.2.fParent) then (some (true)) else (bif (o0.1.fMin != o0.2.fMin) then (some (true)) else (bif (o0.1.fSize != o0.2.fSize) then (some (true)) else (bif (o0.1.fKey != o0.2.fKey) then (some (true)) else (bif (!(o0.1.fUnique == o0.2.fUnique)) then (some (true)) else (bif (!(o0.1.fLast == o0.2.fLast)) then (some (true)) else (some (((o0.1.fFields.length:Int) != (o0.2.fFields.length:Int))))))))))).bind fun o1=>
        (bif o1 then (some false) else
        (K7 o0 (fun y0=>
         (K6 k a0 a1 K0 m (Go.IntKind.wrap .i64 (x0+1)))) k 0)))) else
    (K0 x0))
def K8 (a0:a6) (a1:a6)  (K0:Int→Option Bool):Nat→Int→Option Bool
 | 0,_=>none
 | m+1,x0=>
  (bif (decide (x0 < (a0.fIndexes.length:Int))) then (((idx a0.fIndexes x0).bind fun v0=>((idx a1.fIndexes x0).bind fun v1=>(some ((!(v0.fName == v1.fName && (v0.fType == v1.fType && (v0.fField == v1.fField && (v0.fSparse == v1.fSparse && true))))))))).bind fun o0=>
        (bif o0 then (some false) else
        (K8 a0 a1 K0 m (Go.IntKind.wrap .i64 (x0+1))))) else
    (K0 x0))
def cH:Nat→(a6)→(a6)→Option Bool
 | 0,_,_=>none
 | k+1,a0,a1=>
  ((bif (!(a0.fName == a1.fName)) then (some (true)) else (bif (a0.fKind != a1.fKind) then (some (true)) else (bif ((a0.fTypes.length:Int) != (a1.fTypes.length:Int)) then (some (true)) else (some (((a0.fIndexes.length:Int) != (a1.fIndexes.length:Int))))))).bind fun o1=>
   (bif o1 then (some false) else
   (K6 k a0 a1 (fun y0=>
    (K8 a0 a1 (fun y1=>
     (some true)) k 0)) k 0)))
def C4 (a0:(List a8)) (a1:(List a8))  (K0:Int→Option Bool):Nat→Int→Option Bool
 | 0,_=>none
 | m+1,x4=>
  (bif (decide (x4 < (a0.length:Int))) then (((idx a0 x4).bind fun v5=>((idx a1 x4).bind fun v6=>(some ((!(v5.fName == v6.fName && (v5.fType == v6.fType && (v5.fField == v6.fField && (v5.fSparse == v6.fSparse && true))))))))).bind fun o7=>
        (bif o7 then (some false) else
        (C4 a0 a1 K0 m (Go.IntKind.wrap .i64 (x4+1))))) else
    (K0 x4))
def J3:Nat→((List a8))→((List a8))→Option Bool
 | 0,_,_=>none
 | k+1,a0,a1=>
  (bif ((a0.length:Int) != (a1.length:Int)) then (some false) else
   (C4 a0 a1 (fun y8=>
    (some true)) k 0))
def z8 (k:Nat) (a0:(List a7)) (a1:(List a7)) (a2:Nat→a7→a7→Option Bool) (K0:Int→Option Bool):Nat→Int→Option Bool
 | 0,_=>none
 | m+1,x7=>
  (bif (decide (x7 < (a0.length:Int))) then (((idx a0 x7).bind fun v8=>(some (x7,v8))).bind fun o9=>
        ((idx a1 o9.1).bind fun o0=>
        (((a2 k o9.2 o0).bind fun v0=>(some ((!v0)))).bind fun o1=>
        (bif o1 then (some false) else
        (z8 k a0 a1 a2 K0 m (Go.IntKind.wrap .i64 (x7+1))))))) else
    (K0 x7))
def E8:Nat→((List a7))→((List a7))→(Nat→a7→a7→Option Bool)→Option Bool
 | 0,_,_,_=>none
 | k+1,a0,a1,a2=>
  (bif ((a0.length:Int) != (a1.length:Int)) then (some false) else
   (z8 k a0 a1 a2 (fun y0=>
    (some true)) k 0))
def D3 (a0:(List b8)) (a1:(List b8))  (K0:Int→Option Bool):Nat→Int→Option Bool
 | 0,_=>none
 | m+1,x4=>
  (bif (decide (x4 < (a0.length:Int))) then (((idx a0 x4).bind fun v5=>((idx a1 x4).bind fun v6=>(some ((!(v5.fName == v6.fName && (v5.fAt == v6.fAt && (v5.fBytes == v6.fBytes && true)))))))).bind fun o7=>
        (bif o7 then (some false) else
        (D3 a0 a1 K0 m (Go.IntKind.wrap .i64 (x4+1))))) else
    (K0 x4))
def M3:Nat→((List b8))→((List b8))→Option Bool
 | 0,_,_=>none
 | k+1,a0,a1=>
  (bif ((a0.length:Int) != (a1.length:Int)) then (some false) else
   (D3 a0 a1 (fun y8=>
    (some true)) k 0))
def X1:Nat→(a7)→(a7)→Option Bool
 | 0,_,_=>none
 | k+1,a0,a1=>
  ((bif (a0.fName == a1.fName) then (bif (a0.fParent == a1.fParent) then (bif (a0.fMin == a1.fMin) then (bif (a0.fSize == a1.fSize) then (bif (a0.fKey == a1.fKey) then (bif (a0.fUnique == a1.fUnique) then (bif (a0.fLast == a1.fLast) then (M3 k a0.fFields a1.fFields) else (some (false))) else (some (false))) else (some (false))) else (some (false))) else (some (false))) else (some (false))) else (some (false))).bind fun o2=>
   (some o2))
def ga:Nat→(a6)→(a6)→Option Bool
 | 0,_,_=>none
 | k+1,a0,a1=>
  ((bif (a0.fName == a1.fName) then (bif (a0.fKind == a1.fKind) then ((J3 k a0.fIndexes a1.fIndexes).bind fun v1=>(bif v1 then (E8 k a0.fTypes a1.fTypes (fun j x0 x1=>(X1 j x0 x1))) else (some (false)))) else (some (false))) else (some (false))).bind fun o3=>
   (some o3))
def ah:Nat→(a6)→(Str)→Option Bool
 | 0,_,_=>none
 | k+1,a0,a1=>
  (((dm k a0).bind fun v1=>(some ((!v1)))).bind fun o2=>
   (bif o2 then ((S9 k).bind fun o4=>
    (some o4)) else
   (((S0 k a0).bind fun v5=>(some (v5.1,v5.2))).bind fun o6=>
    (((am k a0).bind fun v7=>(some (v7.1,v7.2))).bind fun o8=>
    (((L3 k a1).bind fun v9=>((G4 k a1).bind fun v0=>(bif (!(v9 == v0)) then (some (true)) else ((Y3 k a0).bind fun v2=>((T1 k a0).bind fun v3=>(bif (!(v2 == v3)) then (some (true)) else (bif (!(o6.1 == o8.1)) then (some (true)) else (some ((o6.2 != o8.2)))))))))).bind fun o0=>
    (bif o0 then (some false) else
    (bif (o6.2 != 0) then ((S9 k).bind fun o1=>
      (some o1)) else
     (((cg k o6.1).bind fun v4=>(some (v4.2,v4.1))).bind fun o3=>
      ((bif (o3.1 == 0) then ((cH k a0 o3.2).bind fun v6=>(bif v6 then ((ga k a0 o3.2).bind fun v8=>(bif v8 then (S9 k) else (some (false)))) else (some (false)))) else (some (false))).bind fun o5=>
      (some o5))))))))))
end Go.Sh
namespace Go.Sh
open Go.AE
theorem U1:maxLen=9223372036854775807:=rfl
theorem hP {x:Int} (h:-9223372036854775808≤x) (h':x≤9223372036854775807):Go.IntKind.wrap .i64 x=x:=IntWalk.i64_in x ⟨h,h'⟩
theorem z6 {i n:Nat} (h:i < n) (hn:n≤maxLen):Go.IntKind.wrap .i64 ((i:Int)+1)=((i+1:Nat):Int):=by
 rw [hP] <;> (try rw [U1] at hn) <;> omega
theorem D2 {α:Type} {l:List α} {i:Nat} (h:i < l.length):idx l (i:Int)=some l[i]:=by
 unfold idx
 rw [if_pos (by omega),Int.toNat_natCast,List.getElem?_eq_getElem h]
theorem V2 {α:Type} {l:List α} {x:Int} (h0:0≤x) (h:x < (l.length:Int)):idx l x=some (l[x.toNat]'(by omega)):=by
 unfold idx
 rw [if_pos h0,List.getElem?_eq_getElem (by omega)]
theorem AN {l:List UInt8} {i:Nat} (h:i < l.length):X6 l (i:Int)=some (l[i].toNat:Int):=by
 unfold X6
 rw [if_pos (by omega),Int.toNat_natCast,List.getElem?_eq_getElem h]
 rfl
theorem np {α:Type} {l:List α} {i:Nat} (h:i≤l.length):cut l 0 (i:Int)=some (l.take i):=by
 unfold cut
 rw [if_pos ⟨by omega,by omega,by omega⟩]
 simp
theorem fS {α:Type} {l m:List α} (h:l.length+m.length≤B7):app l m=some (l ++ m):=by
 unfold app; rw [if_pos h]
def cZ {β:Type} (g:Nat→Bool) (r:Nat→β) (z:β):Nat→Nat→β
 | 0,_=>z
 | d+1,i=>bif g i then r i else cZ g r z d (i+1)
theorem lB {S β:Type} {n:Nat} {L:Nat→Int→S→β} {σ:Nat→S} {g:Nat→Bool} {r:Nat→β} {z:β}
  (hs:∀ m i,i < n→(∀ j,j < i→g j=false)→L (m+1) (i:Int) (σ i)=bif g i then r i else L m ((i+1:Nat):Int) (σ (i+1)))
  (he:∀ m,(∀ j,j < n→g j=false)→L (m+1) (n:Int) (σ n)=z):∀ d i m,i+d=n→(∀ j,j < i→g j=false)→d < m→L m (i:Int) (σ i)=cZ g r z d i
 | 0,i,m,hd,hb,hm=>by
  obtain ⟨m,rfl⟩:∃ q,m=q+1:=⟨m - 1,by omega⟩
  have:i=n:=by omega
  subst this
  exact he m hb
 | d+1,i,m,hd,hb,hm=>by
  obtain ⟨m,rfl⟩:∃ q,m=q+1:=⟨m - 1,by omega⟩
  rw [hs m i (by omega) hb,cZ]
  cases hg:g i with
  | true=>rfl
  | false=>
   simp only [cond_false]
   refine lB hs he d (i+1) m (by omega) (fun j hj=>?_) (by omega)
   by_cases e:j=i
   ·subst e; exact hg
   ·exact hb j (by omega)
theorem eg {β:Type} {n:Nat} {L:Nat→Int→β} {g:Nat→Bool} {r:Nat→β} {z:β}
  (hs:∀ m i,i < n→(∀ j,j < i→g j=false)→L (m+1) (i:Int)=bif g i then r i else L m ((i+1:Nat):Int))
  (he:∀ m,(∀ j,j < n→g j=false)→L (m+1) (n:Int)=z) {m:Nat} (hm:n < m):L m 0=cZ g r z n 0:=
 lB (S:=Unit) (L:=fun m x _=>L m x) (σ:=fun _=>()) hs he n 0 m (by omega) (fun j hj=>by omega) hm
theorem EK {S β:Type} {n:Nat} {L:Nat→Int→S→β} {σ:Nat→S} {g:Nat→Bool} {r:Nat→β} {z:β}
  (hs:∀ m i,i < n→(∀ j,j < i→g j=false)→L (m+1) (i:Int) (σ i)=bif g i then r i else L m ((i+1:Nat):Int) (σ (i+1)))
  (he:∀ m,(∀ j,j < n→g j=false)→L (m+1) (n:Int) (σ n)=z) {m:Nat} (hm:n < m) {s0:S} (h0:σ 0=s0):L m 0 s0=cZ g r z n 0:=by
 subst h0
 exact lB hs he n 0 m (by omega) (fun j hj=>by omega) hm
theorem ou {β:Type} {g g':Nat→Bool} {r r':Nat→β} {z z':β}:∀ d i,(∀ j,i≤j→j < i+d→(∀ q,i≤q→q < j→g q=false)→g j=g' j∧(g j=true→r j=r' j))→((∀ q,i≤q→q < i+d→g q=false)→z=z')→cZ g r z d i=cZ g' r' z' d i
 | 0,i,h,hz=>hz (fun q h1 h2=>by omega)
 | d+1,i,h,hz=>by
  obtain ⟨h1,h2⟩:=h i (Nat.le_refl i) (by omega) (fun q a b=>by omega)
  simp only [cZ]
  rw [←h1]
  cases hg:g i with
  | true=>simp only [cond_true]; exact h2 hg
  | false=>
   simp only [cond_false]
   refine ou d (i+1) (fun j a b hq=>h j (by omega) (by omega) (fun q c e=>?_)) (fun hq=>hz (fun q a b=>?_))
   ·by_cases e2:q=i
    ·subst e2; exact hg
    ·exact hq q (by omega) e
   ·by_cases e2:q=i
    ·subst e2; exact hg
    ·exact hq q (by omega) (by omega)
def aB (g:Nat→Bool) (n:Nat):Bool:=cZ g (fun _=>true) false n 0
theorem ov {β γ:Type} (f:β→γ) {g:Nat→Bool} {r:Nat→β} {z:β}:∀ d i,f (cZ g r z d i)=cZ g (fun i=>f (r i)) (f z) d i
 | 0,_=>rfl
 | d+1,i=>by
  simp only [cZ]
  cases g i with
  | true=>rfl
  | false=>exact ov f d (i+1)
theorem M2 {β:Type} {g:Nat→Bool} {r z:β} (n:Nat):cZ g (fun _=>r) z n 0=bif aB g n then r else z:=by
 unfold aB
 have:∀ d i,cZ g (fun _=>r) z d i=bif cZ g (fun _=>true) false d i then r else z:=by
  intro d
  induction d with
  | zero=>intro i; rfl
  | succ d ih=>
   intro i
   simp only [cZ]
   cases g i with
   | true=>rfl
   | false=>exact ih (i+1)
 exact this n 0
theorem js {β:Type} {g:Nat→Bool} {r:Nat→β} {z:β}:∀ d i,(∀ q,i≤q→q < i+d→g q=false)→cZ g r z d i=z
 | 0,_,_=>rfl
 | d+1,i,h=>by
  simp only [cZ,h i (Nat.le_refl i) (by omega),cond_false]
  exact js d (i+1) (fun q a b=>h q (by omega) (by omega))
theorem jr {β:Type} (g:Nat→Bool) (r:Nat→β) (z:β):∀ d i,((∀ q,i≤q→q < i+d→g q=false)∧cZ g r z d i=z)∨∃ j,i≤j∧j < i+d∧g j=true∧(∀ q,i≤q→q < j→g q=false)∧cZ g r z d i=r j
 | 0,i=>.inl ⟨fun q a b=>by omega,rfl⟩
 | d+1,i=>by
  simp only [cZ]
  cases hg:g i with
  | true=>exact .inr ⟨i,Nat.le_refl i,by omega,hg,fun q a b=>by omega,rfl⟩
  | false=>
   simp only [cond_false]
   rcases jr g r z d (i+1) with ⟨h1,h2⟩ | ⟨j,h1,h2,h3,h4,h5⟩
   ·exact .inl ⟨fun q a b=>by
     by_cases e:q=i
     ·subst e; exact hg
     ·exact h1 q (by omega) (by omega),h2⟩
   ·exact .inr ⟨j,by omega,by omega,h3,fun q a b=>by
     by_cases e:q=i
     ·subst e; exact hg
     ·exact h4 q (by omega) b,h5⟩
theorem jA {g:Nat→Bool} {n:Nat}:aB g n=true ↔ ∃ i,i < n∧g i=true:=by
 unfold aB
 rcases jr g (fun _=>true) false n 0 with ⟨h1,h2⟩ | ⟨j,h1,h2,h3,h4,h5⟩
 ·rw [h2]
  exact ⟨fun h=>absurd h (by simp),fun ⟨i,hi,hg⟩=>absurd hg (by rw [h1 i (by omega) (by omega)]; simp)⟩
 ·rw [h5]
  exact ⟨fun _=>⟨j,by omega,h3⟩,fun _=>rfl⟩
theorem W9 {g:Nat→Bool} {n:Nat}:aB g n=false ↔ ∀ i,i < n→g i=false:=by
 constructor
 ·intro h i hi
  cases hg:g i with
  | false=>rfl
  | true=>rw [jA.2 ⟨i,hi,hg⟩] at h; cases h
 ·intro h
  cases ha:aB g n with
  | false=>rfl
  | true=>
   obtain ⟨i,hi,hg⟩:=jA.1 ha
   rw [h i hi] at hg; cases hg
theorem tT {g g':Nat→Bool} {n:Nat} (h:∀ i,i < n→(∀ j,j < i→g j=false)→g i=g' i):aB g n=aB g' n:=
 ou n 0 (fun j _ hj hq=>⟨h j (by omega) (fun q hq'=>hq q (by omega) hq'),fun _=>rfl⟩) (fun _=>rfl)
def at' {α:Type} (l:List α) (p:α→Bool) (i:Nat):Bool:=match l[i]? with | some x=>p x | none=>false
theorem F8 {α:Type} {l:List α} {p:α→Bool} {i:Nat} (h:i < l.length):at' l p i=p l[i]:=by
 unfold at'
 rw [List.getElem?_eq_getElem h]
theorem ym {α:Type} {l:List α} {p:α→Bool}:aB (at' l p) l.length=l.any p:=by
 cases h:l.any p with
 | true=>
  obtain ⟨x,hx,hp⟩:=List.any_eq_true.1 h
  obtain ⟨i,hi,rfl⟩:=List.getElem_of_mem hx
  exact jA.2 ⟨i,hi,by rw [F8 hi]; exact hp⟩
 | false=>
  rw [List.any_eq_false] at h
  refine W9.2 (fun i hi=>?_)
  rw [F8 hi]
  have:=h _ (List.getElem_mem hi)
  simpa using this
def pos {α:Type} (l:List α) (p:α→Bool):Int:=cZ (at' l p) (fun i=>(i:Int)) (-1) l.length 0
theorem aP {α:Type} (l:List α) (p:α→Bool):((∀ i (h:i < l.length),p l[i]=false)∧pos l p=-1)∨∃ j,∃ h:j < l.length,p l[j]=true∧(∀ i (h:i < l.length),i < j→p l[i]=false)∧pos l p=(j:Int):=by
 unfold pos
 rcases jr (at' l p) (fun i=>(i:Int)) (-1) l.length 0 with ⟨h1,h2⟩ | ⟨j,h1,h2,h3,h4,h5⟩
 ·exact .inl ⟨fun i hi=>by rw [←F8 (p:=p) hi]; exact h1 i (by omega) (by omega),h2⟩
 ·refine .inr ⟨j,by omega,?_,fun i hi hij=>?_,h5⟩
  ·rw [←F8 (p:=p) (show j < l.length by omega)]; exact h3
  ·rw [←F8 (p:=p) hi]; exact h4 i (by omega) hij
theorem mZ {α:Type} (l:List α) (p:α→Bool):decide (pos l p ≥ 0)=l.any p:=by
 rcases aP l p with ⟨h1,h2⟩ | ⟨j,h1,h2,h3,h4⟩
 ·rw [h2]
  have:l.any p=false:=by
   rw [List.any_eq_false]
   intro x hx
   obtain ⟨i,hi,rfl⟩:=List.getElem_of_mem hx
   rw [h1 i hi]; simp
  rw [this]; rfl
 ·rw [h4]
  have:l.any p=true:=List.any_eq_true.2 ⟨l[j],List.getElem_mem h1,h2⟩
  rw [this]
  simp
theorem m9 {k c:Nat} (h:c+1≤k):∃ q,k=q+1∧c≤q:=⟨k - 1,by omega,by omega⟩
def yq (s:Str) (i:Nat):Bool:=at' s (fun c=>(!(decide ((c.toNat:Int) ≥ 65) && decide ((c.toNat:Int)≤90))) && (((i:Int) == 0) || (decide ((c.toNat:Int) < 48) || decide ((c.toNat:Int) > 57)))) i
def J1 (s:Str):Bool:=!aB (yq s) s.length && (decide ((s.length:Int) ≥ 1) && decide ((s.length:Int)≤8))
theorem aJ {k:Nat} {s:Str} (hk:maxLen+2≤k) (hs:wfS s):L3 k s=some (J1 s):=by
 obtain ⟨k,rfl,hq⟩:=m9 hk
 unfold L3
 unfold wfS at hs
 refine Eq.trans (eg (L:=fun m x=>I0 s _ m x) (n:=s.length) (g:=yq s) (r:=fun _=>some false) (z:=some (decide ((s.length:Int) ≥ 1) && decide ((s.length:Int)≤8))) ?_ ?_ (by omega)) ?_
 rotate_left 2
 ·rw [M2]
  unfold J1
  cases aB (yq s) s.length <;> rfl
 ·intro m i hi _
  simp only [I0,yq,F8 hi,AN hi,z6 hi hs,Option.bind_some,show decide ((i:Int) < (s.length:Int))=true by simp; exact hi,cond_true]
  cases decide ((s[i].toNat:Int) ≥ 65) <;> cases decide ((s[i].toNat:Int)≤90) <;> cases ((i:Int) == 0) <;> cases decide ((s[i].toNat:Int) < 48) <;> cases decide ((s[i].toNat:Int) > 57) <;> rfl
 ·intro m _
  simp only [I0,show decide ((s.length:Int) < (s.length:Int))=false by simp,cond_false]
  cases decide ((s.length:Int) ≥ 1) <;> cases decide ((s.length:Int)≤8) <;> rfl
theorem jh (a:Str) (K:Int→Option Bool):∀ m x,N2 a K m x=I0 a K m x:=by
 intro m
 induction m with
 | zero=>intro x; rfl
 | succ m ih=>intro x; simp only [N2,I0,ih]
theorem aq {k:Nat} {s:Str} (hk:maxLen+2≤k) (hs:wfS s):G4 k s=some (J1 s):=by
 rw [←aJ hk hs]
 cases k with
 | zero=>rfl
 | succ k=>simp only [G4,L3,jh]
theorem W0 {α:Type} {l:List α} {p:α→Bool} {f:α→Option Bool} (hp:∀ x∈l,f x=some (p x)) {L:Nat→Int→Option Int} {K0:Int→Option Int}
  (hL:∀ m x,L (m+1) x=(bif decide (x < (l.length:Int)) then (((idx l x).bind f).bind fun o=>(bif o then (some x) else L m (Go.IntKind.wrap .i64 (x+1)))) else K0 x))
  (hK:K0 (l.length:Int)=some (-1)) (hn:l.length≤maxLen) {m:Nat} (hm:l.length < m):L m 0=some (pos l p):=by
 refine Eq.trans (eg (L:=L) (n:=l.length) (g:=at' l p) (r:=fun i=>some (i:Int)) (z:=some (-1)) ?_ ?_ hm) ?_
 rotate_left 2
 ·unfold pos
  rw [ov some]
 ·intro m i hi _
  rw [hL,F8 hi]
  simp only [show decide ((i:Int) < (l.length:Int))=true by simp; exact hi,cond_true,D2 hi,Option.bind_some,hp _ (List.getElem_mem hi),z6 hi hn]
 ·intro m _
  rw [hL]
  simp only [show decide ((l.length:Int) < (l.length:Int))=false by simp,cond_false,hK]
theorem fA {k:Nat} {l:List b8} {p:b8→Bool} {f:Nat→b8→Option Bool} (hk:l.length+2≤k) (hn:l.length≤maxLen) (hp:∀ k',k'+1=k→∀ x∈l,f k' x=some (p x)):E7 k l f=some (pos l p):=by
 obtain ⟨k,rfl,hq⟩:=m9 hk
 exact W0 (hp k rfl) (L:=fun m x=>E9 k l f _ m x) (fun m x=>rfl) rfl hn (by omega)
theorem cy {k:Nat} {l:List a7} {p:a7→Bool} {f:Nat→a7→Option Bool} (hk:l.length+2≤k) (hn:l.length≤maxLen) (hp:∀ k',k'+1=k→∀ x∈l,f k' x=some (p x)):B5 k l f=some (pos l p):=by
 obtain ⟨k,rfl,hq⟩:=m9 hk
 exact W0 (hp k rfl) (L:=fun m x=>F3 k l f _ m x) (fun m x=>rfl) rfl hn (by omega)
theorem lx {k:Nat} {l:List a8} {p:a8→Bool} {f:Nat→a8→Option Bool} (hk:l.length+2≤k) (hn:l.length≤maxLen) (hp:∀ k',k'+1=k→∀ x∈l,f k' x=some (p x)):I8 k l f=some (pos l p):=by
 obtain ⟨k,rfl,hq⟩:=m9 hk
 exact W0 (hp k rfl) (L:=fun m x=>D9 k l f _ m x) (fun m x=>rfl) rfl hn (by omega)
theorem oY {k:Nat} {l:List Int} {p:Int→Bool} {f:Nat→Int→Option Bool} (hk:l.length+2≤k) (hn:l.length≤maxLen) (hp:∀ k',k'+1=k→∀ x∈l,f k' x=some (p x)):O4 k l f=some (pos l p):=by
 obtain ⟨k,rfl,hq⟩:=m9 hk
 exact W0 (hp k rfl) (L:=fun m x=>F6 k l f _ m x) (fun m x=>rfl) rfl hn (by omega)
theorem xq {k:Nat} {l:List Int} {y:Int} (hk:l.length+2≤k) (hn:l.length≤maxLen):U7 k l y=some (pos l (fun x=>y == x)):=by
 obtain ⟨k,rfl,hq⟩:=m9 hk
 exact W0 (f:=fun x=>some (y == x)) (fun x _=>rfl) (L:=fun m x=>J4 l y _ m x) (fun m x=>rfl) rfl hn (by omega)
theorem iO {k:Nat} {l:List b8} {p:b8→Bool} {f:Nat→b8→Option Bool} (hk:l.length+3≤k) (hn:l.length≤maxLen) (hp:∀ k',k'+2=k→∀ x∈l,f k' x=some (p x)):C2 k l f=some (l.any p):=by
 obtain ⟨k,rfl,hq⟩:=m9 hk
 simp only [C2,fA hq hn (fun k' e=>hp k' (by omega)),Option.bind_some,mZ]
theorem jG {k:Nat} {l:List a7} {p:a7→Bool} {f:Nat→a7→Option Bool} (hk:l.length+3≤k) (hn:l.length≤maxLen) (hp:∀ k',k'+2=k→∀ x∈l,f k' x=some (p x)):D1 k l f=some (l.any p):=by
 obtain ⟨k,rfl,hq⟩:=m9 hk
 simp only [D1,cy hq hn (fun k' e=>hp k' (by omega)),Option.bind_some,mZ]
theorem hZ {k:Nat} {l:List a8} {p:a8→Bool} {f:Nat→a8→Option Bool} (hk:l.length+3≤k) (hn:l.length≤maxLen) (hp:∀ k',k'+2=k→∀ x∈l,f k' x=some (p x)):C0 k l f=some (l.any p):=by
 obtain ⟨k,rfl,hq⟩:=m9 hk
 simp only [C0,lx hq hn (fun k' e=>hp k' (by omega)),Option.bind_some,mZ]
theorem la {k:Nat} {l:List Int} {p:Int→Bool} {f:Nat→Int→Option Bool} (hk:l.length+3≤k) (hn:l.length≤maxLen) (hp:∀ k',k'+2=k→∀ x∈l,f k' x=some (p x)):D6 k l f=some (l.any p):=by
 obtain ⟨k,rfl,hq⟩:=m9 hk
 simp only [D6,oY hq hn (fun k' e=>hp k' (by omega)),Option.bind_some,mZ]
theorem kX {α:Type} {l:List α} {p:α→Bool} {i:Nat} (h:i≤l.length):aB (at' l p) i=(l.take i).any p:=by
 rw [←ym]
 rw [List.length_take,Nat.min_eq_left h]
 refine tT (fun j hj _=>?_)
 rw [F8 (by omega),F8 (by rw [List.length_take]; omega)]
 congr 1
 simp
def R9 (size:Int) (fs:List b8) (i:Nat):Bool:=
 at' fs (fun f=>((!J1 f.fName) || (decide (f.fAt < 0) || (decide (f.fAt ≥ size) || (decide (f.fBytes < 1) || decide (f.fBytes > Go.IntKind.wrap .i64 (size - f.fAt)))))) || (fs.take i).any (fun g=>g.fName == f.fName)) i
theorem iR {k:Nat} {fs:List b8} {size:Int} (hk:maxLen+5≤k) (hw:wfL aA fs):V9 k fs size=some (!aB (R9 size fs) fs.length && decide ((fs.length:Int)≤5)):=by
 obtain ⟨k,rfl,hq⟩:=m9 hk
 unfold V9
 obtain ⟨hl,hw⟩:=hw
 refine Eq.trans (eg (L:=fun m x=>H5 k fs size _ m x) (n:=fs.length) (g:=R9 size fs) (r:=fun _=>some false) (z:=some (decide ((fs.length:Int)≤5))) ?_ ?_ (by omega)) ?_
 rotate_left 2
 ·rw [M2]
  cases aB (R9 size fs) fs.length <;> rfl
 ·intro m i hi _
  have h1:=hw _ (List.getElem_mem hi)
  have hc:C2 k (fs.take i) (fun j x0=>Q4 j x0 fs[i])=some ((fs.take i).any (fun g=>g.fName == fs[i].fName)):=by
   refine iO (by rw [List.length_take]; omega) (by rw [List.length_take]; omega) (fun k' e x hx=>?_)
   obtain ⟨k',rfl,_⟩:=m9 (show 0+1≤k' by omega)
   rfl
  simp only [H5,R9,F8 hi,D2 hi,z6 hi hl,Option.bind_some,show decide ((i:Int) < (fs.length:Int))=true by simp; exact hi,cond_true,aJ (show maxLen+2≤k by omega) h1.1,np (show i≤fs.length by omega),hc]
  cases J1 fs[i].fName <;> cases decide (fs[i].fAt < 0) <;> cases decide (fs[i].fAt ≥ size) <;> cases decide (fs[i].fBytes < 1) <;> cases decide (fs[i].fBytes > Go.IntKind.wrap .i64 (size - fs[i].fAt)) <;> cases (fs.take i).any (fun g=>g.fName == fs[i].fName) <;> rfl
 ·intro m _
  simp only [H5,show decide ((fs.length:Int) < (fs.length:Int))=false by simp,cond_false]
def eP (t:a7):Bool:=match idx t.fFields t.fKey with | some f=>decide ((Go.IntKind.wrap .i64 (f.fAt+f.fBytes))≤t.fMin) | none=>false
def dS (t:a7):Bool:=!aB (R9 t.fSize t.fFields) t.fFields.length && decide ((t.fFields.length:Int)≤5)
def iy (t:a7):Bool:=bif (t.fKey == (-1)) then !t.fUnique else !(decide (t.fKey < 0) || decide (t.fKey ≥ (t.fFields.length:Int))) && eP t
def aV (t:a7):Bool:=!((!J1 t.fName) || (decide (t.fMin < 1) || (decide (t.fMin > t.fSize) || (decide (t.fSize > 40) || !dS t)))) && iy t
theorem mK {k:Nat} {t:a7} (hk:maxLen+6≤k) (hw:I1 t):ct k t=some (aV t):=by
 obtain ⟨k,rfl,hq⟩:=m9 hk
 obtain ⟨h1,_,_,_,h5,_⟩:=hw
 simp only [ct,aJ (show maxLen+2≤k by omega) h1,iR (show maxLen+5≤k by omega) h5,Option.bind_some]
 unfold aV dS iy eP
 generalize (!aB (R9 t.fSize t.fFields) t.fFields.length && decide ((t.fFields.length:Int)≤5))=fo
 cases hx:idx t.fFields t.fKey with
 | none=>
  -- then the key is out of range
  have:decide (t.fKey < 0)=true∨decide (t.fKey ≥ (t.fFields.length:Int))=true:=by
   simp only [decide_eq_true_eq]
   by_cases h0:t.fKey < 0
   ·exact .inl h0
   ·by_cases h2:t.fKey ≥ (t.fFields.length:Int)
    ·exact .inr h2
    ·rw [V2 (by omega) (by omega)] at hx; cases hx
  cases J1 t.fName <;> cases decide (t.fMin < 1) <;> cases decide (t.fMin > t.fSize) <;> cases decide (t.fSize > 40) <;> cases fo <;> try rfl
  rcases this with h | h
  ·rw [h]; cases (t.fKey == (-1)) <;> rfl
  ·rw [h]; cases (t.fKey == (-1)) <;> cases decide (t.fKey < 0) <;> rfl
 | some f=>
  simp only [Option.bind_some]
  cases J1 t.fName <;> cases decide (t.fMin < 1) <;> cases decide (t.fMin > t.fSize) <;> cases decide (t.fSize > 40) <;> cases fo <;> cases (t.fKey == (-1)) <;> cases decide (t.fKey < 0) <;> cases decide (t.fKey ≥ (t.fFields.length:Int)) <;> rfl
def eK (t:a7):Bool:=!aB (R9 t.fSize t.fFields) t.fFields.length && (!(decide (t.fKey < (-1)) || (decide (t.fKey ≥ (t.fFields.length:Int)) || (decide (t.fKey < 0) && t.fUnique))) && (decide ((t.fFields.length:Int)≤5) && (decide (t.fKey < 0) || eP t)))
theorem kC {k:Nat} {t:a7} (hk:maxLen+5≤k) (hw:I1 t):ap k t=some (eK t):=by
 obtain ⟨k,rfl,hq⟩:=m9 hk
 unfold ap
 obtain ⟨_,_,_,_,⟨hl,hw⟩,_⟩:=hw
 refine Eq.trans (eg (L:=fun m x=>J2 k t _ m x) (n:=t.fFields.length) (g:=R9 t.fSize t.fFields) (r:=fun _=>some false) (z:=some (!(decide (t.fKey < (-1)) || (decide (t.fKey ≥ (t.fFields.length:Int)) || (decide (t.fKey < 0) && t.fUnique))) && (decide ((t.fFields.length:Int)≤5) && (decide (t.fKey < 0) || eP t)))) ?_ ?_ (by omega)) ?_
 rotate_left 2
 ·rw [M2]
  unfold eK
  cases aB (R9 t.fSize t.fFields) t.fFields.length <;> rfl
 ·intro m i hi _
  have h1:=hw _ (List.getElem_mem hi)
  simp only [J2,R9,F8 hi,D2 hi,z6 hi hl,Option.bind_some,show decide ((i:Int) < (t.fFields.length:Int))=true by simp; exact hi,cond_true,aq (show maxLen+2≤k by omega) h1.1]
  have hin:∀ (K:Option Bool),G9 t (i:Int) t.fFields[i] (fun _=>K) k 0=bif (t.fFields.take i).any (fun g=>g.fName == t.fFields[i].fName) then some false else K:=by
   intro K
   rw [←kX (show i≤t.fFields.length by omega)]
   refine Eq.trans (eg (L:=fun m x=>G9 t (i:Int) t.fFields[i] _ m x) (n:=i) (g:=at' t.fFields (fun g=>g.fName == t.fFields[i].fName)) (r:=fun _=>some false) (z:=K) ?_ ?_ (by omega)) (M2 i)
   ·intro m j hj _
    have hj':j < t.fFields.length:=by omega
    simp only [G9,F8 hj',D2 hj',z6 hj' hl,Option.bind_some,show decide ((j:Int) < (i:Int))=true by simp; exact hj,cond_true]
   ·intro m _
    simp only [G9,show decide ((i:Int) < (i:Int))=false by simp,cond_false]
  rw [hin]
  -- 'at' may be at the end in the reference: then no byte is left
  by_cases he:t.fFields[i].fAt=t.fSize
  ·have e1:decide (t.fFields[i].fAt > t.fSize)=false:=by simp; omega
   have e2:decide (t.fFields[i].fAt ≥ t.fSize)=true:=by simp; omega
   have e3:Go.IntKind.wrap .i64 (t.fSize - t.fFields[i].fAt)=0:=by rw [he,Int.sub_self]; rfl
   rw [e1,e2,e3]
   have e4:(decide (t.fFields[i].fBytes < 1) || decide (t.fFields[i].fBytes > 0))=true:=by
    simp only [Bool.or_eq_true,decide_eq_true_eq]; omega
   cases J1 t.fFields[i].fName <;> cases decide (t.fFields[i].fAt < 0) <;> cases h:decide (t.fFields[i].fBytes < 1) <;> cases h':decide (t.fFields[i].fBytes > 0) <;> first | rfl | (rw [h,h'] at e4; cases e4)
  ·have e1:decide (t.fFields[i].fAt > t.fSize)=decide (t.fFields[i].fAt ≥ t.fSize):=by
    apply decide_eq_decide.2; omega
   rw [e1]
   cases J1 t.fFields[i].fName <;> cases decide (t.fFields[i].fAt < 0) <;> cases decide (t.fFields[i].fAt ≥ t.fSize) <;> cases decide (t.fFields[i].fBytes < 1) <;> cases decide (t.fFields[i].fBytes > Go.IntKind.wrap .i64 (t.fSize - t.fFields[i].fAt)) <;> rfl
 ·intro m _
  simp only [J2,show decide ((t.fFields.length:Int) < (t.fFields.length:Int))=false by simp,cond_false]
  unfold eP
  cases hx:idx t.fFields t.fKey with
  | none=>
   have:decide (t.fKey < 0)=true∨decide (t.fKey ≥ (t.fFields.length:Int))=true:=by
    simp only [decide_eq_true_eq]
    by_cases h0:t.fKey < 0
    ·exact .inl h0
    ·by_cases h2:t.fKey ≥ (t.fFields.length:Int)
     ·exact .inr h2
     ·rw [V2 (by omega) (by omega)] at hx; cases hx
   cases h1:decide (t.fKey < (-1)) <;> cases h2:decide (t.fKey ≥ (t.fFields.length:Int)) <;> cases h3:decide (t.fKey < 0) <;> cases t.fUnique <;> cases decide ((t.fFields.length:Int)≤5) <;> first | rfl | (rw [h2,h3] at this; simp at this)
  | some f=>
   simp only [Option.bind_some]
   cases decide (t.fKey < (-1)) <;> cases decide (t.fKey ≥ (t.fFields.length:Int)) <;> cases decide (t.fKey < 0) <;> cases t.fUnique <;> cases decide ((t.fFields.length:Int)≤5) <;> rfl
theorem ur (t:a7):eK t=(dS t && iy t):=by
 unfold eK dS iy
 have hb:∀ x:Bool,(decide ((t.fFields.length:Int)≤5) && x)=(x && decide ((t.fFields.length:Int)≤5)):=fun x=>Bool.and_comm _ _
 have key:(!(decide (t.fKey < (-1)) || (decide (t.fKey ≥ (t.fFields.length:Int)) || (decide (t.fKey < 0) && t.fUnique))) && (decide (t.fKey < 0) || eP t))=
   (bif (t.fKey == (-1)) then !t.fUnique else !(decide (t.fKey < 0) || decide (t.fKey ≥ (t.fFields.length:Int))) && eP t):=by
  by_cases h1:t.fKey=-1
  ·have e1:decide (t.fKey < (-1))=false:=by simp; omega
   have e2:decide (t.fKey ≥ (t.fFields.length:Int))=false:=by simp; omega
   have e3:decide (t.fKey < 0)=true:=by simp; omega
   have e4:(t.fKey == (-1))=true:=by simp; exact h1
   rw [e1,e2,e3,e4]
   cases t.fUnique <;> rfl
  ·have e4:(t.fKey == (-1))=false:=by simp; exact h1
   rw [e4]
   by_cases h2:t.fKey < 0
   ·have e1:decide (t.fKey < (-1))=true:=by simp; omega
    have e3:decide (t.fKey < 0)=true:=by simp; omega
    rw [e1,e3]; rfl
   ·have e1:decide (t.fKey < (-1))=false:=by simp; omega
    have e3:decide (t.fKey < 0)=false:=by simp; omega
    rw [e1,e3]
    cases decide (t.fKey ≥ (t.fFields.length:Int)) <;> rfl
 rw [Bool.and_assoc,←key]
 congr 1
 cases decide ((t.fFields.length:Int)≤5) <;> simp
def F1 (ts:List a7):Nat→Int→List Int
 | 0,_=>[]
 | d+1,x=>if 0≤x then (match ts[x.toNat]? with | some t=>F1 ts d t.fParent ++ [x] | none=>[]) else []
def way (ts:List a7) (x:Nat):List Int:=F1 ts (x+1) (x:Int)
def Up (ts:List a7) (n:Nat):Prop:=∀ j (h:j < ts.length),j < n→(ts[j]).fParent < (j:Int)
theorem Up.mono {ts:List a7} {n m:Nat} (h:Up ts n) (hm:m≤n):Up ts m:=fun j hj hjm=>h j hj (by omega)
theorem P0 {ts:List a7} {d:Nat} {x:Int} (h:x < 0):F1 ts d x=[]:=by
 cases d with
 | zero=>rfl
 | succ d=>rw [F1,if_neg (by omega)]
theorem bV {ts:List a7} {n:Nat} (hu:Up ts n):∀ (d d':Nat) (x:Int),x < (d:Int)→x < (d':Int)→x < (n:Int)→F1 ts d x=F1 ts d' x
 | 0,d',x,h,h',hn=>by rw [P0 (d:=0) (by omega),P0 (by omega)]
 | d+1,0,x,h,h',hn=>by rw [P0 (by omega),P0 (by omega)]
 | d+1,d'+1,x,h,h',hn=>by
  by_cases h0:0≤x
  ·simp only [F1,if_pos h0]
   cases ht:ts[x.toNat]? with
   | none=>rfl
   | some t=>
    have hlt:x.toNat < ts.length:=by
     rcases Nat.lt_or_ge x.toNat ts.length with h1 | h1
     ·exact h1
     ·rw [List.getElem?_eq_none h1] at ht; cases ht
    have he:ts[x.toNat]=t:=by rw [List.getElem?_eq_getElem hlt] at ht; exact Option.some.inj ht
    have:=hu x.toNat hlt (by omega)
    rw [he] at this
    simp only
    rw [bV hu d d' t.fParent (by omega) (by omega) (by omega)]
  ·rw [P0 (by omega),P0 (by omega)]
theorem xh {ts:List a7} {n d:Nat} (hu:Up ts n) {x:Int} (h0:0≤x) (hd:x < (d:Int)) (hn:x < (n:Int)):F1 ts d x=way ts x.toNat:=by
 unfold way
 rw [show ((x.toNat:Nat):Int)=x by omega]
 exact bV hu _ _ x hd (by omega) hn
theorem oH {ts:List a7} {n x:Nat} (hu:Up ts n) (hn:x < n) (hx:x < ts.length):way ts x=F1 ts n (ts[x]).fParent ++ [(x:Int)]:=by
 unfold way
 rw [F1,if_pos (by omega),Int.toNat_natCast,List.getElem?_eq_getElem hx]
 simp only
 have:=hu x hx hn
 rw [bV hu x n _ this (by omega) (by omega)]
theorem dN {ts:List a7} {n:Nat} (hu:Up ts n):∀ (d:Nat) (x:Int),x < (n:Int)→∀ y∈F1 ts d x,0≤y∧y≤x
 | 0,_,_,y,hy=>by cases hy
 | d+1,x,hn,y,hy=>by
  by_cases h0:0≤x
  ·simp only [F1,if_pos h0] at hy
   cases ht:ts[x.toNat]? with
   | none=>rw [ht] at hy; cases hy
   | some t=>
    rw [ht] at hy
    have hlt:x.toNat < ts.length:=by
     rcases Nat.lt_or_ge x.toNat ts.length with h1 | h1
     ·exact h1
     ·rw [List.getElem?_eq_none h1] at ht; cases ht
    have he:ts[x.toNat]=t:=by rw [List.getElem?_eq_getElem hlt] at ht; exact Option.some.inj ht
    have hp:=hu x.toNat hlt (by omega)
    rw [he] at hp
    simp only [List.mem_append,List.mem_singleton] at hy
    rcases hy with hy | hy
    ·have:=dN hu d t.fParent (by omega) y hy
     omega
    ·omega
  ·rw [P0 (by omega)] at hy; cases hy
theorem gU {ts:List a7}:∀ (d:Nat) (x:Int),(F1 ts d x).length≤d
 | 0,_=>Nat.le_refl 0
 | d+1,x=>by
  rw [F1]
  split
  ·split
   ·have:=gU (ts:=ts) d (by assumption:a7).fParent
    simp
    omega
   ·exact Nat.zero_le _
  ·exact Nat.zero_le _
theorem rq {α:Type} {l:List α} {p:α→Bool} {j:Nat} (h:j < l.length) (hp:p l[j]=true) (hb:∀ i (h:i < l.length),i < j→p l[i]=false):pos l p=(j:Int):=by
 rcases aP l p with ⟨h1,_⟩ | ⟨q,h1,h2,h3,h4⟩
 ·rw [h1 j h] at hp; cases hp
 ·rw [h4]
  rcases Nat.lt_trichotomy q j with h5 | h5 | h5
  ·rw [hb q h1 h5] at h2; cases h2
  ·rw [h5]
  ·rw [h3 j h h5] at hp; cases hp
theorem zT {α:Type} {l:List α} {p:α→Bool} (h:l.any p=false):pos l p=-1:=by
 rcases aP l p with ⟨_,h2⟩ | ⟨j,h1,h2,_,_⟩
 ·exact h2
 ·rw [List.any_eq_false] at h
  have:=h _ (List.getElem_mem h1)
  rw [h2] at this; simp at this
theorem wU {ts:List a7} {n:Nat} (hu:Up ts n):∀ (d:Nat) (x:Int),x < (d:Int)→x < (n:Int)→∀ y:Int,y∈F1 ts d x→(F1 ts d x).take ((pos (F1 ts d x) (fun z=>y == z))+1).toNat=way ts y.toNat
 | 0,_,_,_,y,hy=>by cases hy
 | d+1,x,hd,hn,y,hy=>by
  by_cases h0:0≤x
  ·have hy1:=hy
   simp only [F1,if_pos h0] at hy1 ⊢
   cases ht:ts[x.toNat]? with
   | none=>rw [ht] at hy1; cases hy1
   | some t=>
    rw [ht] at hy1
    simp only at hy1 ⊢
    have hlt:x.toNat < ts.length:=by
     rcases Nat.lt_or_ge x.toNat ts.length with h1 | h1
     ·exact h1
     ·rw [List.getElem?_eq_none h1] at ht; cases ht
    have he:ts[x.toNat]=t:=by rw [List.getElem?_eq_getElem hlt] at ht; exact Option.some.inj ht
    have hp:=hu x.toNat hlt (by omega)
    rw [he] at hp
    have hlow:=dN hu d t.fParent (by omega)
    by_cases hyx:y=x
    ·subst hyx
     have hps:pos (F1 ts d t.fParent ++ [y]) (fun z=>y == z)=((F1 ts d t.fParent).length:Int):=by
      refine rq (by simp) (by simp) (fun i hi hij=>?_)
      rw [List.getElem_append_left hij]
      have:=hlow _ (List.getElem_mem hij)
      simp only [beq_eq_false_iff_ne,ne_eq]
      omega
     rw [hps]
     have e1:(((F1 ts d t.fParent).length:Int)+1).toNat=(F1 ts d t.fParent).length+1:=by omega
     rw [e1,List.take_of_length_le (by simp)]
     rw [oH hu (show y.toNat < n by omega) hlt,he]
     rw [bV hu d n t.fParent (by omega) (by omega) (by omega)]
     rw [show ((y.toNat:Nat):Int)=y by omega]
    ·have hy2:y∈F1 ts d t.fParent:=by
      simp only [List.mem_append,List.mem_singleton] at hy1
      rcases hy1 with h | h
      ·exact h
      ·exact absurd h hyx
     rcases aP (F1 ts d t.fParent) (fun z=>y == z) with ⟨g1,_⟩ | ⟨j,g1,g2,g3,g4⟩
     ·obtain ⟨i,hi,he2⟩:=List.getElem_of_mem hy2
      have:=g1 i hi
      rw [he2] at this; simp at this
     ·have hps:pos (F1 ts d t.fParent ++ [x]) (fun z=>y == z)=(j:Int):=by
       refine rq (by simp; omega) (by rw [List.getElem_append_left g1]; exact g2) (fun i hi hij=>?_)
       rw [List.getElem_append_left (by omega)]
       exact g3 i (by omega) hij
      have ih:=wU hu d t.fParent (by omega) (by omega) y hy2
      rw [g4] at ih
      rw [hps,List.take_append_of_le_length (by omega)]
      exact ih
  ·rw [P0 (by omega)] at hy; cases hy
def df (ts:List a7) (i:Nat):Bool:=at' ts (fun t=>(ts.take i).any (fun g=>g.fName == t.fName)) i
def W8 (t:a7):Bool:=(t.fParent != (-1)) || (decide (t.fKey < 0) || (!t.fUnique || (match idx t.fFields t.fKey with | some f=>decide (f.fBytes > 24) | none=>true)))
def J5 (ts:List a7):Nat→List Int
 | 0=>[]
 | i+1=>way ts i
def Z6 (ts:List a7) (i:Nat):Bool:=at' ts (fun t=>(!aV t || df ts i) || ((bif Nat.beq i 0 then W8 t else !(J5 ts i).any (fun z=>t.fParent == z)) || decide (((way ts i).length:Int) > 5))) i
def fq (ts:List a7):Bool:=!(decide ((ts.length:Int) < 1) || decide ((ts.length:Int) > 8)) && !aB (Z6 ts) ts.length
theorem wT {ts:List a7}:∀ (n:Nat),(∀ j,j < n→Z6 ts j=false)→Up ts n
 | 0,_=>fun j _ h=>by omega
 | n+1,h=>by
  have ih:=wT n (fun j hj=>h j (by omega))
  intro j hj hjn
  by_cases e:j < n
  ·exact ih j hj e
  ·have hjn':j=n:=by omega
   subst hjn'
   have hb:=h j (by omega)
   rw [Z6,F8 hj] at hb
   cases j with
   | zero=>
    simp only [Bool.or_eq_false_iff,show Nat.beq 0 0=true from rfl,cond_true,W8] at hb
    have:=hb.2.1.1
    simp at this
    omega
   | succ q=>
    simp only [Bool.or_eq_false_iff,show Nat.beq (q+1) 0=false from rfl,cond_false] at hb
    have h2:=hb.2.1
    simp only [Bool.not_eq_false',List.any_eq_true] at h2
    obtain ⟨z,hz,he⟩:=h2
    have hz':z∈way ts q:=hz
    have:=dN ih (q+1) q (by omega) z hz'
    have he':(ts[q+1]).fParent=z:=by simpa using he
    omega
theorem jL {k:Nat} {ts:List a7} (hk:maxLen+8≤k) (hw:wfL I1 ts):ac k ts=some (fq ts):=by
 obtain ⟨k,rfl,hq⟩:=m9 hk
 obtain ⟨hl,hw⟩:=hw
 have e63:=U1
 unfold ac fq
 by_cases hlen:1≤ts.length∧ts.length≤8
 ·obtain ⟨hlen1,hlen2⟩:=hlen
  simp only [show decide ((ts.length:Int) < 1)=false by simp; omega,show decide ((ts.length:Int) > 8)=false by simp; omega,cond_false,Option.bind_some,Bool.or_false,Bool.not_false,Bool.true_and]
  refine Eq.trans (EK (L:=fun m x s=>I9 k ts _ m x s) (n:=ts.length) (σ:=J5 ts) (g:=Z6 ts) (r:=fun _=>some false) (z:=some true) ?_ ?_ (by omega) rfl) ?_
  rotate_left 2
  ·rw [M2]
   cases aB (Z6 ts) ts.length <;> rfl
  ·intro m i hi hb
   have h1:=hw _ (List.getElem_mem hi)
   have hup:=wT i hb
   have hc:D1 k (ts.take i) (fun j x0=>S5 j x0 ts[i])=some (df ts i):=by
    rw [df,F8 hi]
    refine jG (by rw [List.length_take]; omega) (by rw [List.length_take]; omega) (fun k' e x hx=>?_)
    obtain ⟨k',rfl,_⟩:=m9 (show 0+1≤k' by omega)
    rfl
   have hbl:(J5 ts i).length≤8:=by
    cases i with
    | zero=>exact Nat.zero_le _
    | succ q=>have:=gU (ts:=ts) (q+1) q; show (way ts q).length≤8; unfold way; omega
   simp only [I9,D2 hi,z6 hi hl,Option.bind_some,show decide ((i:Int) < (ts.length:Int))=true by simp; exact hi,cond_true,mK (show maxLen+6≤k by omega) h1,np (show i≤ts.length by omega),hc,
    xq (show (J5 ts i).length+2≤k by omega) (show (J5 ts i).length≤maxLen by omega)]
   rw [Z6,F8 hi]
   cases hto:aV ts[i] with
   | false=>rfl
   | true=>
    cases hdt:df ts i with
    | true=>rfl
    | false=>
     simp only [Bool.not_true,cond_false,Option.bind_some,Bool.or_false,Bool.false_or]
     cases i with
     | zero=>
      simp only [show (((0:Nat):Int) == 0)=true from rfl,cond_true,show Nat.beq 0 0=true from rfl,show decide (((0:Nat):Int) > 0)=false from rfl,cond_false]
      have hroot:(bif ((ts[0]).fParent != (-1)) then (some (true)) else (bif (decide ((ts[0]).fKey < 0)) then (some (true)) else (bif (!(ts[0]).fUnique) then (some (true)) else ((idx (ts[0]).fFields (ts[0]).fKey).bind fun v25=>(bif (decide (v25.fBytes > 24)) then (some (true)) else some false)))))=some (W8 ts[0]):=by
       unfold W8
       cases hx:idx (ts[0]).fFields (ts[0]).fKey with
       | none=>
        -- the key of a type that is right is there, or negative
        have hneg:decide ((ts[0]).fKey < 0)=true:=by
         simp only [decide_eq_true_eq]
         by_cases h0:(ts[0]).fKey < 0
         ·exact h0
         ·exfalso
          have hko:iy ts[0]=true:=by
           unfold aV at hto
           simp only [Bool.and_eq_true] at hto
           exact hto.2
          unfold iy at hko
          have:((ts[0]).fKey == (-1))=false:=by simp; omega
          rw [this,cond_false] at hko
          unfold eP at hko
          rw [hx] at hko
          simp at hko
        rw [hneg]
        cases ((ts[0]).fParent != (-1)) <;> rfl
       | some f=>
        simp only [Option.bind_some]
        cases ((ts[0]).fParent != (-1)) <;> cases decide ((ts[0]).fKey < 0) <;> cases (ts[0]).fUnique <;> cases decide (f.fBytes > 24) <;> rfl
      rw [hroot]
      cases hrb:W8 ts[0] with
      | true=>simp
      | false=>
       have hpar:(ts[0]).fParent=-1:=by
        unfold W8 at hrb
        simp only [Bool.or_eq_false_iff] at hrb
        simpa using hrb.1
       have hway:way ts 0=[0]:=by
        unfold way
        rw [F1,if_pos (by omega),Int.toNat_natCast,List.getElem?_eq_getElem hi]
        simp [F1]
       have hpn:pos (J5 ts 0) (fun x=>(ts[0]).fParent == x)=-1:=rfl
       rw [hpn]
       have hup0:rM (J5 ts 0) (Go.IntKind.wrap .i64 (-1+1))=some 0:=rfl
       simp only [Option.bind_some,cond_false,hup0]
       rw [fS (by simp [J5,B7])]
       simp only [Option.bind_some,J5,List.take_nil,List.nil_append,hway]
       rfl
     | succ q=>
      simp only [show ((((q+1:Nat)):Int) == 0)=false by simp; omega,cond_false,show Nat.beq (q+1) 0=false from rfl,show decide ((((q+1:Nat)):Int) > 0)=true by simp,cond_true,Option.bind_some]
      have hbe:J5 ts (q+1)=F1 ts (q+1) q:=rfl
      cases hany:(J5 ts (q+1)).any (fun z=>(ts[q+1]).fParent == z) with
      | false=>
       rw [zT hany]
       rfl
      | true=>
       obtain ⟨y,hy,he⟩:=List.any_eq_true.1 hany
       have he':(ts[q+1]).fParent=y:=by simpa using he
       have hylt:=dN hup (q+1) q (by omega) y (by rw [←hbe]; exact hy)
       have hcut:=wU hup (q+1) q (by omega) (by omega) y (by rw [←hbe]; exact hy)
       rw [←hbe] at hcut
       rcases aP (J5 ts (q+1)) (fun z=>(ts[q+1]).fParent == z) with ⟨g1,_⟩ | ⟨j,g1,g2,g3,g4⟩
       ·exfalso
        obtain ⟨ii,hii,hee⟩:=List.getElem_of_mem hy
        have:=g1 ii hii
        rw [hee] at this
        rw [this] at he; cases he
       ·have hcut':(J5 ts (q+1)).take ((pos (J5 ts (q+1)) (fun z=>(ts[q+1]).fParent == z))+1).toNat=way ts y.toNat:=by
         rw [he']; exact hcut
        rw [g4] at hcut' ⊢
        have hdn:decide ((j:Int) < 0)=false:=by simp
        have hwr:Go.IntKind.wrap .i64 ((j:Int)+1)=((j+1:Nat):Int):=z6 (n:=(J5 ts (q+1)).length) g1 (by omega)
        have hut:rM (J5 ts (q+1)) ((j+1:Nat):Int)=some (j+1):=by
         unfold rM
         rw [if_pos ⟨by omega,by omega⟩]
         simp
        have hcut2:(J5 ts (q+1)).take (j+1)=way ts y.toNat:=by
         rw [←hcut']; congr 1
        have hwl:(way ts y.toNat).length≤8:=by
         have:=gU (ts:=ts) (y.toNat+1) (y.toNat:Int)
         show (F1 ts (y.toNat+1) (y.toNat:Int)).length≤8
         omega
        have hnext:way ts (q+1)=way ts y.toNat ++ [((q+1:Nat):Int)]:=by
         have hup2:Up ts (q+2):=by
          intro jj hjj hjn
          by_cases e:jj < q+1
          ·exact hup jj hjj e
          ·have:jj=q+1:=by omega
           subst this
           omega
         rw [oH hup2 (by omega) hi,he',xh hup2 hylt.1 (by omega) (by omega)]
        simp only [hdn,hwr,hut,cond_false,Option.bind_some,hcut2]
        rw [fS (by simp only [List.length_cons,List.length_nil,B7]; omega)]
        simp only [Option.bind_some,←hnext,Bool.not_true,Bool.false_or]
        rfl
  ·intro m _
   simp only [I9,show decide ((ts.length:Int) < (ts.length:Int))=false by simp,cond_false]
 ·by_cases h1:ts.length < 1
  ·simp only [show decide ((ts.length:Int) < 1)=true by simp; omega,cond_true,Option.bind_some,Bool.true_or,Bool.not_true,Bool.false_and]
  ·have h2:ts.length > 8:=by omega
   simp only [show decide ((ts.length:Int) < 1)=false by simp; omega,show decide ((ts.length:Int) > 8)=true by simp; omega,cond_true,cond_false,Option.bind_some,Bool.or_true,Bool.not_true,Bool.false_and]
def ae (xs:List a8) (i:Nat):Bool:=at' xs (fun t=>(xs.take i).any (fun g=>g.fName == t.fName)) i
def jR (ts:List a7) (x:a8):Bool:=
 match idx ts x.fType with | none=>true | some t=>decide (x.fField < 0) || (decide (x.fField ≥ (t.fFields.length:Int)) || (match idx t.fFields x.fField with | none=>true | some f=>decide (f.fBytes > 20)))
def V6 (ts:List a7) (xs:List a8) (i:Nat):Bool:=
 at' xs (fun x=>((!J1 x.fName) || (decide (x.fType < 0) || (decide (x.fType ≥ (ts.length:Int)) || (decide ((x.fSparse.length:Int) > 1) || ae xs i)))) || jR ts x) i
def dV (ts:List a7) (xs:List a8):Bool:=!aB (V6 ts xs) xs.length && decide ((xs.length:Int)≤3)
theorem ig {k:Nat} {ts:List a7} {xs:List a8} (hk:maxLen+6≤k) (hw:wfL N3 xs):S4 k xs ts=some (dV ts xs):=by
 obtain ⟨k,rfl,hq⟩:=m9 hk
 obtain ⟨hl,hw⟩:=hw
 unfold S4 dV
 refine Eq.trans (eg (L:=fun m x=>G0 k xs ts _ m x) (n:=xs.length) (g:=V6 ts xs) (r:=fun _=>some false) (z:=some (decide ((xs.length:Int)≤3))) ?_ ?_ (by omega)) ?_
 rotate_left 2
 ·rw [M2]
  cases aB (V6 ts xs) xs.length <;> rfl
 ·intro m i hi _
  have h1:=hw _ (List.getElem_mem hi)
  have hc:C0 k (xs.take i) (fun j x0=>P1 j x0 xs[i])=some (ae xs i):=by
   rw [ae,F8 hi]
   refine hZ (by rw [List.length_take]; omega) (by rw [List.length_take]; omega) (fun k' e x hx=>?_)
   obtain ⟨k',rfl,_⟩:=m9 (show 0+1≤k' by omega)
   rfl
  simp only [G0,V6,F8 hi,D2 hi,z6 hi hl,Option.bind_some,show decide ((i:Int) < (xs.length:Int))=true by simp; exact hi,cond_true,aJ (show maxLen+2≤k by omega) h1.1,np (show i≤xs.length by omega),hc]
  unfold jR
  cases hn:J1 xs[i].fName with
  | false=>rfl
  | true=>
   cases h2:decide (xs[i].fType < 0) with
   | true=>rfl
   | false=>
    cases h3:decide (xs[i].fType ≥ (ts.length:Int)) with
    | true=>rfl
    | false=>
     cases decide ((xs[i].fSparse.length:Int) > 1) with
     | true=>rfl
     | false=>
      cases ae xs i with
      | true=>rfl
      | false=>
       simp only [decide_eq_false_iff_not] at h2 h3
       rw [V2 (show 0≤xs[i].fType by omega) (by omega)]
       simp only [Bool.not_true,cond_false,Option.bind_some,Bool.or_false,Bool.false_or]
       generalize ts[(xs[i].fType).toNat]'_=t
       cases h4:decide (xs[i].fField < 0) with
       | true=>rfl
       | false=>
        cases h5:decide (xs[i].fField ≥ (t.fFields.length:Int)) with
        | true=>rfl
        | false=>
         simp only [decide_eq_false_iff_not] at h4 h5
         rw [V2 (show 0≤xs[i].fField by omega) (by omega)]
         simp only [cond_false,Option.bind_some,Bool.false_or]
 ·intro m _
  simp only [G0,show decide ((xs.length:Int) < (xs.length:Int))=false by simp,cond_false]
def valid (b:a6):Bool:=J1 b.fName && (decide (b.fKind ≥ 1) && (decide (b.fKind≤4) && (fq b.fTypes && dV b.fTypes b.fIndexes)))
theorem li {k:Nat} {b:a6} (hk:maxLen+9≤k) (hw:z7 b):Y3 k b=some (valid b):=by
 obtain ⟨k,rfl,hq⟩:=m9 hk
 obtain ⟨h1,_,h3,h4,_⟩:=hw
 simp only [Y3,aJ (show maxLen+2≤k by omega) h1,jL hq h3,ig (show maxLen+6≤k by omega) h4,Option.bind_some]
 unfold valid
 cases J1 b.fName <;> cases decide (b.fKind ≥ 1) <;> cases decide (b.fKind≤4) <;> cases fq b.fTypes <;> rfl
theorem dv {b:a6} {n:Nat} (hu:Up b.fTypes n) (hlen:n≤b.fTypes.length) (hs:n≤1000):∀ (d:Nat) (x:Int) (w:List Int) (m:Nat),x < (d:Int)→x < (n:Int)→d < m→w.length+d≤1000→
  Q0 b (fun y11 y12=>some y12) m x w=some (F1 b.fTypes d x ++ w)
 | d,x,w,0,_,_,hm,_=>by omega
 | d,x,w,m+1,hd,hn,hm,hwl=>by
  rw [Q0]
  by_cases h0:0≤x
  ·have hx:x.toNat < b.fTypes.length:=by omega
   have hp:=hu x.toNat hx (by omega)
   cases d with
   | zero=>omega
   | succ d=>
    simp only [show decide (x ≥ 0)=true by simp; omega,cond_true,V2 h0 (show x < (b.fTypes.length:Int) by omega),Option.bind_some]
    rw [fS (by simp only [List.length_cons,List.length_nil,B7]; omega)]
    simp only [Option.bind_some]
    rw [dv hu hlen hs d _ _ m (by omega) (by omega) (by omega) (by simp; omega)]
    rw [F1,if_pos h0,List.getElem?_eq_getElem hx]
    simp
  ·rw [P0 (by omega)]
   simp only [show decide (x ≥ 0)=false by simp; omega,cond_false,List.nil_append]
theorem ot {k:Nat} {b:a6} {n i:Nat} (hu:Up b.fTypes n) (hlen:n≤b.fTypes.length) (hs:n≤500) (hi:i < n) (hk:1000≤k):cl k b (i:Int)=some (way b.fTypes i):=by
 obtain ⟨k,rfl,hq⟩:=m9 (c:=999) (by omega:999+1≤k)
 refine Eq.trans (show cl (k+1) b (i:Int)=Q0 b (fun y11 y12=>some y12) k (i:Int) [] from rfl) ?_
 rw [dv hu hlen (by omega) (i+1) (i:Int) [] k (by omega) (by omega) (by omega) (by simp; omega)]
 rw [List.append_nil]; rfl
theorem bR {b:a6} {n:Nat} {a:Int} (hu:Up b.fTypes n) (hlen:n≤b.fTypes.length):∀ (d:Nat) (x:Int) (m:Nat),x < (d:Int)→x < (n:Int)→d < m→
  P3 b a (fun y8=>some false) m x=some ((F1 b.fTypes d x).any (fun z=>a == z))
 | d,x,0,_,_,hm=>by omega
 | d,x,m+1,hd,hn,hm=>by
  rw [P3]
  by_cases h0:0≤x
  ·have hx:x.toNat < b.fTypes.length:=by omega
   have hp:=hu x.toNat hx (by omega)
   cases d with
   | zero=>omega
   | succ d=>
    simp only [show decide (x ≥ 0)=true by simp; omega,cond_true,V2 h0 (show x < (b.fTypes.length:Int) by omega),Option.bind_some]
    rw [F1,if_pos h0,List.getElem?_eq_getElem hx]
    simp only [List.any_append,List.any_cons,List.any_nil,Bool.or_false]
    by_cases e:x=a
    ·subst e; simp
    ·have e1:(x == a)=false:=by simpa using e
     have e2:(a == x)=false:=by simpa using fun h=>e h.symm
     rw [e1,e2,cond_false,Bool.or_false]
     exact bR hu hlen d _ m (by omega) (by omega) (by omega)
  ·rw [P0 (by omega)]
   simp only [show decide (x ≥ 0)=false by simp; omega,cond_false,List.any_nil]
theorem lK {k:Nat} {b:a6} {n i:Nat} {a:Int} (hu:Up b.fTypes n) (hlen:n≤b.fTypes.length) (hs:n≤500) (hi:i < n) (hk:1000≤k):bq k b a (i:Int)=some ((F1 b.fTypes n ((b.fTypes[i]'(by omega)).fParent)).any (fun z=>a == z)):=by
 obtain ⟨k,rfl,hq⟩:=m9 (c:=999) (by omega:999+1≤k)
 have hx:i < b.fTypes.length:=by omega
 have hp:=hu i hx hi
 simp only [bq,D2 hx,Option.bind_some]
 exact bR hu hlen n _ k (by omega) (by omega) (by omega)
theorem ik {b:a6} {i k:Nat} {K:Option Bool} (hi:i < b.fTypes.length) (hl:b.fTypes.length≤maxLen) (hk:i < k):I3 b (i:Int) b.fTypes[i] (fun _=>K) k 0=bif df b.fTypes i then some false else K:=by
 rw [df,F8 hi,←kX (show i≤b.fTypes.length by omega)]
 refine Eq.trans (eg (L:=fun m x=>I3 b (i:Int) b.fTypes[i] _ m x) (n:=i) (g:=at' b.fTypes (fun g=>g.fName == b.fTypes[i].fName)) (r:=fun _=>some false) (z:=K) ?_ ?_ hk) (M2 i)
 ·intro m j hj _
  have hj':j < b.fTypes.length:=by omega
  simp only [I3,F8 hj',D2 hj',z6 hj' hl,Option.bind_some,show decide ((j:Int) < (i:Int))=true by simp; exact hj,cond_true]
 ·intro m _
  simp only [I3,show decide ((i:Int) < (i:Int))=false by simp,cond_false]
theorem ip {b:a6} {i k:Nat} {K:Option Bool} (hi:i < b.fIndexes.length) (hl:b.fIndexes.length≤maxLen) (hk:i < k):I5 b (i:Int) b.fIndexes[i] (fun _=>K) k 0=bif ae b.fIndexes i then some false else K:=by
 rw [ae,F8 hi,←kX (show i≤b.fIndexes.length by omega)]
 refine Eq.trans (eg (L:=fun m x=>I5 b (i:Int) b.fIndexes[i] _ m x) (n:=i) (g:=at' b.fIndexes (fun g=>g.fName == b.fIndexes[i].fName)) (r:=fun _=>some false) (z:=K) ?_ ?_ hk) (M2 i)
 ·intro m j hj _
  have hj':j < b.fIndexes.length:=by omega
  simp only [I5,F8 hj',D2 hj',z6 hj' hl,Option.bind_some,show decide ((j:Int) < (i:Int))=true by simp; exact hj,cond_true]
 ·intro m _
  simp only [I5,show decide ((i:Int) < (i:Int))=false by simp,cond_false]
theorem im {b:a6} {k:Nat} (hk:maxLen+6≤k) (hw:wfL N3 b.fIndexes):I4 k b (fun _=>some true) k 0=some (!aB (V6 b.fTypes b.fIndexes) b.fIndexes.length):=by
 obtain ⟨hl,hw⟩:=hw
 refine Eq.trans (eg (L:=fun m x=>I4 k b _ m x) (n:=b.fIndexes.length) (g:=V6 b.fTypes b.fIndexes) (r:=fun _=>some false) (z:=some true) ?_ ?_ (by omega)) ?_
 rotate_left 2
 ·rw [M2]
  cases aB (V6 b.fTypes b.fIndexes) b.fIndexes.length <;> rfl
 ·intro m i hi _
  have h1:=hw _ (List.getElem_mem hi)
  simp only [I4,V6,F8 hi,D2 hi,z6 hi hl,Option.bind_some,show decide ((i:Int) < (b.fIndexes.length:Int))=true by simp; exact hi,cond_true,aq (show maxLen+2≤k by omega) h1.1,ip hi hl (show i < k by omega)]
  unfold jR
  cases hn:J1 b.fIndexes[i].fName with
  | false=>rfl
  | true=>
   cases h2:decide (b.fIndexes[i].fType < 0) with
   | true=>rfl
   | false=>
    cases h3:decide (b.fIndexes[i].fType ≥ (b.fTypes.length:Int)) with
    | true=>rfl
    | false=>
     simp only [decide_eq_false_iff_not] at h2 h3
     rw [V2 (show 0≤b.fIndexes[i].fType by omega) (by omega)]
     simp only [Bool.not_true,cond_false,Option.bind_some,Bool.or_false,Bool.false_or]
     generalize b.fTypes[(b.fIndexes[i].fType).toNat]'_=t
     cases h4:decide (b.fIndexes[i].fField < 0) with
     | true=>cases decide ((b.fIndexes[i].fSparse.length:Int) > 1) <;> cases ae b.fIndexes i <;> rfl
     | false=>
      cases h5:decide (b.fIndexes[i].fField ≥ (t.fFields.length:Int)) with
      | true=>cases decide ((b.fIndexes[i].fSparse.length:Int) > 1) <;> cases ae b.fIndexes i <;> rfl
      | false=>
       simp only [decide_eq_false_iff_not] at h4 h5
       rw [V2 (show 0≤b.fIndexes[i].fField by omega) (by omega)]
       simp only [cond_false,Option.bind_some,Bool.false_or]
       generalize t.fFields[(b.fIndexes[i].fField).toNat]'_=f
       cases decide (f.fBytes > 20) <;> cases decide ((b.fIndexes[i].fSparse.length:Int) > 1) <;> cases ae b.fIndexes i <;> rfl
 ·intro m _
  simp only [I4,show decide ((b.fIndexes.length:Int) < (b.fIndexes.length:Int))=false by simp,cond_false]
theorem yf (t:a7):aV t=!((!J1 t.fName) || (decide (t.fMin < 1) || (decide (t.fMin > t.fSize) || (decide (t.fSize > 40) || !eK t)))):=by
 rw [ur]
 unfold aV
 cases J1 t.fName <;> cases decide (t.fMin < 1) <;> cases decide (t.fMin > t.fSize) <;> cases decide (t.fSize > 40) <;> cases dS t <;> cases iy t <;> rfl
theorem ij {b:a6} {k:Nat} {K:Option Bool} (hk:maxLen+8≤k) (hw:wfL I1 b.fTypes) (h8:b.fTypes.length≤8):G5 k b (fun _=>K) k 0=bif aB (Z6 b.fTypes) b.fTypes.length then some false else K:=by
 obtain ⟨hl,hw⟩:=hw
 have e63:=U1
 refine Eq.trans (eg (L:=fun m x=>G5 k b _ m x) (n:=b.fTypes.length) (g:=Z6 b.fTypes) (r:=fun _=>some false) (z:=K) ?_ ?_ (by omega)) (M2 _)
 ·intro m i hi hb
  have h1:=hw _ (List.getElem_mem hi)
  have hup:=wT i hb
  simp only [G5,D2 hi,z6 hi hl,Option.bind_some,show decide ((i:Int) < (b.fTypes.length:Int))=true by simp; exact hi,cond_true,aq (show maxLen+2≤k by omega) h1.1,kC (show maxLen+5≤k by omega) h1,ik hi hl (show i < k by omega)]
  rw [Z6,F8 hi]
  have hshape:(bif (!J1 (b.fTypes[i]).fName) then (some (true)) else (bif (decide ((b.fTypes[i]).fMin < 1)) then (some (true)) else (bif (decide ((b.fTypes[i]).fMin > (b.fTypes[i]).fSize)) then (some (true)) else (bif (decide ((b.fTypes[i]).fSize > 40)) then (some (true)) else (some ((!eK b.fTypes[i])))))))=some (!aV b.fTypes[i]):=by
   rw [yf]
   cases J1 (b.fTypes[i]).fName <;> cases decide ((b.fTypes[i]).fMin < 1) <;> cases decide ((b.fTypes[i]).fMin > (b.fTypes[i]).fSize) <;> cases decide ((b.fTypes[i]).fSize > 40) <;> cases eK b.fTypes[i] <;> rfl
  rw [hshape]
  cases hto:aV b.fTypes[i] with
  | false=>rfl
  | true=>
   cases hdt:df b.fTypes i with
   | true=>rfl
   | false=>
    simp only [Bool.not_true,cond_false,Option.bind_some,Bool.or_false,Bool.false_or]
    cases i with
    | zero=>
     simp only [show (((0:Nat):Int) == 0)=true from rfl,cond_true,show Nat.beq 0 0=true from rfl]
     have hway:(W8 b.fTypes[0]=false)→decide (((way b.fTypes 0).length:Int) > 5)=false:=by
      intro hrb
      have hpar:(b.fTypes[0]).fParent=-1:=by
       unfold W8 at hrb
       simp only [Bool.or_eq_false_iff] at hrb
       simpa using hrb.1
      have:way b.fTypes 0=[0]:=by
       unfold way
       rw [F1,if_pos (by omega),Int.toNat_natCast,List.getElem?_eq_getElem hi]
       simp [F1]
      rw [this]; rfl
     have hroot:(bif ((b.fTypes[0]).fParent != (-1)) then (some (true)) else (bif (decide ((b.fTypes[0]).fKey < 0)) then (some (true)) else (bif (!(b.fTypes[0]).fUnique) then (some (true)) else ((idx (b.fTypes[0]).fFields (b.fTypes[0]).fKey).bind fun v32=>(some ((decide (v32.fBytes > 24))))))))=some (W8 b.fTypes[0]):=by
      unfold W8
      cases hx:idx (b.fTypes[0]).fFields (b.fTypes[0]).fKey with
      | none=>
       have hneg:decide ((b.fTypes[0]).fKey < 0)=true:=by
        simp only [decide_eq_true_eq]
        by_cases h0:(b.fTypes[0]).fKey < 0
        ·exact h0
        ·exfalso
         have hko:iy b.fTypes[0]=true:=by
          unfold aV at hto
          simp only [Bool.and_eq_true] at hto
          exact hto.2
         unfold iy at hko
         have:((b.fTypes[0]).fKey == (-1))=false:=by simp; omega
         rw [this,cond_false] at hko
         unfold eP at hko
         rw [hx] at hko
         simp at hko
       rw [hneg]
       cases ((b.fTypes[0]).fParent != (-1)) <;> rfl
      | some f=>
       simp only [Option.bind_some]
       cases ((b.fTypes[0]).fParent != (-1)) <;> cases decide ((b.fTypes[0]).fKey < 0) <;> cases (b.fTypes[0]).fUnique <;> cases decide (f.fBytes > 24) <;> rfl
     rw [hroot]
     cases hrb:W8 b.fTypes[0] with
     | true=>rfl
     | false=>rw [hway hrb]; rfl
    | succ q=>
     have hq1:q < b.fTypes.length:=by omega
     have hpq:=hup q hq1 (by omega)
     have hbe:J5 b.fTypes (q+1)=F1 b.fTypes (q+1) q:=rfl
     have hbw:J5 b.fTypes (q+1)=F1 b.fTypes (q+1) (b.fTypes[q]).fParent ++ [(q:Int)]:=oH hup (by omega) hq1
     have hab:=lK (k:=k) (a:=(b.fTypes[q+1]).fParent) hup (by omega) (by omega) (show q < q+1 by omega) (by omega)
     have hwr:Go.IntKind.wrap .i64 (((q+1:Nat):Int) - 1)=(q:Int):=by
      rw [hP (by omega) (by omega)]; omega
     simp only [show ((((q+1:Nat)):Int) == 0)=false by simp; omega,cond_false,show Nat.beq (q+1) 0=false from rfl,hwr,hab,Option.bind_some]
     have hmem:(J5 b.fTypes (q+1)).any (fun z=>(b.fTypes[q+1]).fParent == z)=((F1 b.fTypes (q+1) (b.fTypes[q]).fParent).any (fun z=>(b.fTypes[q+1]).fParent == z) || ((b.fTypes[q+1]).fParent == (q:Int))):=by
      rw [hbw]; simp only [List.any_append,List.any_cons,List.any_nil,Bool.or_false]
     have hin:((F1 b.fTypes (q+1) (b.fTypes[q]).fParent).any (fun z=>(b.fTypes[q+1]).fParent == z) || ((b.fTypes[q+1]).fParent == (q:Int)))=true→¬ (b.fTypes[q+1]).fParent < 0∧¬ (b.fTypes[q+1]).fParent ≥ ((q+1:Nat):Int):=by
      intro h
      rw [←hmem] at h
      obtain ⟨y,hy,he⟩:=List.any_eq_true.1 h
      have he':(b.fTypes[q+1]).fParent=y:=by simpa using he
      have:=dN hup (q+1) q (by omega) y (by rw [←hbe]; exact hy)
      omega
     rw [hmem]
     cases hany:((F1 b.fTypes (q+1) (b.fTypes[q]).fParent).any (fun z=>(b.fTypes[q+1]).fParent == z) || ((b.fTypes[q+1]).fParent == (q:Int))) with
     | false=>
      rw [Bool.or_eq_false_iff] at hany
      obtain ⟨g1,g2⟩:=hany
      rw [g1]
      have g3:((b.fTypes[q+1]).fParent != (q:Int))=true:=by rw [bne,g2]; rfl
      rw [g3]
      cases decide ((b.fTypes[q+1]).fParent < 0) <;> cases decide ((b.fTypes[q+1]).fParent ≥ ((q+1:Nat):Int)) <;> rfl
     | true=>
      obtain ⟨g1,g2⟩:=hin hany
      have hup2:Up b.fTypes (q+2):=by
       intro jj hjj hjn
       by_cases e:jj < q+1
       ·exact hup jj hjj e
       ·have:jj=q+1:=by omega
        subst this
        omega
      have hwy:=ot (k:=k) hup2 (by omega) (by omega) (show q+1 < q+2 by omega) (by omega)
      rw [hwy]
      simp only [show decide ((b.fTypes[q+1]).fParent < 0)=false by simp; omega,show decide ((b.fTypes[q+1]).fParent ≥ ((q+1:Nat):Int))=false by simp; omega,cond_false,Option.bind_some]
      rw [Bool.or_eq_true] at hany
      rcases hany with g3 | g3
      ·rw [g3]
       cases ((b.fTypes[q+1]).fParent != (q:Int)) <;> cases decide (((way b.fTypes (q+1)).length:Int) > 5) <;> rfl
      ·have g4:((b.fTypes[q+1]).fParent != (q:Int))=false:=by rw [bne,g3]; rfl
       rw [g4]
       cases decide (((way b.fTypes (q+1)).length:Int) > 5) <;> rfl
 ·intro m _
  simp only [G5,show decide ((b.fTypes.length:Int) < (b.fTypes.length:Int))=false by simp,cond_false]
theorem mp {k:Nat} {b:a6} (hk:maxLen+9≤k) (hw:z7 b):T1 k b=some (valid b):=by
 obtain ⟨k,rfl,hq⟩:=m9 hk
 obtain ⟨h1,_,h3,h4,_⟩:=hw
 simp only [T1,aq (show maxLen+2≤k by omega) h1,Option.bind_some]
 unfold valid fq dV
 have e1:decide (b.fKind < 1)=!decide (b.fKind ≥ 1):=by rw [←decide_not]; apply decide_eq_decide.2; omega
 have e2:decide (b.fKind > 4)=!decide (b.fKind≤4):=by rw [←decide_not]; apply decide_eq_decide.2; omega
 have e3:decide ((b.fIndexes.length:Int) > 3)=!decide ((b.fIndexes.length:Int)≤3):=by rw [←decide_not]; apply decide_eq_decide.2; omega
 rw [e1,e2,e3]
 by_cases h8:b.fTypes.length≤8
 ·rw [ij hq h3 h8,im (show maxLen+6≤k by omega) h4]
  cases J1 b.fName <;> cases decide (b.fKind ≥ 1) <;> cases decide (b.fKind≤4) <;> cases decide ((b.fTypes.length:Int) < 1) <;> cases decide ((b.fTypes.length:Int) > 8) <;> cases decide ((b.fIndexes.length:Int)≤3) <;> cases aB (Z6 b.fTypes) b.fTypes.length <;> cases aB (V6 b.fTypes b.fIndexes) b.fIndexes.length <;> rfl
 ·have e4:decide ((b.fTypes.length:Int) > 8)=true:=by simp; omega
  rw [e4]
  cases J1 b.fName <;> cases decide (b.fKind ≥ 1) <;> cases decide (b.fKind≤4) <;> cases decide ((b.fTypes.length:Int) < 1) <;> rfl
def gZ (b:a6) (x:Int):Bool:=decide (x < 0) || decide (x ≥ (b.fTypes.length:Int))
def fx (b:a6) (l:List Int):Int:=bif !valid b then 100 else bif l.any (gZ b) then 2 else 0
theorem gg {k:Nat} {b:a6} {l:List Int} (hk:maxLen+10≤k) (hw:z7 b) (hl:l.length≤1000):ch k b l=some (fx b l):=by
 have e63:=U1
 obtain ⟨k,rfl,hq⟩:=m9 hk
 have hc:D6 k l (fun j x0=>Y4 j x0 b)=some (l.any (gZ b)):=by
  refine la (by omega) (by omega) (fun k' e x hx=>?_)
  obtain ⟨k',rfl,_⟩:=m9 (show 0+1≤k' by omega)
  simp only [Y4,gZ]
  cases decide (x < 0) <;> cases decide (x ≥ (b.fTypes.length:Int)) <;> rfl
 simp only [ch,li (show maxLen+9≤k by omega) hw,hc,Option.bind_some]
 unfold fx
 cases valid b <;> cases l.any (gZ b) <;> rfl
theorem ng {b:a6} {l:List Int} (h:fx b l=0):valid b=true∧∀ x∈l,0≤x∧x < (b.fTypes.length:Int):=by
 unfold fx at h
 cases hv:valid b with
 | false=>rw [hv] at h; simp at h
 | true=>
  rw [hv] at h
  cases ha:l.any (gZ b) with
  | true=>rw [ha] at h; simp at h
  | false=>
   refine ⟨rfl,fun x hx=>?_⟩
   rw [List.any_eq_false] at ha
   have:=ha x hx
   unfold gZ at this
   simp at this
   omega
theorem oG {b:a6} (h:valid b=true):Up b.fTypes b.fTypes.length∧1≤b.fTypes.length∧b.fTypes.length≤8:=by
 unfold valid fq at h
 simp only [Bool.and_eq_true,Bool.not_eq_true',Bool.or_eq_false_iff,decide_eq_false_iff_not] at h
 obtain ⟨_,_,_,⟨⟨h1,h2⟩,h3⟩,_⟩:=h
 exact ⟨wT _ (W9.1 h3),by omega,by omega⟩
theorem fy {b:a6} {n:Nat} {K:Int→List Int→Option (List Int)} (hu:Up b.fTypes n) (hlen:n≤b.fTypes.length) (hs:n≤1000):∀ (d:Nat) (x:Int) (w:List Int) (m:Nat),x < (d:Int)→x < (n:Int)→d < m→w.length+d≤1000→
  ∃ y,X4 b K m x w=K y (w ++ (F1 b.fTypes d x).reverse)
 | d,x,w,0,_,_,hm,_=>by omega
 | d,x,w,m+1,hd,hn,hm,hwl=>by
  rw [X4]
  by_cases h0:0≤x
  ·have hx:x.toNat < b.fTypes.length:=by omega
   have hp:=hu x.toNat hx (by omega)
   cases d with
   | zero=>omega
   | succ d=>
    simp only [show decide (x ≥ 0)=true by simp; omega,cond_true,V2 h0 (show x < (b.fTypes.length:Int) by omega),Option.bind_some]
    rw [fS (by simp only [List.length_cons,List.length_nil,B7]; omega)]
    simp only [Option.bind_some]
    obtain ⟨y,hy⟩:=fy (K:=K) hu hlen hs d (b.fTypes[x.toNat]).fParent (w ++ [x]) m (by omega) (by omega) (by omega) (by simp; omega)
    refine ⟨y,hy.trans ?_⟩
    rw [F1,if_pos h0,List.getElem?_eq_getElem hx]
    simp
  ·rw [P0 (by omega)]
   refine ⟨x,?_⟩
   simp only [show decide (x ≥ 0)=false by simp; omega,cond_false,List.reverse_nil,List.append_nil]
theorem qw {k:Nat} {b:a6} {n i:Nat} (hu:Up b.fTypes n) (hlen:n≤b.fTypes.length) (hs:n≤500) (hi:i < n) (hk:1000≤k):jP k b (i:Int)=some (way b.fTypes i):=by
 obtain ⟨k,rfl,hq⟩:=m9 (c:=999) (by omega:999+1≤k)
 obtain ⟨y,hy⟩:=fy (K:=fun y11 y12=>(((slices_Reverse_int k y12).bind (bh y12)).bind fun o14=>(some o14))) hu hlen (by omega) (i+1) (i:Int) [] k (by omega) (by omega) (by omega) (by simp; omega)
 refine Eq.trans (show jP (k+1) b (i:Int)=X4 b (fun y11 y12=>(((slices_Reverse_int k y12).bind (bh y12)).bind fun o14=>(some o14))) k (i:Int) [] from rfl) (hy.trans ?_)
 rw [List.nil_append]
 obtain ⟨k,rfl,_⟩:=m9 (show 0+1≤k by omega)
 have hl:=gU (ts:=b.fTypes) (i+1) (i:Int)
 have hble:Nat.ble (F1 b.fTypes (i+1) (i:Int)).length 9223372036854775807=true:=Nat.ble_eq_true_of_le (by omega)
 simp only [slices_Reverse_int,lM,List.length_reverse,hble,cond_true,List.reverse_reverse,Option.bind_some,bh,if_pos]
 rfl
def Aq (b:a6) (t:Int):List Int×Int:=bif fx b [t] != 0 then ([],fx b [t]) else (way b.fTypes t.toNat,0)
theorem qt {k:Nat} {b:a6} {t:Int} (hk:maxLen+11≤k) (hw:z7 b):jI k b t=some (Aq b t):=by
 have e63:=U1
 obtain ⟨k,rfl,hq⟩:=m9 hk
 simp only [jI,gg hq hw (show [t].length≤1000 by simp),Option.bind_some]
 unfold Aq
 by_cases h:fx b [t]=0
 ·obtain ⟨hv,hx⟩:=ng h
  have ht:=hx t (by simp)
  obtain ⟨hup,h1,h8⟩:=oG hv
  have:=qw (k:=k) hup (Nat.le_refl _) (by omega) (show t.toNat < b.fTypes.length by omega) (by omega)
  rw [show ((t.toNat:Nat):Int)=t by omega] at this
  simp only [this,h,Option.bind_some]
  rfl
 ·have:(fx b [t] != 0)=true:=by simpa using h
  simp only [this,cond_true]
def sM (ts:List a7) (t:Int) (i:Nat):List Int:=((List.range i).filter (at' ts (fun x=>x.fParent == t))).map Int.ofNat
theorem xu {ts:List a7} {t:Int} {i:Nat} (hi:i < ts.length):sM ts t (i+1)=sM ts t i ++ (bif (ts[i]).fParent == t then [(i:Int)] else []):=by
 unfold sM
 rw [List.range_succ,List.filter_append,List.map_append]
 congr 1
 simp only [List.filter_cons,List.filter_nil,F8 hi]
 cases ((ts[i]).fParent == t) <;> rfl
theorem zy {ts:List a7} {t:Int} {i:Nat}:(sM ts t i).length≤i:=by
 unfold sM
 rw [List.length_map]
 have:=List.length_filter_le (at' ts (fun x=>x.fParent == t)) (List.range i)
 rw [List.length_range] at this
 exact this
def uC (b:a6) (t:Int):List Int×Int:=bif fx b [t] != 0 then ([],fx b [t]) else (sM b.fTypes t b.fTypes.length,0)
theorem jH {k:Nat} {b:a6} {t:Int} (hk:maxLen+11≤k) (hw:z7 b):Z8 k b t=some (uC b t):=by
 have e63:=U1
 obtain ⟨k,rfl,hq⟩:=m9 hk
 simp only [Z8,gg hq hw (show [t].length≤1000 by simp),Option.bind_some]
 unfold uC
 by_cases h:fx b [t]=0
 ·obtain ⟨hv,hx⟩:=ng h
  obtain ⟨hup,h1,h8⟩:=oG hv
  simp only [h,bne_self_eq_false,cond_false]
  refine Eq.trans (EK (L:=fun m x s=>G6 b t _ m s x) (n:=b.fTypes.length) (σ:=sM b.fTypes t) (g:=fun _=>false) (r:=fun _=>none) (z:=some (sM b.fTypes t b.fTypes.length,0)) ?_ ?_ (by omega) rfl) ?_
  rotate_left 2
  ·rw [js _ _ (fun _ _ _=>rfl)]
  ·intro m i hi _
   have hkl:=zy (ts:=b.fTypes) (t:=t) (i:=i)
   simp only [G6,D2 hi,z6 hi (show b.fTypes.length≤maxLen by omega),Option.bind_some,show decide ((i:Int) < (b.fTypes.length:Int))=true by simp; exact hi,cond_true,cond_false,xu hi]
   rw [fS (by simp only [List.length_cons,List.length_nil,B7]; omega)]
   cases ((b.fTypes[i]).fParent == t) with
   | true=>rfl
   | false=>simp only [cond_false,List.append_nil]
  ·intro m _
   simp only [G6,show decide ((b.fTypes.length:Int) < (b.fTypes.length:Int))=false by simp,cond_false]
 ·have:(fx b [t] != 0)=true:=by simpa using h
  simp only [this,cond_true]
theorem iE {k:Nat} {l:List Int} (hk:l.length+2≤k) (hl:l.length≤maxLen):P2 k l l=some true:=by
 obtain ⟨k,rfl,hq⟩:=m9 (c:=l.length+1) hk
 simp only [P2,bne_self_eq_false,cond_false]
 refine Eq.trans (eg (L:=fun m x=>G3 l l _ m x) (n:=l.length) (g:=fun _=>false) (r:=fun _=>none) (z:=some true) ?_ ?_ (by omega)) (js _ _ (fun _ _ _=>rfl))
 ·intro m i hi _
  simp only [G3,D2 hi,z6 hi hl,Option.bind_some,show decide ((i:Int) < (l.length:Int))=true by simp; exact hi,cond_true,bne_self_eq_false,cond_false]
 ·intro m _
  simp only [G3,show decide ((l.length:Int) < (l.length:Int))=false by simp,cond_false]
theorem ti {k:Nat} {b:a6} (hk:maxLen+2≤k) (hw:z7 b):∃ r,dm k b=some r:=by
 obtain ⟨k,rfl,hq⟩:=m9 hk
 have hl:=hw.2.2.1.1
 refine ⟨_,Eq.trans (eg (L:=fun m x=>L7 b _ m x) (n:=b.fTypes.length) (g:=at' b.fTypes (fun t=>decide ((t.fFields.length:Int) > 10))) (r:=fun _=>some false) (z:=some (decide ((b.fTypes.length:Int)≤12) && decide ((b.fIndexes.length:Int)≤6))) ?_ ?_ (by omega)) ((ov some (r:=fun _=>false) (z:=decide ((b.fTypes.length:Int)≤12) && decide ((b.fIndexes.length:Int)≤6)) _ _).symm)⟩
 ·intro m i hi _
  simp only [L7,F8 hi,D2 hi,z6 hi hl,Option.bind_some,show decide ((i:Int) < (b.fTypes.length:Int))=true by simp; exact hi,cond_true]
 ·intro m _
  simp only [L7,show decide ((b.fTypes.length:Int) < (b.fTypes.length:Int))=false by simp,cond_false]
  cases decide ((b.fTypes.length:Int)≤12) <;> cases decide ((b.fIndexes.length:Int)≤6) <;> rfl
def zY:a6:=match X7 1 with | some b=>b | none=>⟨[],0,[],[]⟩
theorem Bj {k:Nat} (hk:1≤k):X7 k=some zY:=by
 obtain ⟨k,rfl,_⟩:=m9 (c:=0) hk
 rfl
theorem wG:z7 zY:=by
 have hS:∀ s:Str,s.length≤100→wfS s:=fun s h=>by unfold wfS; rw [U1]; omega
 have hI:∀ n:Int,-100≤n→n≤100→wfI .i64 n:=fun n h h'=>by
  unfold wfI Lit.wf
  simp only [Bool.and_eq_true,decide_eq_true_eq]
  have e1:IntKind.i64.min=-9223372036854775808:=by decide
  have e2:IntKind.i64.max=9223372036854775807:=by decide
  rw [e1,e2]; omega
 have hL:∀ {α:Type} {wf:α→Prop} (l:List α),l.length≤100→(∀ a∈l,wf a)→wfL wf l:=fun l h h'=>⟨by rw [U1]; omega,h'⟩
 refine ⟨hS _ (by decide),hI _ (by decide) (by decide),hL _ (by decide) ?_,hL _ (by decide) (fun a ha=>by cases ha),trivial⟩
 intro t ht
 simp only [zY,X7,List.mem_cons,List.not_mem_nil,or_false] at ht
 rcases ht with rfl | rfl | rfl | rfl <;> refine ⟨hS _ (by decide),hI _ (by decide) (by decide),hI _ (by decide) (by decide),hI _ (by decide) (by decide),hL _ (by decide) ?_,hI _ (by decide) (by decide),trivial,trivial,trivial⟩ <;> intro f hf <;> simp only [List.mem_cons,List.not_mem_nil,or_false] at hf <;> subst hf <;> exact ⟨hS _ (by decide),hI _ (by decide) (by decide),hI _ (by decide) (by decide),trivial⟩
theorem ut {k:Nat} (hk:maxLen+13≤k):S9 k=some true:=by
 have e63:=U1
 obtain ⟨k,rfl,hq⟩:=m9 hk
 have h1:Aq zY 2=([0,1,2],0):=by decide +kernel
 have h2:uC zY 0=([1,3],0):=by decide +kernel
 simp only [S9,Bj (show 1≤k by omega),qt (show maxLen+11≤k by omega) wG,jH (show maxLen+11≤k by omega) wG,h1,h2,Option.bind_some,
  iE (l:=[0,1,2]) (show [(0:Int),1,2].length+2≤k by simp; omega) (by rw [e63]; simp),iE (l:=[1,3]) (show [(1:Int),3].length+2≤k by simp; omega) (by rw [e63]; simp)]
 rfl
theorem As {α:Type} [DecidableEq α] {l m:List α} (h:l.length=m.length):aB (fun i=>!decide (l[i]?=m[i]?)) l.length=!decide (l=m):=by
 cases hd:decide (l=m) with
 | true=>
  obtain rfl:=of_decide_eq_true hd
  exact W9.2 (fun i hi=>by simp)
 | false=>
  refine jA.2 ?_
  have hne:=of_decide_eq_false hd
  refine Classical.byContradiction (fun hc=>hne (List.ext_getElem? (fun i=>?_)))
  by_cases hi:i < l.length
  ·cases hg:decide (l[i]?=m[i]?) with
   | true=>exact of_decide_eq_true hg
   | false=>exact absurd ⟨i,hi,by simp only [hg]; rfl⟩ hc
  ·rw [List.getElem?_eq_none (by omega),List.getElem?_eq_none (by omega)]
theorem aK {α:Type} [DecidableEq α] {l m:List α} (hlen:l.length=m.length) {L:Nat→Int→Option Bool} {z:Option Bool}
  (hL:∀ q i (hi:i < l.length) (hi':i < m.length),L (q+1) (i:Int)=bif !decide (l[i]=m[i]) then some false else L q ((i+1:Nat):Int)) (he:∀ q,L (q+1) (l.length:Int)=z) {k:Nat} (hk:l.length < k):
  L k 0=bif decide (l=m) then z else some false:=by
 refine Eq.trans (eg (L:=L) (n:=l.length) (g:=fun i=>!decide (l[i]?=m[i]?)) (r:=fun _=>some false) (z:=z) ?_ (fun q _=>he q) hk) ?_
 ·intro q i hi _
  rw [hL q i hi (by omega)]
  have:decide (l[i]?=m[i]?)=decide (l[i]=m[i]'(by omega)):=by
   rw [List.getElem?_eq_getElem hi,List.getElem?_eq_getElem (show i < m.length by omega)]
   apply decide_eq_decide.2
   constructor
   ·intro h; exact Option.some.inj h
   ·intro h; rw [h]
  simp only [this]
 ·rw [M2,As hlen]
  cases decide (l=m) <;> rfl
theorem sg (x y:a8):(x.fName == y.fName && (x.fType == y.fType && (x.fField == y.fField && (x.fSparse == y.fSparse && true))))=decide (x=y):=by
 cases x; cases y
 rw [Bool.eq_iff_iff]
 simp only [Bool.and_eq_true,beq_iff_eq,decide_eq_true_eq,a8.mk.injEq,and_true]
theorem we (x y:b8):(x.fName == y.fName && (x.fAt == y.fAt && (x.fBytes == y.fBytes && true)))=decide (x=y):=by
 cases x; cases y
 rw [Bool.eq_iff_iff]
 simp only [Bool.and_eq_true,beq_iff_eq,decide_eq_true_eq,b8.mk.injEq,and_true]
theorem yy (x y:a7):(x.fName == y.fName && (x.fParent == y.fParent && (x.fMin == y.fMin && (x.fSize == y.fSize && (x.fKey == y.fKey && (x.fUnique == y.fUnique && (x.fLast == y.fLast && decide (x.fFields=y.fFields))))))))=decide (x=y):=by
 cases x; cases y
 rw [Bool.eq_iff_iff]
 simp only [Bool.and_eq_true,beq_iff_eq,decide_eq_true_eq,a7.mk.injEq]
 constructor
 ·rintro ⟨a,b,c,d,e,f,g,h⟩; exact ⟨a,b,c,d,h,e,f,g⟩
 ·rintro ⟨a,b,c,d,h,e,f,g⟩; exact ⟨a,b,c,d,e,f,g,h⟩
theorem kb {α β:Type} (l:List α) (m:List β):((l.length:Int) != (m.length:Int))=!decide (l.length=m.length):=by
 cases h:decide (l.length=m.length) with
 | true=>have:=of_decide_eq_true h; simp [this]
 | false=>have:=of_decide_eq_false h; simp; omega
def pQ (a b:a6):Bool:=(a.fName == b.fName) && ((a.fKind == b.fKind) && (decide (a.fIndexes=b.fIndexes) && decide (a.fTypes=b.fTypes)))
theorem jl {k:Nat} {x y:a7} {K:Option Bool} (h:x.fFields.length=y.fFields.length) (hl:x.fFields.length≤maxLen) (hk:x.fFields.length < k):K7 (x,y) (fun _=>K) k 0=bif decide (x.fFields=y.fFields) then K else some false:=by
 refine aK h (L:=fun q i=>K7 (x,y) _ q i) (z:=K) ?_ ?_ hk
 ·intro q i hi hi'
  simp only [K7,show decide ((i:Int) < (x.fFields.length:Int))=true by simp; exact hi,cond_true,D2 hi,D2 hi',z6 hi hl,Option.bind_some,we]
 ·intro q
  simp only [K7,show decide ((x.fFields.length:Int) < (x.fFields.length:Int))=false by simp,cond_false]
theorem jk {k:Nat} {a b:a6} {K:Option Bool} (h:a.fTypes.length=b.fTypes.length) (hw:wfL I1 a.fTypes) (hk:maxLen < k):K6 k a b (fun _=>K) k 0=bif decide (a.fTypes=b.fTypes) then K else some false:=by
 obtain ⟨hl,hw⟩:=hw
 refine aK h (L:=fun q i=>K6 k a b _ q i) (z:=K) ?_ ?_ (by omega)
 ·intro q i hi hi'
  have hf:=(hw _ (List.getElem_mem hi)).2.2.2.2.1.1
  simp only [K6,show decide ((i:Int) < (a.fTypes.length:Int))=true by simp; exact hi,cond_true,D2 hi,D2 hi',z6 hi hl,Option.bind_some]
  generalize a.fTypes[i]=x at hf
  generalize b.fTypes[i]=y
  rw [←yy,kb]
  by_cases hfl:x.fFields.length=y.fFields.length
  ·rw [decide_eq_true hfl,jl hfl hf (by omega)]
   simp only [bne]
   cases (x.fName == y.fName) <;> cases (x.fParent == y.fParent) <;> cases (x.fMin == y.fMin) <;> cases (x.fSize == y.fSize) <;> cases (x.fKey == y.fKey) <;> cases (x.fUnique == y.fUnique) <;> cases (x.fLast == y.fLast) <;> cases decide (x.fFields=y.fFields) <;> rfl
  ·rw [decide_eq_false hfl,decide_eq_false (show ¬ x.fFields=y.fFields from fun e=>hfl (by rw [e]))]
   simp only [bne]
   cases (x.fName == y.fName) <;> cases (x.fParent == y.fParent) <;> cases (x.fMin == y.fMin) <;> cases (x.fSize == y.fSize) <;> cases (x.fKey == y.fKey) <;> cases (x.fUnique == y.fUnique) <;> cases (x.fLast == y.fLast) <;> rfl
 ·intro q
  simp only [K6,show decide ((a.fTypes.length:Int) < (a.fTypes.length:Int))=false by simp,cond_false]
theorem jm {k:Nat} {a b:a6} (h:a.fIndexes.length=b.fIndexes.length) (hl:a.fIndexes.length≤maxLen) (hk:a.fIndexes.length < k):K8 a b (fun _=>some true) k 0=some (decide (a.fIndexes=b.fIndexes)):=by
 refine Eq.trans (aK h (L:=fun q i=>K8 a b _ q i) (z:=some true) ?_ ?_ hk) ?_
 ·intro q i hi hi'
  simp only [K8,show decide ((i:Int) < (a.fIndexes.length:Int))=true by simp; exact hi,cond_true,D2 hi,D2 hi',z6 hi hl,Option.bind_some,sg]
 ·intro q
  simp only [K8,show decide ((a.fIndexes.length:Int) < (a.fIndexes.length:Int))=false by simp,cond_false]
 ·cases decide (a.fIndexes=b.fIndexes) <;> rfl
theorem mQ {k:Nat} {a b:a6} (hk:maxLen+8≤k) (hw:z7 a):cH k a b=some (pQ a b):=by
 obtain ⟨k,rfl,hq⟩:=m9 hk
 have h3:=hw.2.2.1
 have h4:=hw.2.2.2.1.1
 simp only [cH,kb]
 unfold pQ
 by_cases h1:a.fTypes.length=b.fTypes.length
 ·by_cases h2:a.fIndexes.length=b.fIndexes.length
  ·rw [decide_eq_true h1,decide_eq_true h2,jk h1 h3 (by omega),jm h2 h4 (by omega)]
   simp only [bne]
   cases (a.fName == b.fName) <;> cases (a.fKind == b.fKind) <;> cases decide (a.fIndexes=b.fIndexes) <;> cases decide (a.fTypes=b.fTypes) <;> rfl
  ·rw [decide_eq_true h1,decide_eq_false h2,decide_eq_false (show ¬ a.fIndexes=b.fIndexes from fun e=>h2 (by rw [e]))]
   simp only [bne]
   cases (a.fName == b.fName) <;> cases (a.fKind == b.fKind) <;> rfl
 ·rw [decide_eq_false h1,decide_eq_false (show ¬ a.fTypes=b.fTypes from fun e=>h1 (by rw [e]))]
  simp only [bne]
  cases (a.fName == b.fName) <;> cases (a.fKind == b.fKind) <;> cases decide (a.fIndexes=b.fIndexes) <;> rfl
theorem uT (a:a6):pQ a a=true:=by
 unfold pQ
 simp
theorem qC {k:Nat} {l m:List a8} (hk:l.length+2≤k) (hl:l.length≤maxLen):J3 k l m=some (decide (l=m)):=by
 obtain ⟨k,rfl,hq⟩:=m9 (c:=l.length+1) hk
 simp only [J3,kb]
 by_cases h:l.length=m.length
 ·rw [decide_eq_true h]
  simp only [Bool.not_true,cond_false]
  refine Eq.trans (aK h (L:=fun q x=>C4 l m _ q x) (z:=some true) ?_ ?_ (by omega)) ?_
  ·intro q i hi hi'
   simp only [C4,show decide ((i:Int) < (l.length:Int))=true by simp; exact hi,cond_true,D2 hi,D2 hi',z6 hi hl,Option.bind_some,sg]
  ·intro q
   simp only [C4,show decide ((l.length:Int) < (l.length:Int))=false by simp,cond_false]
  ·cases decide (l=m) <;> rfl
 ·rw [decide_eq_false h]
  simp only [Bool.not_false,cond_true]
  rw [decide_eq_false (fun e=>h (by rw [e]))]
theorem si {k:Nat} {l m:List b8} (hk:l.length+2≤k) (hl:l.length≤maxLen):M3 k l m=some (decide (l=m)):=by
 obtain ⟨k,rfl,hq⟩:=m9 (c:=l.length+1) hk
 simp only [M3,kb]
 by_cases h:l.length=m.length
 ·rw [decide_eq_true h]
  simp only [Bool.not_true,cond_false]
  refine Eq.trans (aK h (L:=fun q x=>D3 l m _ q x) (z:=some true) ?_ ?_ (by omega)) ?_
  ·intro q i hi hi'
   simp only [D3,show decide ((i:Int) < (l.length:Int))=true by simp; exact hi,cond_true,D2 hi,D2 hi',z6 hi hl,Option.bind_some,we]
  ·intro q
   simp only [D3,show decide ((l.length:Int) < (l.length:Int))=false by simp,cond_false]
  ·cases decide (l=m) <;> rfl
 ·rw [decide_eq_false h]
  simp only [Bool.not_false,cond_true]
  rw [decide_eq_false (fun e=>h (by rw [e]))]
theorem mF {k:Nat} {x y:a7} (hk:x.fFields.length+3≤k) (hl:x.fFields.length≤maxLen):X1 k x y=some (decide (x=y)):=by
 obtain ⟨k,rfl,hq⟩:=m9 (c:=x.fFields.length+2) hk
 simp only [X1,si hq hl,←yy]
 cases (x.fName == y.fName) <;> cases (x.fParent == y.fParent) <;> cases (x.fMin == y.fMin) <;> cases (x.fSize == y.fSize) <;> cases (x.fKey == y.fKey) <;> cases (x.fUnique == y.fUnique) <;> cases (x.fLast == y.fLast) <;> rfl
theorem nE {k:Nat} {l m:List a7} (hk:maxLen+6≤k) (hw:wfL I1 l):E8 k l m (fun j x0 x1=>X1 j x0 x1)=some (decide (l=m)):=by
 obtain ⟨hl,hw⟩:=hw
 obtain ⟨k,rfl,hq⟩:=m9 hk
 simp only [E8,kb]
 by_cases h:l.length=m.length
 ·rw [decide_eq_true h]
  simp only [Bool.not_true,cond_false]
  refine Eq.trans (aK h (L:=fun q x=>z8 k l m _ _ q x) (z:=some true) ?_ ?_ (by omega)) ?_
  ·intro q i hi hi'
   have hf:=(hw _ (List.getElem_mem hi)).2.2.2.2.1.1
   simp only [z8,show decide ((i:Int) < (l.length:Int))=true by simp; exact hi,cond_true,D2 hi,D2 hi',z6 hi hl,Option.bind_some,mF (show (l[i]).fFields.length+3≤k by omega) hf]
  ·intro q
   simp only [z8,show decide ((l.length:Int) < (l.length:Int))=false by simp,cond_false]
  ·cases decide (l=m) <;> rfl
 ·rw [decide_eq_false h]
  simp only [Bool.not_false,cond_true]
  rw [decide_eq_false (fun e=>h (by rw [e]))]
theorem oP {k:Nat} {a b:a6} (hk:maxLen+8≤k) (hw:z7 a):ga k a b=some (pQ a b):=by
 obtain ⟨k,rfl,hq⟩:=m9 hk
 have h3:=hw.2.2.1
 have h4:=hw.2.2.2.1.1
 simp only [ga,qC (show a.fIndexes.length+2≤k by omega) h4,nE (show maxLen+6≤k by omega) h3,Option.bind_some]
 unfold pQ
 cases (a.fName == b.fName) <;> cases (a.fKind == b.fKind) <;> cases decide (a.fIndexes=b.fIndexes) <;> rfl
theorem eR {i n:Nat} (h:i < n):decide ((i:Int) < (n:Int))=true:=by simp; exact h
theorem eS (n:Nat):decide ((n:Int) < (n:Int))=false:=by simp
theorem E5:maxLen=9223372036854775807:=rfl
theorem Hc (c:UInt8) (l:Str):Go.Lib.index (c :: l) [c]=0:=by
 rw [Go.Lib.index]
 simp [List.isPrefixOf]
theorem EJ {b c:UInt8} (h:b≠c) (l:Str):Go.Lib.index (b :: l) [c]=if Go.Lib.index l [c] == -1 then -1 else Go.Lib.index l [c]+1:=by
 have hp:([c]:Str).isPrefixOf (b :: l)=false:=by simp [List.isPrefixOf,Ne.symm h]
 rw [Go.Lib.index,hp]
 simp
theorem zu {c:UInt8}:∀ {s:Str},c ∉ s→Go.Lib.index s [c]=-1
 | [],_=>rfl
 | b :: l,h=>by
  rw [List.mem_cons,not_or] at h
  rw [EJ (Ne.symm h.1),zu h.2]
  rfl
theorem zt {c:UInt8}:∀ {a:Str} (b:Str),c ∉ a→Go.Lib.index (a ++ c :: b) [c]=(a.length:Int)
 | [],b,_=>Hc c b
 | x :: a,b,h=>by
  rw [List.mem_cons,not_or] at h
  rw [List.cons_append,EJ (Ne.symm h.1),zt b h.2]
  have:((a.length:Int) == -1)=false:=by rw [beq_eq_false_iff_ne]; omega
  rw [this]
  simp
def sk (c:UInt8) (k:Nat) (s:Str):List Str:=Go.Lib.splitK [c] 0 k s
theorem Bk (c:UInt8) (s:Str):sk c 0 s=[s]:=rfl
theorem EP {c:UInt8} {s:Str} (h:c ∉ s) (k:Nat):sk c k s=[s]:=by
 cases k with
 | zero=>rfl
 | succ k=>
  unfold sk Go.Lib.splitK
  rw [zu h]
  rfl
theorem wb {c:UInt8} (a b:Str):(a ++ c :: b).drop (a.length+1)=b:=by
 rw [List.drop_append,List.drop_of_length_le (by omega)]
 simp
theorem EO {c:UInt8} {a:Str} (b:Str) (h:c ∉ a) (k:Nat):sk c (k+1) (a ++ c :: b)=a :: sk c k b:=by
 unfold sk
 rw [Go.Lib.splitK,zt b h]
 have:((a.length:Int) == -1)=false:=by rw [beq_eq_false_iff_ne]; omega
 rw [this]
 simp only [Bool.false_eq_true,if_false,Int.toNat_natCast,Nat.add_zero,List.length_cons,List.length_nil,Nat.zero_add]
 rw [List.take_left,wb]
theorem qL {c:UInt8}:∀ {s:Str},c∈s→∃ a b,s=a ++ c :: b∧c ∉ a
 | x :: s,h=>by
  by_cases e:x=c
  ·exact ⟨[],s,by rw [e]; rfl,by simp⟩
  ·obtain ⟨a,b,h1,h2⟩:=qL (List.mem_of_ne_of_mem (Ne.symm e) h)
   exact ⟨x :: a,b,by rw [h1]; rfl,by simp only [List.mem_cons,not_or]; exact ⟨Ne.symm e,h2⟩⟩
def jn (c:UInt8):List Str→Str
 | []=>[]
 | [a]=>a
 | a :: b :: r=>a ++ c :: jn c (b :: r)
theorem jY (c:UInt8) (a:Str) {r:List Str} (h:r≠[]):jn c (a :: r)=a ++ c :: jn c r:=by
 cases r with
 | nil=>exact absurd rfl h
 | cons b r=>rfl
theorem zZ {c:UInt8}:∀ (ws:List Str) (k:Nat),ws≠[]→(∀ w∈ws,c ∉ w)→ws.length≤k+1→sk c k (jn c ws)=ws
 | [],_,h,_,_=>absurd rfl h
 | [a],k,_,h,_=>EP (h a (by simp)) k
 | a :: b :: r,k,_,h,hk=>by
  obtain ⟨k,rfl⟩:∃ q,k=q+1:=⟨k - 1,by simp at hk; omega⟩
  rw [jY c a (by simp),EO _ (h a (by simp)),zZ (b :: r) k (by simp) (fun w hw=>h w (by simp [hw])) (by simp at hk ⊢; omega)]
theorem nT {c:UInt8}:∀ (ws:List Str),ws≠[]→ws.length≤(jn c ws).count c+1
 | [],h=>absurd rfl h
 | [a],_=>by simp
 | a :: b :: r,_=>by
  rw [jY c a (by simp),List.count_append,List.count_cons_self]
  have:=nT (c:=c) (b :: r) (by simp)
  simp only [List.length_cons] at this ⊢
  omega
theorem Bn {c:UInt8} {ws:List Str} (h0:ws≠[]) (h:∀ w∈ws,c ∉ w) (hl:(jn c ws).length < 4294967281):rG (jn c ws) [c]=some ws:=by
 unfold rG
 rw [if_pos ⟨rfl,hl⟩,Go.Lib.count_one]
 exact congrArg some (zZ ws _ h0 h (nT ws h0))
theorem xU {c:UInt8} {s:Str} (hl:s.length < 4294967281):rG s [c]=some (sk c (s.count c) s):=by
 unfold rG
 rw [if_pos ⟨rfl,hl⟩,Go.Lib.count_one]
 rfl
theorem tg (c:UInt8):∀ (k:Nat) (s:Str),(sk c k s).length≤s.length+1∧∀ w∈sk c k s,w.length≤s.length
 | 0,s=>by rw [Bk]; exact ⟨by simp,fun w hw=>by simp at hw; subst hw; exact Nat.le_refl _⟩
 | k+1,s=>by
  by_cases h:c∈s
  ·obtain ⟨a,b,rfl,ha⟩:=qL h
   rw [EO b ha]
   obtain ⟨h1,h2⟩:=tg c k b
   refine ⟨by simp only [List.length_cons,List.length_append]; omega,fun w hw=>?_⟩
   simp only [List.length_append,List.length_cons]
   rcases List.mem_cons.1 hw with rfl | hw
   ·omega
   ·have:=h2 w hw
    omega
  ·rw [EP h]
   exact ⟨by simp,fun w hw=>by simp at hw; subst hw; exact Nat.le_refl _⟩
theorem Y7 {u:Nat} (h:u < 10):Go.Lib.decDigits u=[UInt8.ofNat (48+u)]:=by
 unfold Go.Lib.decDigits
 rw [dif_pos h]
theorem dO {u:Nat} (h:¬ u < 10):Go.Lib.decDigits u=Go.Lib.decDigits (u / 10) ++ [UInt8.ofNat (48+u % 10)]:=by
 rw [Go.Lib.decDigits,dif_neg h]
theorem eG {d:Nat} (h:d < 10):(UInt8.ofNat (48+d)).toNat=48+d:=by
 rw [UInt8.toNat_ofNat']
 omega
theorem po (u:Nat):∀ b∈Go.Lib.decDigits u,48≤b.toNat∧b.toNat≤57:=by
 induction u using Nat.strongRecOn with
 | ind u ih=>
  intro b hb
  by_cases h:u < 10
  ·rw [Y7 h,List.mem_singleton] at hb
   subst hb
   rw [eG h]
   omega
  ·rw [dO h,List.mem_append,List.mem_singleton] at hb
   rcases hb with hb | rfl
   ·exact ih (u / 10) (by omega) b hb
   ·rw [eG (Nat.mod_lt u (by omega))]
    have:=Nat.mod_lt u (show 10 > 0 by omega)
    omega
theorem Fe (u:Nat):Go.Lib.decDigits u≠[]:=by
 by_cases h:u < 10
 ·rw [Y7 h]; simp
 ·rw [dO h]; simp
theorem yx {c:UInt8} (h:c.toNat < 48) (u:Nat):c ∉ Go.Lib.decDigits u:=fun hc=>by
 have:=(po u c hc).1
 omega
theorem qx:∀ (j u:Nat),u < 10 ^ (j+1)→(Go.Lib.decDigits u).length≤j+1
 | 0,u,hu=>by
  rw [Y7 (by simpa using hu)]
  simp
 | j+1,u,hu=>by
  by_cases h:u < 10
  ·rw [Y7 h]
   simp
  ·have hd:u / 10 < 10 ^ (j+1):=by
    rw [Nat.pow_succ] at hu
    omega
   rw [dO h,List.length_append]
   have:=qx j (u / 10) hd
   simp only [List.length_cons,List.length_nil]
   omega
theorem xE (u:Nat):∀ r:Str,u < 1000000000000000000→Go.Lib.parseUint10 0 (Go.Lib.decDigits u ++ r)=Go.Lib.parseUint10 u r:=by
 induction u using Nat.strongRecOn with
 | ind u ih=>
  intro r hu
  by_cases h:u < 10
  ·rw [Y7 h,List.singleton_append,Go.Lib.parseUint10,eG h,if_pos (by omega),if_neg (by omega),if_neg (by omega)]
   congr 1
   omega
  ·rw [dO h,List.append_assoc,ih (u / 10) (by omega) _ (by omega),List.singleton_append,Go.Lib.parseUint10,eG (Nat.mod_lt u (by omega)),if_pos (by have:=Nat.mod_lt u (show 10 > 0 by omega); omega),if_neg (by omega),if_neg (by omega)]
   congr 1
   omega
theorem yp {u:Nat} (hu:u < 1000000000000000000):Go.Lib.atoiAll (Go.Lib.decDigits u)=.ok (u:Int):=by
 have h1:=xE u [] hu
 rw [List.append_nil] at h1
 have h2:=Fe u
 have h3:=po u
 generalize Go.Lib.decDigits u=l at h1 h2 h3
 cases l with
 | nil=>exact absurd rfl h2
 | cons c r=>
  have h4:=h3 c (by simp)
  unfold Go.Lib.atoiAll
  simp only [if_neg (show ¬ (c.toNat=43∨c.toNat=45) by omega),Go.Lib.parseMag,List.cons_ne_nil,if_false,h1]
  rw [Go.Lib.parseUint10]
  simp only [show ¬ c.toNat=45 by omega,not_false_eq_true,true_and,false_and,if_false]
  rw [if_neg (by omega)]
theorem zG {u:Nat} (hu:u < 1000000000000000000):pb (Go.Lib.decDigits u)=((u:Int),true):=by
 unfold pb
 rw [yp hu]
 simp only [Go.Lib.itoa,if_neg (show ¬ (u:Int) < 0 by omega),Int.toNat_natCast,beq_self_eq_true,Bool.and_true]
 congr 1
theorem pM {d:Bool} {s:Str} (h:s.length≤281474976710656):∃ n b,od d s=some (n,b)∧-9223372036854775808≤n∧n≤9223372036854775807:=by
 unfold od
 split
 ·exact ⟨_,_,rfl,by omega,by omega⟩
 ·unfold pb
  split
  ·rename_i v hv
   have:=Go.Lib.atoiAll_bounds hv
   exact ⟨_,_,rfl,by omega,by omega⟩
  ·exact ⟨_,_,rfl,by unfold Go.Lib.atoiSat; split <;> omega,by unfold Go.Lib.atoiSat; split <;> omega⟩
  ·exact ⟨_,_,rfl,by omega,by omega⟩
theorem sK (c:UInt8):∀ ws:List Str,([c]:Str).intercalate ws=jn c ws
 | []=>rfl
 | [a]=>by simp [List.intercalate,jn]
 | a :: b :: r=>by
  rw [jY c a (by simp),←sK c (b :: r)]
  simp [List.intercalate,List.intersperse]
theorem zw {c:UInt8} {ws:List Str} (h1:ws.length≤1000000) (h2:(jn c ws).length≤140737488355328):nU ws [c]=some (jn c ws):=by
 unfold nU
 rw [sK,if_pos ⟨h1,h2⟩]
def nl (l:List Str):Str:=(l.map (· ++ [10])).flatten
theorem qZ (a:Str) (l:List Str):nl (a :: l)=(a ++ [10]) ++ nl l:=by simp [nl]
theorem xD (a b:List Str):nl (a ++ b)=nl a ++ nl b:=by simp [nl]
theorem xC {s:Str} (h:J1 s=true) {c:UInt8} (hc:c.toNat < 48):c ∉ s:=fun hm=>by
 unfold J1 at h
 simp only [Bool.and_eq_true,Bool.not_eq_true'] at h
 obtain ⟨i,hi,rfl⟩:=List.getElem_of_mem hm
 have:=W9.1 h.1 i hi
 unfold yq at this
 rw [F8 hi] at this
 simp only [Bool.and_eq_false_iff,Bool.not_eq_false',Bool.and_eq_true,decide_eq_true_eq,Bool.or_eq_false_iff,decide_eq_false_iff_not] at this
 rcases this with ⟨h1,h2⟩ | ⟨h1,h2,h3⟩
 ·omega
 ·omega
theorem pk {a b:Str} (h:a.length+b.length≤140737488355328):eC a b=some (a ++ b):=by
 unfold eC
 rw [if_pos h]
theorem xc {s:Str} (h:s≠[]):kZ s=some s:=by
 unfold kZ
 rw [if_neg h]
theorem jE {a b:Str} (h:a.length+b.length≤B7):cat a b=some (a ++ b):=by
 unfold cat
 rw [if_pos h]
theorem ey {n:Int} (h:-9223372036854775808≤n) (h':n≤9223372036854775807):wfI .i64 n:=by
 show (decide (IntKind.min .i64≤n) && decide (n≤IntKind.max .i64))=true
 rw [Bool.and_eq_true,decide_eq_true_eq,decide_eq_true_eq]
 exact ⟨h,h'⟩
def Ap:Str:=[68,66,68]
def qf:Str:=[83,69,71,77]
def jz:Str:=[70,73,69,76,68]
def dK:Str:=[73,78,68,69,88]
def dgt (n:Int):Str:=Go.Lib.decDigits n.toNat
def ku (ts:List a7) (p:Int):Str:=if p < 0 then [45] else match ts[p.toNat]? with | some u=>u.fName | none=>[]
def mi (t:a7) (j:Nat):Str:=bif ((j:Int) == t.fKey) then (bif t.fUnique then [85] else [77]) else [45]
def cx (n:Nat):UInt8:=UInt8.ofNat (if n < 10 then 48+n else 87+n)
def pg (s:Str):Str:=match s with | []=>[45] | c :: _=>[cx (c.toNat / 16),cx (c.toNat % 16)]
def xT (ts:List a7) (x:a8):Str:=match ts[x.fType.toNat]? with | some t=>t.fName | none=>[]
def xF (ts:List a7) (x:a8):Str:=match ts[x.fType.toNat]? with | some t=>(match t.fFields[x.fField.toNat]? with | some f=>f.fName | none=>[]) | none=>[]
def fZ (b:a6):List Str:=[Ap,b.fName,dgt b.fKind]
def gN (ts:List a7) (t:a7):List Str:=[qf,t.fName,ku ts t.fParent,dgt t.fMin,dgt t.fSize,bif t.fLast then [76] else [70]]
def jU (t:a7) (j:Nat) (f:b8):List Str:=[jz,f.fName,dgt f.fAt,dgt f.fBytes,mi t j]
def gu (ts:List a7) (x:a8):List Str:=[dK,x.fName,xT ts x,xF ts x,pg x.fSparse]
def bl (t:a7):Nat→List b8→List (List Str)
 | _,[]=>[]
 | j,f :: r=>jU t j f :: bl t (j+1) r
def V1 (ts:List a7) (t:a7):List (List Str):=gN ts t :: bl t 0 t.fFields
def fJ (b:a6):List (List Str):=b.fTypes.flatMap (V1 b.fTypes) ++ b.fIndexes.map (gu b.fTypes)
def V4 (b:a6):List (List Str):=fZ b :: fJ b
def tx (l:List (List Str)):Str:=nl (l.map (jn 32))
def aG (b:a6):Str:=tx (V4 b)
theorem lV (a b:List (List Str)):tx (a ++ b)=tx a ++ tx b:=by
 unfold tx
 rw [List.map_append,xD]
theorem ce (a:List Str) (b:List (List Str)):tx (a :: b)=(jn 32 a ++ [10]) ++ tx b:=by
 unfold tx
 rw [List.map_cons,qZ]
structure Nm (s:Str):Prop where
 l:s.length≤8
 ne:s≠[]
 b:∀ c∈s,48≤c.toNat
theorem wr {s:Str} (h:J1 s=true):Nm s:=by
 have h':=h
 unfold J1 at h'
 simp only [Bool.and_eq_true,decide_eq_true_eq] at h'
 refine ⟨by omega,fun e=>?_,fun c hc=>?_⟩
 ·rw [e] at h'
  simp at h'
 ·by_cases h48:48≤c.toNat
  ·exact h48
  ·exact absurd hc (xC h (by omega))
structure qk (f:b8):Prop where
 n:Nm f.fName
 a:0≤f.fAt∧f.fAt≤40
 s:0≤f.fBytes∧f.fBytes≤40
structure Z5 (t:a7):Prop where
 n:Nm t.fName
 m:0≤t.fMin∧t.fMin≤40
 s:0≤t.fSize∧t.fSize≤40
 f5:t.fFields.length≤5
 f:∀ f∈t.fFields,qk f
 d:∀ i j (hi:i < j) (hj:j < t.fFields.length),(t.fFields[i]'(by omega)).fName≠(t.fFields[j]).fName
 k:(t.fKey=-1∧t.fUnique=false)∨(0≤t.fKey∧t.fKey < (t.fFields.length:Int))
structure tN (ts:List a7) (x:a8):Prop where
 n:Nm x.fName
 t0:0≤x.fType
 t1:x.fType < (ts.length:Int)
 f0:0≤x.fField
 f1:∀ t,ts[x.fType.toNat]?=some t→x.fField < (t.fFields.length:Int)
 s:x.fSparse.length≤1
structure cn (b:a6):Prop where
 n:Nm b.fName
 k:1≤b.fKind∧b.fKind≤4
 t8:b.fTypes.length≤8
 t:∀ t∈b.fTypes,Z5 t
 p:∀ i (hi:i < b.fTypes.length),-1≤(b.fTypes[i]).fParent∧(b.fTypes[i]).fParent < (i:Int)
 d:∀ i j (hi:i < j) (hj:j < b.fTypes.length),(b.fTypes[i]'(by omega)).fName≠(b.fTypes[j]).fName
 x3:b.fIndexes.length≤3
 x:∀ x∈b.fIndexes,tN b.fTypes x
theorem my {α:Type} {g:α→Str} {l:List α} {j:Nat} (hj:j < l.length) (h:((l.take j).any fun u=>g u == g l[j])=false) {i:Nat} (hi:i < j):g (l[i]'(by omega))≠g l[j]:=by
 rw [List.any_eq_false] at h
 have:=h (l[i]'(by omega)) (List.mem_take_iff_getElem.2 ⟨i,by omega,rfl⟩)
 simpa using this
theorem Ak {t:a7} (h:aV t=true):Z5 t:=by
 have h':=h
 unfold aV dS at h'
 simp only [Bool.and_eq_true,Bool.not_eq_true',Bool.or_eq_false_iff,Bool.not_eq_false',decide_eq_false_iff_not,decide_eq_true_eq] at h'
 obtain ⟨⟨hn,h1,h2,h3,h4,h5⟩,hk⟩:=h'
 have hf:∀ j (hj:j < t.fFields.length),qk t.fFields[j]∧∀ i (hi:i < j),(t.fFields[i]'(by omega)).fName≠(t.fFields[j]).fName:=by
  intro j hj
  have:=W9.1 h4 j hj
  rw [R9,F8 hj] at this
  simp only [Bool.or_eq_false_iff,Bool.not_eq_false',decide_eq_false_iff_not] at this
  obtain ⟨⟨g0,g1,g2,g3,g4⟩,g5⟩:=this
  rw [hP (by omega) (by omega)] at g4
  exact ⟨⟨wr g0,by omega,by omega⟩,fun i hi=>my (g:=fun f:b8=>f.fName) hj g5 hi⟩
 refine ⟨wr hn,by omega,by omega,by omega,fun f hfm=>?_,fun i j hi hj=>(hf j hj).2 i hi,?_⟩
 ·obtain ⟨j,hj,rfl⟩:=List.getElem_of_mem hfm
  exact (hf j hj).1
 ·unfold iy at hk
  by_cases e:t.fKey=-1
  ·rw [e] at hk
   exact .inl ⟨e,by simpa using hk⟩
  ·rw [show (t.fKey == (-1))=false by simpa using e,cond_false] at hk
   simp only [Bool.and_eq_true,Bool.not_eq_true',Bool.or_eq_false_iff,decide_eq_false_iff_not] at hk
   exact .inr (by omega)
theorem jB {b:a6} (h:valid b=true):cn b:=by
 have hup:=oG h
 unfold valid at h
 simp only [Bool.and_eq_true,decide_eq_true_eq] at h
 obtain ⟨h1,h2,h3,h4,h5⟩:=h
 unfold fq at h4
 simp only [Bool.and_eq_true,Bool.not_eq_true',Bool.or_eq_false_iff,decide_eq_false_iff_not] at h4
 obtain ⟨⟨t1,t8⟩,h4⟩:=h4
 have hb:=W9.1 h4
 have ht:∀ j (hj:j < b.fTypes.length),aV b.fTypes[j]=true∧(∀ i (hi:i < j),(b.fTypes[i]'(by omega)).fName≠(b.fTypes[j]).fName)∧-1≤(b.fTypes[j]).fParent:=by
  intro j hj
  have:=hb j hj
  rw [Z6,F8 hj] at this
  simp only [Bool.or_eq_false_iff,Bool.not_eq_false'] at this
  obtain ⟨⟨g1,g2⟩,g3,_⟩:=this
  rw [df,F8 hj] at g2
  refine ⟨g1,fun i hi=>my (g:=fun f:a7=>f.fName) hj g2 hi,?_⟩
  cases j with
  | zero=>
   simp only [show Nat.beq 0 0=true from rfl,cond_true,W8,Bool.or_eq_false_iff] at g3
   have:=g3.1
   simp at this
   omega
  | succ q=>
   simp only [show Nat.beq (q+1) 0=false from rfl,cond_false,Bool.not_eq_false',List.any_eq_true] at g3
   obtain ⟨z,hz,he⟩:=g3
   have hz':z∈way b.fTypes q:=hz
   have:=dN hup.1 (q+1) q (by omega) z hz'
   have he':(b.fTypes[q+1]).fParent=z:=by simpa using he
   omega
 unfold dV at h5
 simp only [Bool.and_eq_true,Bool.not_eq_true',decide_eq_true_eq] at h5
 obtain ⟨h5,x3⟩:=h5
 refine ⟨wr h1,⟨by omega,by omega⟩,by omega,fun t htm=>?_,fun i hi=>⟨(ht i hi).2.2,hup.1 i hi hi⟩,fun i j hi hj=>(ht j hj).2.1 i hi,by omega,fun x hx=>?_⟩
 ·obtain ⟨j,hj,rfl⟩:=List.getElem_of_mem htm
  exact Ak (ht j hj).1
 ·obtain ⟨j,hj,rfl⟩:=List.getElem_of_mem hx
  have:=W9.1 h5 j hj
  rw [V6,F8 hj] at this
  simp only [Bool.or_eq_false_iff,Bool.not_eq_false',decide_eq_false_iff_not] at this
  obtain ⟨⟨g0,g1,g2,g3,g4⟩,g5⟩:=this
  unfold jR at g5
  have hlt:(b.fIndexes[j]).fType.toNat < b.fTypes.length:=by omega
  rw [V2 (by omega) (by omega)] at g5
  simp only [Bool.or_eq_false_iff,decide_eq_false_iff_not] at g5
  obtain ⟨f1,f2,_⟩:=g5
  refine ⟨wr g0,by omega,by omega,by omega,fun t htt=>?_,by omega⟩
  rw [List.getElem?_eq_getElem hlt] at htt
  obtain rfl:=Option.some.inj htt
  omega
structure Wd (s:Str):Prop where
 l:s.length≤9
 b:(32:UInt8) ∉ s
 e:(10:UInt8) ∉ s
theorem Nm.no {s:Str} (h:Nm s) {c:UInt8} (hc:c.toNat < 48):c ∉ s:=fun hm=>by
 have:=h.b c hm
 omega
theorem Nm.w {s:Str} (h:Nm s):Wd s:=⟨by have:=h.l; omega,h.no (by decide),h.no (by decide)⟩
theorem Nm.dash {s:Str} (h:Nm s):(s == [45])=false:=by
 rw [beq_eq_false_iff_ne]
 intro e
 exact h.no (c:=45) (by decide) (by rw [e]; simp)
theorem bQ {n:Int} (h:0≤n∧n≤40):Wd (dgt n):=by
 have hl:=qx 1 n.toNat (by simp; omega)
 exact ⟨by unfold dgt; omega,yx (by decide) _,yx (by decide) _⟩
theorem FL {ts:List a7} (h:∀ t∈ts,Z5 t) (p:Int):Wd (ku ts p):=by
 unfold ku
 split
 ·exact ⟨by decide,by decide,by decide⟩
 ·split
  ·rename_i u hu
   exact (h u (List.mem_of_getElem? hu)).n.w
  ·exact ⟨by decide,by decide,by decide⟩
theorem AU (t:a7) (j:Nat):Wd (mi t j):=by
 unfold mi
 cases ((j:Int) == t.fKey) <;> cases t.fUnique <;> exact ⟨by decide,by decide,by decide⟩
theorem xo {n:Nat} (h:n < 16):48≤(cx n).toNat:=by
 unfold cx
 rw [UInt8.toNat_ofNat']
 split <;> omega
theorem mX {n:Nat} (h:n < 16) {c:UInt8} (hc:c.toNat < 48):c≠cx n:=fun e=>by
 have:=xo h
 rw [←e] at this
 omega
theorem FN (s:Str):Wd (pg s):=by
 unfold pg
 split
 ·exact ⟨by decide,by decide,by decide⟩
 ·rename_i c _
  have hc:=c.toNat_lt
  have h1:c.toNat / 16 < 16:=by omega
  have h2:c.toNat % 16 < 16:=by omega
  refine ⟨by simp,?_,?_⟩
  ·simp only [List.mem_cons,List.not_mem_nil,or_false,not_or]
   exact ⟨mX h1 (by decide),mX h2 (by decide)⟩
  ·simp only [List.mem_cons,List.not_mem_nil,or_false,not_or]
   exact ⟨mX h1 (by decide),mX h2 (by decide)⟩
theorem xT_w {ts:List a7} (h:∀ t∈ts,Z5 t) (x:a8):Wd (xT ts x):=by
 unfold xT
 split
 ·rename_i u hu
  exact (h u (List.mem_of_getElem? hu)).n.w
 ·exact ⟨by decide,by decide,by decide⟩
theorem xF_w {ts:List a7} (h:∀ t∈ts,Z5 t) (x:a8):Wd (xF ts x):=by
 unfold xF
 split
 ·rename_i u hu
  split
  ·rename_i f hf
   exact ((h u (List.mem_of_getElem? hu)).f f (List.mem_of_getElem? hf)).n.w
  ·exact ⟨by decide,by decide,by decide⟩
 ·exact ⟨by decide,by decide,by decide⟩
structure Ln (ws:List Str):Prop where
 ne:ws≠[]
 l:ws.length≤6
 w:∀ w∈ws,Wd w
theorem mW {b:a6} (h:cn b):Ln (fZ b):=by
 refine ⟨by simp [fZ],by simp [fZ],fun w hw=>?_⟩
 simp only [fZ,List.mem_cons,List.not_mem_nil,or_false] at hw
 rcases hw with rfl | rfl | rfl
 ·exact ⟨by decide,by decide,by decide⟩
 ·exact h.n.w
 ·exact bQ ⟨by have:=h.k; omega,by have:=h.k; omega⟩
theorem na {ts:List a7} (h:∀ t∈ts,Z5 t) {t:a7} (ht:Z5 t):Ln (gN ts t):=by
 refine ⟨by simp [gN],by simp [gN],fun w hw=>?_⟩
 simp only [gN,List.mem_cons,List.not_mem_nil,or_false] at hw
 rcases hw with rfl | rfl | rfl | rfl | rfl | rfl
 ·exact ⟨by decide,by decide,by decide⟩
 ·exact ht.n.w
 ·exact FL h _
 ·exact bQ ht.m
 ·exact bQ ht.s
 ·cases t.fLast <;> exact ⟨by decide,by decide,by decide⟩
theorem qN {t:a7} {j:Nat} {f:b8} (hf:qk f):Ln (jU t j f):=by
 refine ⟨by simp [jU],by simp [jU],fun w hw=>?_⟩
 simp only [jU,List.mem_cons,List.not_mem_nil,or_false] at hw
 rcases hw with rfl | rfl | rfl | rfl | rfl
 ·exact ⟨by decide,by decide,by decide⟩
 ·exact hf.n.w
 ·exact bQ hf.a
 ·exact bQ hf.s
 ·exact AU t j
theorem qQ {ts:List a7} (h:∀ t∈ts,Z5 t) {x:a8} (hx:Nm x.fName):Ln (gu ts x):=by
 refine ⟨by simp [gu],by simp [gu],fun w hw=>?_⟩
 simp only [gu,List.mem_cons,List.not_mem_nil,or_false] at hw
 rcases hw with rfl | rfl | rfl | rfl | rfl
 ·exact ⟨by decide,by decide,by decide⟩
 ·exact hx.w
 ·exact xT_w h x
 ·exact xF_w h x
 ·exact FN _
theorem nI {t:a7}:∀ (l:List b8) (j:Nat),(∀ f∈l,qk f)→∀ ws∈bl t j l,Ln ws
 | [],_,_,ws,h=>by simp [bl] at h
 | f :: r,j,hf,ws,h=>by
  rw [bl,List.mem_cons] at h
  rcases h with rfl | h
  ·exact qN (hf f (by simp))
  ·exact nI r (j+1) (fun g hg=>hf g (by simp [hg])) ws h
theorem lm {t:a7}:∀ (l:List b8) (j:Nat),(bl t j l).length=l.length
 | [],_=>rfl
 | f :: r,j=>by rw [bl,List.length_cons,lm r,List.length_cons]
theorem hJ {b:a6} (h:cn b):∀ ws∈V4 b,Ln ws:=by
 intro ws hw
 unfold V4 fJ at hw
 rw [List.mem_cons,List.mem_append,List.mem_flatMap,List.mem_map] at hw
 rcases hw with rfl | ⟨t,ht,hw⟩ | ⟨x,hx,rfl⟩
 ·exact mW h
 ·unfold V1 at hw
  rw [List.mem_cons] at hw
  rcases hw with rfl | hw
  ·exact na h.t (h.t t ht)
  ·exact nI _ _ (h.t t ht).f ws hw
 ·exact qQ h.t (h.x x hx).n
theorem FE {ws:List Str}:∀ {n:Nat},(∀ w∈ws,w.length≤n)→(jn 32 ws).length≤(n+1) * ws.length:=by
 induction ws with
 | nil=>intro n _; simp [jn]
 | cons a r ih=>
  intro n h
  have ha:=h a (by simp)
  have hr:=ih (n:=n) (fun w hw=>h w (by simp [hw]))
  cases r with
  | nil=>simp only [jn,List.length_cons,List.length_nil]; omega
  | cons b r=>
   rw [jY 32 a (by simp),List.length_append,List.length_cons,List.length_cons,Nat.mul_add (n+1) (b :: r).length 1]
   omega
theorem Ln.len {ws:List Str} (h:Ln ws):(jn 32 ws).length≤60:=by
 have:=FE (n:=9) (fun w hw=>(h.w w hw).l)
 have:=h.l
 omega
theorem jn_e {ws:List Str} (h:∀ w∈ws,Wd w):(10:UInt8) ∉ jn 32 ws:=by
 induction ws with
 | nil=>simp [jn]
 | cons a r ih=>
  cases r with
  | nil=>exact (h a (by simp)).e
  | cons b r=>
   rw [jY 32 a (by simp),List.mem_append,List.mem_cons,not_or,not_or]
   exact ⟨(h a (by simp)).e,by decide,ih (fun w hw=>h w (by simp [hw]))⟩
theorem Ln.e {ws:List Str} (h:Ln ws):(10:UInt8) ∉ jn 32 ws:=jn_e h.w
theorem oF {n:Nat}:∀ (l:List (List Str)),(∀ ws∈l,(jn 32 ws).length≤n)→(tx l).length≤(n+1) * l.length
 | [],_=>by simp [tx,nl]
 | a :: l,h=>by
  have h1:=h a (by simp)
  have h2:=oF l (fun ws hw=>h ws (by simp [hw]))
  rw [ce,List.length_cons,Nat.mul_add]
  simp only [List.length_append,List.length_cons,List.length_nil]
  omega
theorem jT {ts0:List a7}:∀ (l:List a7),(∀ t∈l,Z5 t)→(l.flatMap (V1 ts0)).length≤6 * l.length
 | [],_=>by simp
 | t :: l,h=>by
  have h1:=jT (ts0:=ts0) l (fun u hu=>h u (by simp [hu]))
  have h2:=(h t (by simp)).f5
  rw [List.flatMap_cons,List.length_append,V1,List.length_cons,lm,List.length_cons]
  omega
theorem oI {b:a6} (h:cn b):(V4 b).length≤52:=by
 have h1:=jT (ts0:=b.fTypes) b.fTypes h.t
 have h2:=h.t8
 have h3:=h.x3
 unfold V4 fJ
 rw [List.length_cons,List.length_append,List.length_map]
 omega
theorem tZ {b:a6} (h:cn b):(aG b).length≤4000:=by
 have h1:=oF (n:=60) (V4 b) (fun ws hw=>(hJ h ws hw).len)
 have h2:=oI h
 unfold aG
 omega
theorem gz {k:Nat} {n:Int} (hk:1≤k) (h:0≤n∧n≤40):strconv_Itoa k n=some (dgt n):=by
 obtain ⟨k,rfl,_⟩:=m9 hk
 simp only [strconv_Itoa,sJ,dgt]
 by_cases h9:n < 10
 ·rw [if_pos ⟨h.1,h9⟩,Y7 (by omega)]
 ·rw [if_neg (by omega),if_pos ⟨by omega,by omega⟩]
  unfold Go.Lib.itoa
  rw [if_neg (by omega)]
theorem mY {k:Nat} {ws:List Str} {b:Str} (hk:2≤k) (h1:Ln ws) (hb:b.length≤1000000):w8 k b ws=some (b ++ (jn 32 ws ++ [10])):=by
 obtain ⟨k,rfl,hk1⟩:=m9 hk
 obtain ⟨k,rfl,_⟩:=m9 hk1
 have h2:=h1.len
 have h3:=h1.l
 have e1:xb (b ++ jn 32 ws) 10=some (b ++ jn 32 ws ++ [10]):=by
  unfold xb
  rw [if_pos (by decide)]
  exact pk (by simp only [List.length_append,List.length_cons,List.length_nil]; omega)
 simp only [w8,strings_Join,zw (show ws.length≤1000000 by omega) (show (jn 32 ws).length≤140737488355328 by omega),Option.bind_some,F7,pk (show b.length+(jn 32 ws).length≤140737488355328 by omega),H4,e1,List.append_assoc]
theorem dZ {ws:List Str} {b:Str} {n:Nat} (h:Ln ws) (hb:b.length≤n):(b ++ (jn 32 ws ++ [10])).length≤n+61:=by
 have:=h.len
 simp only [List.length_append,List.length_cons,List.length_nil]
 omega
theorem zj {k:Nat} {t:a7} (hk:2≤k) (ht:Z5 t) {K:Int→Str→Option (Str×Int)}:∀ (d i m:Nat) (s:Str),i+d=t.fFields.length→d < m→s.length+61 * d≤100000→
  E0 k t K m (i:Int) s=K (t.fFields.length:Int) (s ++ tx (bl t i (t.fFields.drop i)))
 | 0,i,m,s,hi,hm,hs=>by
  obtain ⟨m,rfl⟩:∃ q,m=q+1:=⟨m - 1,by omega⟩
  obtain rfl:i=t.fFields.length:=by omega
  rw [List.drop_length]
  simp only [E0,eS,cond_false,bl,tx,nl,List.map_nil,List.flatten_nil,List.append_nil]
 | d+1,i,m,s,hi,hm,hs=>by
  obtain ⟨m,rfl⟩:∃ q,m=q+1:=⟨m - 1,by omega⟩
  have hi':i < t.fFields.length:=by omega
  have hf:=ht.f _ (List.getElem_mem hi')
  have h5:=ht.f5
  have hln:=qN (t:=t) (j:=i) hf
  have hl:=dZ (b:=s) hln (Nat.le_refl _)
  have ih:=zj hk ht (K:=K) d (i+1) m _ (by omega) (by omega) (show (s ++ (jn 32 (jU t i t.fFields[i]) ++ [10])).length+61 * d≤100000 by omega)
  have e:=mY hk hln (show s.length≤1000000 by omega)
  rw [List.drop_eq_getElem_cons hi',bl,ce,←List.append_assoc,←ih]
  simp only [E0,eR hi',cond_true,D2 hi',Option.bind_some,gz (show 1≤k by omega) hf.a,gz (show 1≤k by omega) hf.s,z6 hi' (show t.fFields.length≤maxLen by rw [E5]; omega)]
  unfold jU mi at e ⊢
  cases hq:((i:Int) == t.fKey) with
  | false=>
   rw [hq,cond_false] at e
   simp only [cond_false,show w8 k s [[70,73,69,76,68],t.fFields[i].fName,dgt t.fFields[i].fAt,dgt t.fFields[i].fBytes,[45]]=_ from e,Option.bind_some]
  | true=>
   rw [hq,cond_true] at e
   cases hu:t.fUnique with
   | false=>
    rw [hu,cond_false] at e
    simp only [cond_true,cond_false,show w8 k s [[70,73,69,76,68],t.fFields[i].fName,dgt t.fFields[i].fAt,dgt t.fFields[i].fBytes,[77]]=_ from e,Option.bind_some]
   | true=>
    rw [hu,cond_true] at e
    simp only [cond_true,cond_false,show w8 k s [[70,73,69,76,68],t.fFields[i].fName,dgt t.fFields[i].fAt,dgt t.fFields[i].fBytes,[85]]=_ from e,Option.bind_some]
theorem qd {ts0:List a7} {t:a7} {ts:List a7} (h:∀ t∈ts,Z5 t) (ht:Z5 t) (he:ts0=ts):(tx (V1 ts0 t)).length≤61 * 6:=by
 subst he
 have h1:=oF (n:=60) (V1 ts0 t) (fun ws hw=>by
  unfold V1 at hw
  rw [List.mem_cons] at hw
  rcases hw with rfl | hw
  ·exact (na h ht).len
  ·exact (nI _ _ ht.f ws hw).len)
 have h2:(V1 ts0 t).length≤6:=by
  rw [V1,List.length_cons,lm]
  have:=ht.f5
  omega
 omega
theorem zi {k:Nat} {b:a6} (hk:10≤k) (hb:cn b) {K:Int→Str→Option (Str×Int)}:∀ (d i m:Nat) (s:Str),i+d=b.fTypes.length→d < m→s.length+366 * d≤50000→
  F2 k b K m (i:Int) s=K (b.fTypes.length:Int) (s ++ tx ((b.fTypes.drop i).flatMap (V1 b.fTypes)))
 | 0,i,m,s,hi,hm,hs=>by
  obtain ⟨m,rfl⟩:∃ q,m=q+1:=⟨m - 1,by omega⟩
  obtain rfl:i=b.fTypes.length:=by omega
  rw [List.drop_length]
  simp only [F2,eS,cond_false,List.flatMap_nil,tx,nl,List.map_nil,List.flatten_nil,List.append_nil]
 | d+1,i,m,s,hi,hm,hs=>by
  obtain ⟨m,rfl⟩:∃ q,m=q+1:=⟨m - 1,by omega⟩
  have hi':i < b.fTypes.length:=by omega
  have ht:=hb.t _ (List.getElem_mem hi')
  have h8:=hb.t8
  have hp:=hb.p i hi'
  have hln:=na hb.t ht
  have hl:=dZ (b:=s) hln (Nat.le_refl _)
  have h5:=ht.f5
  have hty:=qd hb.t ht rfl
  have ih:=zi hk hb (K:=K) d (i+1) m (s ++ tx (V1 b.fTypes b.fTypes[i])) (by omega) (by omega) (by rw [List.length_append]; omega)
  have e:=mY (show 2≤k by omega) hln (show s.length≤1000000 by omega)
  have e2:=zj (k:=k) (by omega) ht (K:=fun _ y=>F2 k b K m ((i+1:Nat):Int) y) b.fTypes[i].fFields.length 0 k (s ++ (jn 32 (gN b.fTypes b.fTypes[i]) ++ [10])) (by omega) (by omega) (by omega)
  rw [List.drop_eq_getElem_cons hi',List.flatMap_cons,lV,←List.append_assoc,←ih]
  rw [show s ++ tx (V1 b.fTypes b.fTypes[i])=(s ++ (jn 32 (gN b.fTypes b.fTypes[i]) ++ [10])) ++ tx (bl b.fTypes[i] 0 (b.fTypes[i].fFields.drop 0)) by simp only [V1,ce,List.drop_zero,List.append_assoc]]
  refine Eq.trans ?_ e2
  simp only [F2,eR hi',cond_true,D2 hi',Option.bind_some,gz (show 1≤k by omega) ht.m,gz (show 1≤k by omega) ht.s,z6 hi' (show b.fTypes.length≤maxLen by rw [E5]; omega)]
  by_cases h0:b.fTypes[i].fParent < 0
  ·have hd:decide (b.fTypes[i].fParent ≥ 0)=false:=decide_eq_false (by omega)
   unfold gN ku at e ⊢
   rw [if_pos h0] at e ⊢
   rw [hd,cond_false]
   cases hL:b.fTypes[i].fLast with
   | false=>
    rw [hL,cond_false] at e
    simp only [cond_true,cond_false,show w8 k s [[83,69,71,77],b.fTypes[i].fName,[45],dgt b.fTypes[i].fMin,dgt b.fTypes[i].fSize,[70]]=_ from e,Option.bind_some]
    rfl
   | true=>
    rw [hL,cond_true] at e
    simp only [cond_true,cond_false,show w8 k s [[83,69,71,77],b.fTypes[i].fName,[45],dgt b.fTypes[i].fMin,dgt b.fTypes[i].fSize,[76]]=_ from e,Option.bind_some]
    rfl
  ·have hd:decide (b.fTypes[i].fParent ≥ 0)=true:=decide_eq_true (by omega)
   have hlt:b.fTypes[i].fParent.toNat < b.fTypes.length:=by omega
   unfold gN ku at e ⊢
   rw [if_neg h0,List.getElem?_eq_getElem hlt] at e ⊢
   rw [hd,cond_true,V2 (by omega) (by omega)]
   cases hL:b.fTypes[i].fLast with
   | false=>
    rw [hL,cond_false] at e
    simp only [cond_true,cond_false,Option.bind_some,show w8 k s [[83,69,71,77],b.fTypes[i].fName,(b.fTypes[b.fTypes[i].fParent.toNat]).fName,dgt b.fTypes[i].fMin,dgt b.fTypes[i].fSize,[70]]=_ from e]
    rfl
   | true=>
    rw [hL,cond_true] at e
    simp only [cond_true,cond_false,Option.bind_some,show w8 k s [[83,69,71,77],b.fTypes[i].fName,(b.fTypes[b.fTypes[i].fParent.toNat]).fName,dgt b.fTypes[i].fMin,dgt b.fTypes[i].fSize,[76]]=_ from e]
    rfl
def ag:Str:=[48,49,50,51,52,53,54,55,56,57,97,98,99,100,101,102]
def FB (n:Int):Option Str:=(rF .u8 n 4).bind fun v332=>((rF .u8 n 4).bind fun v333=>((cut ag v332 (Go.IntKind.wrap .u8 (v333+1))).bind fun v334=>((cut ag (kW .u8 n 15) (Go.IntKind.wrap .u8 ((kW .u8 n 15)+1))).bind fun v335=>(cat v334 v335))))
theorem zm:(List.range 256).all (fun n=>FB (n:Int) == some [cx (n / 16),cx (n % 16)])=true:=by decide +kernel
theorem AK (c:UInt8):FB (c.toNat:Int)=some [cx (c.toNat / 16),cx (c.toNat % 16)]:=by
 have:=List.all_eq_true.1 zm c.toNat (List.mem_range.2 c.toNat_lt)
 exact beq_iff_eq.1 this
theorem zk {k:Nat} {b:a6} (hk:10≤k) (hb:cn b) {K:Int→Str→Option (Str×Int)}:∀ (d i m:Nat) (s:Str),i+d=b.fIndexes.length→d < m→s.length+61 * d≤100000→
  J9 k b K m (i:Int) s=K (b.fIndexes.length:Int) (s ++ tx ((b.fIndexes.drop i).map (gu b.fTypes)))
 | 0,i,m,s,hi,hm,hs=>by
  obtain ⟨m,rfl⟩:∃ q,m=q+1:=⟨m - 1,by omega⟩
  obtain rfl:i=b.fIndexes.length:=by omega
  rw [List.drop_length]
  simp only [J9,eS,cond_false,tx,nl,List.map_nil,List.flatten_nil,List.append_nil]
 | d+1,i,m,s,hi,hm,hs=>by
  obtain ⟨m,rfl⟩:∃ q,m=q+1:=⟨m - 1,by omega⟩
  have hi':i < b.fIndexes.length:=by omega
  have hx:=hb.x _ (List.getElem_mem hi')
  have h3:=hb.x3
  have hln:=qQ hb.t hx.n
  have hl:=dZ (b:=s) hln (Nat.le_refl _)
  have ih:=zk hk hb (K:=K) d (i+1) m _ (by omega) (by omega) (show (s ++ (jn 32 (gu b.fTypes b.fIndexes[i]) ++ [10])).length+61 * d≤100000 by omega)
  have e:=mY (show 2≤k by omega) hln (show s.length≤1000000 by omega)
  have t0:=hx.t0; have t1:=hx.t1; have f0:=hx.f0
  have hlt:b.fIndexes[i].fType.toNat < b.fTypes.length:=by omega
  have f1:=hx.f1 _ (List.getElem?_eq_getElem hlt)
  have hlf:b.fIndexes[i].fField.toNat < (b.fTypes[b.fIndexes[i].fType.toNat]).fFields.length:=by omega
  rw [List.drop_eq_getElem_cons hi',List.map_cons,ce,←List.append_assoc,←ih]
  simp only [J9,eR hi',cond_true,D2 hi',Option.bind_some,V2 t0 t1,V2 f0 f1,z6 hi' (show b.fIndexes.length≤maxLen by rw [E5]; omega)]
  unfold gu xT xF pg at e ⊢
  simp only [List.getElem?_eq_getElem hlt,List.getElem?_eq_getElem hlf] at e ⊢
  have hsl:=hx.s
  cases hs:b.fIndexes[i].fSparse with
  | nil=>
   rw [hs] at e
   simp only [show (!(([]:Str) == ([]:Str)))=false from rfl,cond_false,show w8 k s [[73,78,68,69,88],b.fIndexes[i].fName,(b.fTypes[b.fIndexes[i].fType.toNat]).fName,((b.fTypes[b.fIndexes[i].fType.toNat]).fFields[b.fIndexes[i].fField.toNat]).fName,[45]]=_ from e,Option.bind_some]
  | cons c r=>
   rw [hs] at e hsl
   have hr:r=[]:=List.length_eq_zero_iff.1 (by simp only [List.length_cons] at hsl; omega)
   subst hr
   have e3:X6 [c] 0=some (c.toNat:Int):=rfl
   have e4:=AK c
   unfold FB ag at e4
   simp only [show (!(([c]:Str) == ([]:Str)))=true from rfl,cond_true,e3,e4,Option.bind_some,show w8 k s [[73,78,68,69,88],b.fIndexes[i].fName,(b.fTypes[b.fIndexes[i].fType.toNat]).fName,((b.fTypes[b.fIndexes[i].fType.toNat]).fFields[b.fIndexes[i].fField.toNat]).fName,[cx (c.toNat / 16),cx (c.toNat % 16)]]=_ from e]
theorem xf (b:a6):aG b≠[]:=by
 unfold aG V4
 rw [ce]
 simp
theorem pm (b:a6):aG b=(([] ++ (jn 32 (fZ b) ++ [10])) ++ tx ((b.fTypes.drop 0).flatMap (V1 b.fTypes))) ++ tx ((b.fIndexes.drop 0).map (gu b.fTypes)):=by
 unfold aG V4 fJ
 rw [ce,lV,List.drop_zero,List.drop_zero,List.nil_append]
 simp only [List.append_assoc]
def gV (b:a6):Str×Int:=bif valid b then (aG b,0) else ([],100)
theorem Q9 {k:Nat} {b:a6} (hk:maxLen+30≤k) (hw:z7 b):S0 k b=some (gV b):=by
 obtain ⟨k,rfl,hq⟩:=m9 hk
 simp only [S0,li (show maxLen+9≤k by omega) hw,Option.bind_some,gV]
 cases hv:valid b with
 | false=>rfl
 | true=>
  have hb:=jB hv
  rw [E5] at hq
  have h8:=hb.t8; have h3:=hb.x3
  have e0:=mY (k:=k) (b:=[]) (by omega) (mW hb) (by simp)
  have hl0:=(mW hb).len
  have hk1:=hb.k
  have hfl:=oF (n:=60) (b.fTypes.flatMap (V1 b.fTypes)) (fun ws hw=>(hJ hb ws (by unfold V4 fJ; simp only [List.mem_cons,List.mem_append]; exact .inr (.inl hw))).len)
  have hfl2:=jT (ts0:=b.fTypes) b.fTypes hb.t
  simp only [Bool.not_true,cond_false,cond_true,gz (show 1≤k by omega) (show 0≤b.fKind∧b.fKind≤40 by omega),show w8 k [] [[68,66,68],b.fName,dgt b.fKind]=_ from e0,Option.bind_some]
  refine Eq.trans (zi (by omega) hb b.fTypes.length 0 k _ (by omega) (by omega) (by simp only [List.length_append,List.length_cons,List.length_nil]; omega)) ?_
  refine Eq.trans (zk (by omega) hb b.fIndexes.length 0 k _ (by omega) (by omega) (by rw [List.drop_zero]; simp only [List.length_append,List.length_cons,List.length_nil]; omega)) ?_
  rw [←pm]
  obtain ⟨k,rfl⟩:∃ q,k=q+1:=⟨k - 1,by omega⟩
  simp only [J8,xc (xf b),Option.bind_some]
theorem jq {d:Nat} (h:d < 10):mr (Go.IntKind.wrap .i32 (Go.IntKind.wrap .i64 (48+(d:Int))))=some [UInt8.ofNat (48+d)]:=by
 have w1:Go.IntKind.wrap .i64 (48+(d:Int))=((48+d:Nat):Int):=by rw [hP (by omega) (by omega)]; omega
 have w2:Go.IntKind.wrap .i32 ((48+d:Nat):Int)=((48+d:Nat):Int):=by
  have:((48+d:Nat):Int) % 4294967296=((48+d:Nat):Int):=by omega
  unfold Go.IntKind.wrap
  simp [Go.IntKind.bits,Go.IntKind.signed,this]
  omega
 rw [w1,w2]
 unfold mr
 rw [if_pos ⟨by omega,by omega⟩,Int.toNat_natCast]
theorem wz:∀ (j k u:Nat),u < 10 ^ (j+1)→j≤19→j+1≤k→u < 9223372036854775808→m0 k (u:Int)=some (Go.Lib.decDigits u)
 | 0,k,u,hu,hj,hk,hb=>by
  obtain ⟨k,rfl⟩:∃ q,k=q+1:=⟨k - 1,by omega⟩
  have hu:u < 10:=by simpa using hu
  rw [Y7 hu]
  simp only [m0,decide_eq_false (show ¬ (u:Int) < 0 by omega),decide_eq_true (show (u:Int) < 10 by omega),cond_true,cond_false,Option.bind_some,jq hu]
 | j+1,k,u,hu,hj,hk,hb=>by
  obtain ⟨k,rfl⟩:∃ q,k=q+1:=⟨k - 1,by omega⟩
  by_cases h:u < 10
  ·rw [Y7 h]
   simp only [m0,decide_eq_false (show ¬ (u:Int) < 0 by omega),decide_eq_true (show (u:Int) < 10 by omega),cond_true,cond_false,Option.bind_some,jq h]
  ·have hd:u / 10 < 10 ^ (j+1):=by
    rw [Nat.pow_succ] at hu
    omega
   have h1:=wz j k (u / 10) hd (by omega) (by omega) (by omega)
   have h2:=qx j (u / 10) hd
   have q1:lG .i64 (u:Int) 10=some ((u / 10:Nat):Int):=by
    unfold lG
    rw [if_neg (by omega)]
    show some (Go.IntKind.wrap .i64 ((u:Int).tdiv 10))=_
    rw [Int.tdiv_eq_ediv_of_nonneg (by omega),hP (by omega) (by omega)]
    rfl
   have r1:lL (u:Int) 10=some ((u % 10:Nat):Int):=by
    unfold lL
    rw [if_neg (by omega)]
    show some ((u:Int).tmod 10)=_
    rw [Int.tmod_eq_emod_of_nonneg (by omega)]
    rfl
   have hc:cat (Go.Lib.decDigits (u / 10)) [UInt8.ofNat (48+u % 10)]=some (Go.Lib.decDigits (u / 10) ++ [UInt8.ofNat (48+u % 10)]):=jE (by simp only [List.length_cons,List.length_nil]; unfold B7; omega)
   rw [dO h]
   simp only [m0,decide_eq_false (show ¬ (u:Int) < 0 by omega),decide_eq_false (show ¬ (u:Int) < 10 by omega),cond_false,Option.bind_some,q1,r1,h1,jq (Nat.mod_lt u (by omega)),hc]
theorem zU {k:Nat} {n:Int} (hk:10≤k) (h:0≤n∧n < 1000000000):m0 k n=some (dgt n):=by
 have:=wz 8 k n.toNat (by simp; omega) (by omega) (by omega) (by omega)
 rw [Int.toNat_of_nonneg h.1] at this
 exact this
theorem gI {k:Nat} {n:Int} (hk:10≤k) (h:0≤n∧n≤40):m0 k n=some (dgt n):=zU hk ⟨h.1,by omega⟩
theorem Fb {s n a c w:Str} (hs:s.length≤1000000) (hn:n.length≤9) (ha:a.length≤9) (hc:c.length≤9) (hw:w.length≤9):
  ((cat ([70,73,69,76,68,32]:Str) n).bind fun v451=>((cat v451 ([32]:Str)).bind fun v452=>((cat v452 a).bind fun v454=>((cat v454 ([32]:Str)).bind fun v455=>((cat v455 c).bind fun v457=>((cat v457 ([32]:Str)).bind fun v458=>((cat v458 w).bind fun v459=>((cat v459 ([10]:Str)).bind fun v460=>(cat s v460)))))))))=some (s ++ (jn 32 [jz,n,a,c,w] ++ [10])):=by
 simp (disch:=(simp only [List.length_append,List.length_cons,List.length_nil,B7]; omega)) only [jE,Option.bind_some]
 simp [jn,jz]
theorem Fc {s n p a c w:Str} (hs:s.length≤1000000) (hn:n.length≤9) (hp:p.length≤9) (ha:a.length≤9) (hc:c.length≤9) (hw:w.length≤9):
  ((cat ([83,69,71,77,32]:Str) n).bind fun v395=>((cat v395 ([32]:Str)).bind fun v396=>((cat v396 p).bind fun v397=>((cat v397 ([32]:Str)).bind fun v398=>((cat v398 a).bind fun v400=>((cat v400 ([32]:Str)).bind fun v401=>((cat v401 c).bind fun v403=>((cat v403 ([32]:Str)).bind fun v404=>((cat v404 w).bind fun v405=>((cat v405 ([10]:Str)).bind fun v406=>(cat s v406)))))))))))=some (s ++ (jn 32 [qf,n,p,a,c,w] ++ [10])):=by
 simp (disch:=(simp only [List.length_append,List.length_cons,List.length_nil,B7]; omega)) only [jE,Option.bind_some]
 simp [jn,qf]
theorem Fd {s n a c w:Str} (hs:s.length≤1000000) (hn:n.length≤9) (ha:a.length≤9) (hc:c.length≤9) (hw:w.length≤9):
  ((cat ([73,78,68,69,88,32]:Str) n).bind fun v809=>((cat v809 ([32]:Str)).bind fun v810=>((cat v810 a).bind fun v812=>((cat v812 ([32]:Str)).bind fun v813=>((cat v813 c).bind fun v816=>((cat v816 ([32]:Str)).bind fun v817=>((cat v817 w).bind fun v818=>((cat v818 ([10]:Str)).bind fun v819=>(cat s v819)))))))))=some (s ++ (jn 32 [dK,n,a,c,w] ++ [10])):=by
 simp (disch:=(simp only [List.length_append,List.length_cons,List.length_nil,B7]; omega)) only [jE,Option.bind_some]
 simp [jn,dK]
theorem Fa {n a:Str} (hn:n.length≤9) (ha:a.length≤9):
  ((cat ([68,66,68,32]:Str) n).bind fun v3=>((cat v3 ([32]:Str)).bind fun v4=>((cat v4 a).bind fun v6=>(cat v6 ([10]:Str)))))=some ([] ++ (jn 32 [Ap,n,a] ++ [10])):=by
 simp (disch:=(simp only [List.length_append,List.length_cons,List.length_nil,B7]; omega)) only [jE,Option.bind_some]
 simp [jn,Ap]
theorem wE {k:Nat} {t:a7} (hk:10≤k) (ht:Z5 t) {K:Str→Int→Option (Str×Int)}:∀ (d i m:Nat) (s:Str),i+d=t.fFields.length→d < m→s.length+61 * d≤100000→
  B8 k t K m s (i:Int)=K (s ++ tx (bl t i (t.fFields.drop i))) (t.fFields.length:Int)
 | 0,i,m,s,hi,hm,hs=>by
  obtain ⟨m,rfl⟩:∃ q,m=q+1:=⟨m - 1,by omega⟩
  obtain rfl:i=t.fFields.length:=by omega
  rw [List.drop_length]
  simp only [B8,eS,cond_false,bl,tx,nl,List.map_nil,List.flatten_nil,List.append_nil]
 | d+1,i,m,s,hi,hm,hs=>by
  obtain ⟨m,rfl⟩:∃ q,m=q+1:=⟨m - 1,by omega⟩
  have hi':i < t.fFields.length:=by omega
  have hf:=ht.f _ (List.getElem_mem hi')
  have h5:=ht.f5
  have hln:=qN (t:=t) (j:=i) hf
  have hl:=dZ (b:=s) hln (Nat.le_refl _)
  have ih:=wE hk ht (K:=K) d (i+1) m _ (by omega) (by omega) (show (s ++ (jn 32 (jU t i t.fFields[i]) ++ [10])).length+61 * d≤100000 by omega)
  have e:∀ w:Str,w.length≤9→_:=fun w hw=>Fb (s:=s) (w:=w) (by omega) hf.n.w.l (bQ hf.a).l (bQ hf.s).l hw
  rw [List.drop_eq_getElem_cons hi',bl,ce,←List.append_assoc,←ih]
  simp only [B8,eR hi',cond_true,D2 hi',Option.bind_some,gI hk hf.a,gI hk hf.s,z6 hi' (show t.fFields.length≤maxLen by rw [E5]; omega),e [85] (by decide),e [77] (by decide),e [45] (by decide)]
  unfold jU mi
  cases ((i:Int) == t.fKey) with
  | false=>rfl
  | true=>cases t.fUnique <;> rfl
theorem wD {k:Nat} {b:a6} (hk:20≤k) (hb:cn b) {K:Str→Int→Option (Str×Int)}:∀ (d i m:Nat) (s:Str),i+d=b.fTypes.length→d < m→s.length+366 * d≤50000→
  C8 k b K m s (i:Int)=K (s ++ tx ((b.fTypes.drop i).flatMap (V1 b.fTypes))) (b.fTypes.length:Int)
 | 0,i,m,s,hi,hm,hs=>by
  obtain ⟨m,rfl⟩:∃ q,m=q+1:=⟨m - 1,by omega⟩
  obtain rfl:i=b.fTypes.length:=by omega
  rw [List.drop_length]
  simp only [C8,eS,cond_false,List.flatMap_nil,tx,nl,List.map_nil,List.flatten_nil,List.append_nil]
 | d+1,i,m,s,hi,hm,hs=>by
  obtain ⟨m,rfl⟩:∃ q,m=q+1:=⟨m - 1,by omega⟩
  have hi':i < b.fTypes.length:=by omega
  have ht:=hb.t _ (List.getElem_mem hi')
  have h8:=hb.t8
  have hp:=hb.p i hi'
  have hln:=na hb.t ht
  have hl:=dZ (b:=s) hln (Nat.le_refl _)
  have h5:=ht.f5
  have hty:=qd hb.t ht rfl
  have ih:=wD hk hb (K:=K) d (i+1) m (s ++ tx (V1 b.fTypes b.fTypes[i])) (by omega) (by omega) (by rw [List.length_append]; omega)
  have e:∀ p w:Str,p.length≤9→w.length≤9→_:=fun p w hp hw=>Fc (s:=s) (p:=p) (w:=w) (by omega) ht.n.w.l hp (bQ ht.m).l (bQ ht.s).l hw
  have e2:=wE (k:=k) (by omega) ht (K:=fun y _=>C8 k b K m y ((i+1:Nat):Int)) b.fTypes[i].fFields.length 0 k (s ++ (jn 32 (gN b.fTypes b.fTypes[i]) ++ [10])) (by omega) (by omega) (by omega)
  rw [List.drop_eq_getElem_cons hi',List.flatMap_cons,lV,←List.append_assoc,←ih]
  rw [show s ++ tx (V1 b.fTypes b.fTypes[i])=(s ++ (jn 32 (gN b.fTypes b.fTypes[i]) ++ [10])) ++ tx (bl b.fTypes[i] 0 (b.fTypes[i].fFields.drop 0)) by simp only [V1,ce,List.drop_zero,List.append_assoc]]
  refine Eq.trans ?_ e2
  simp only [C8,eR hi',cond_true,D2 hi',Option.bind_some,gI (show 10≤k by omega) ht.m,gI (show 10≤k by omega) ht.s,z6 hi' (show b.fTypes.length≤maxLen by rw [E5]; omega)]
  by_cases h0:b.fTypes[i].fParent < 0
  ·have hd:decide (b.fTypes[i].fParent ≥ 0)=false:=decide_eq_false (by omega)
   unfold gN ku
   rw [if_pos h0,hd,cond_false]
   cases hL:b.fTypes[i].fLast with
   | false=>simp only [cond_false,e [45] [70] (by decide) (by decide),Option.bind_some]; rfl
   | true=>simp only [cond_true,e [45] [76] (by decide) (by decide),Option.bind_some]; rfl
  ·have hd:decide (b.fTypes[i].fParent ≥ 0)=true:=decide_eq_true (by omega)
   have hlt:b.fTypes[i].fParent.toNat < b.fTypes.length:=by omega
   have hpn:=(hb.t _ (List.getElem_mem hlt)).n.w.l
   unfold gN ku
   rw [if_neg h0,List.getElem?_eq_getElem hlt,hd,cond_true,V2 (by omega) (by omega)]
   cases hL:b.fTypes[i].fLast with
   | false=>simp only [cond_false,e _ [70] hpn (by decide),Option.bind_some]; rfl
   | true=>simp only [cond_true,e _ [76] hpn (by decide),Option.bind_some]; rfl
def FC (n:Int):Option Str:=(lG .u8 n 16).bind fun v17=>((lG .u8 n 16).bind fun v19=>((cut ag v17 (Go.IntKind.wrap .u8 (v19+1))).bind fun v20=>((lL n 16).bind fun v22=>((lL n 16).bind fun v24=>((cut ag v22 (Go.IntKind.wrap .u8 (v24+1))).bind fun v25=>((cat v20 v25).bind fun v26=>(cat [] v26)))))))
theorem zn:(List.range 256).all (fun n=>FC (n:Int) == some [cx (n / 16),cx (n % 16)])=true:=by decide +kernel
theorem AL (c:UInt8):FC (c.toNat:Int)=some [cx (c.toNat / 16),cx (c.toNat % 16)]:=by
 have:=List.all_eq_true.1 zn c.toNat (List.mem_range.2 c.toNat_lt)
 exact beq_iff_eq.1 this
theorem pd {k:Nat} {c:UInt8} (hk:3≤k):em k [c]=some [cx (c.toNat / 16),cx (c.toNat % 16)]:=by
 obtain ⟨k,rfl⟩:∃ q,k=q+3:=⟨k - 3,by omega⟩
 have e3:X6 [c] 0=some (c.toNat:Int):=rfl
 have e4:=AL c
 unfold FC ag at e4
 have e5:decide ((0:Int) < (([c]:Str).length:Int))=true:=rfl
 have e6:Go.IntKind.wrap .i64 (0+1)=1:=by decide
 have e7:decide ((1:Int) < (([c]:Str).length:Int))=false:=rfl
 simp only [em,al,e5,cond_true,e3,Option.bind_some,e4,e6,e7,cond_false]
theorem wF {k:Nat} {b:a6} (hk:10≤k) (hb:cn b) {K:Str→Int→Option (Str×Int)}:∀ (d i m:Nat) (s:Str),i+d=b.fIndexes.length→d < m→s.length+61 * d≤100000→
  G8 k b K m s (i:Int)=K (s ++ tx ((b.fIndexes.drop i).map (gu b.fTypes))) (b.fIndexes.length:Int)
 | 0,i,m,s,hi,hm,hs=>by
  obtain ⟨m,rfl⟩:∃ q,m=q+1:=⟨m - 1,by omega⟩
  obtain rfl:i=b.fIndexes.length:=by omega
  rw [List.drop_length]
  simp only [G8,eS,cond_false,tx,nl,List.map_nil,List.flatten_nil,List.append_nil]
 | d+1,i,m,s,hi,hm,hs=>by
  obtain ⟨m,rfl⟩:∃ q,m=q+1:=⟨m - 1,by omega⟩
  have hi':i < b.fIndexes.length:=by omega
  have hx:=hb.x _ (List.getElem_mem hi')
  have h3:=hb.x3
  have hln:=qQ hb.t hx.n
  have hl:=dZ (b:=s) hln (Nat.le_refl _)
  have ih:=wF hk hb (K:=K) d (i+1) m _ (by omega) (by omega) (show (s ++ (jn 32 (gu b.fTypes b.fIndexes[i]) ++ [10])).length+61 * d≤100000 by omega)
  have t0:=hx.t0; have t1:=hx.t1; have f0:=hx.f0
  have hlt:b.fIndexes[i].fType.toNat < b.fTypes.length:=by omega
  have f1:=hx.f1 _ (List.getElem?_eq_getElem hlt)
  have hlf:b.fIndexes[i].fField.toNat < (b.fTypes[b.fIndexes[i].fType.toNat]).fFields.length:=by omega
  have htt:=hb.t _ (List.getElem_mem hlt)
  have e:∀ w:Str,w.length≤9→_:=fun w hw=>Fd (s:=s) (w:=w) (by omega) hx.n.w.l htt.n.w.l (htt.f _ (List.getElem_mem hlf)).n.w.l hw
  rw [List.drop_eq_getElem_cons hi',List.map_cons,ce,←List.append_assoc,←ih]
  simp only [G8,eR hi',cond_true,D2 hi',Option.bind_some,V2 t0 t1,V2 f0 f1,z6 hi' (show b.fIndexes.length≤maxLen by rw [E5]; omega)]
  unfold gu xT xF pg
  simp only [List.getElem?_eq_getElem hlt,List.getElem?_eq_getElem hlf]
  have hsl:=hx.s
  cases hs:b.fIndexes[i].fSparse with
  | nil=>
   simp only [show (!(([]:Str) == ([]:Str)))=false from rfl,cond_false,e [45] (by decide),Option.bind_some]
  | cons c r=>
   rw [hs] at hsl
   have hr:r=[]:=List.length_eq_zero_iff.1 (by simp only [List.length_cons] at hsl; omega)
   subst hr
   simp only [show (!(([c]:Str) == ([]:Str)))=true from rfl,cond_true,pd (show 3≤k by omega),e [cx (c.toNat / 16),cx (c.toNat % 16)] (by simp),Option.bind_some]
theorem bG {k:Nat} {b:a6} (hk:maxLen+30≤k) (hw:z7 b):am k b=some (gV b):=by
 obtain ⟨k,rfl,hq⟩:=m9 hk
 simp only [am,mp (show maxLen+9≤k by omega) hw,Option.bind_some,gV]
 cases hv:valid b with
 | false=>rfl
 | true=>
  have hb:=jB hv
  rw [E5] at hq
  have h8:=hb.t8; have h3:=hb.x3
  have hk1:=hb.k
  have hkd:0≤b.fKind∧b.fKind≤40:=by omega
  have e0:=Fa hb.n.w.l (bQ hkd).l
  have hl0:=(mW hb).len
  unfold fZ at hl0
  have hfl:=oF (n:=60) (b.fTypes.flatMap (V1 b.fTypes)) (fun ws hw=>(hJ hb ws (by unfold V4 fJ; simp only [List.mem_cons,List.mem_append]; exact .inr (.inl hw))).len)
  have hfl2:=jT (ts0:=b.fTypes) b.fTypes hb.t
  simp only [Bool.not_true,cond_false,cond_true,gI (show 10≤k by omega) hkd,Option.bind_some,e0]
  refine Eq.trans (wD (by omega) hb b.fTypes.length 0 k _ (by omega) (by omega) (by simp only [List.length_append,List.length_cons,List.length_nil]; omega)) ?_
  refine Eq.trans (wF (by omega) hb b.fIndexes.length 0 k _ (by omega) (by omega) (by rw [List.drop_zero]; simp only [List.length_append,List.length_cons,List.length_nil]; omega)) ?_
  rw [pm]
  rfl
def iK:a6:={ fName:=[],fKind:=0,fTypes:=([]:List a7),fIndexes:=([]:List a8) }
def nvF (s:Str):Int×Bool:=(od false s).getD (0,false)
theorem FI {s:Str} (h:s.length≤100000):od false s=some (nvF s):=by
 obtain ⟨n,b,h1,_⟩:=pM (d:=false) (s:=s) (by omega)
 unfold nvF
 rw [h1]
 rfl
theorem og {s:Str} (h:s.length≤100000):wfI .i64 (nvF s).1:=by
 obtain ⟨n,b,h1,h2,h3⟩:=pM (d:=false) (s:=s) (by omega)
 unfold nvF
 rw [h1]
 exact ey h2 h3
theorem eU {n:Int} (h:0≤n∧n≤40):nvF (dgt n)=(n,true):=by
 have hl:=(bQ h).l
 unfold nvF od dgt
 unfold dgt at hl
 rw [Bool.false_and,if_neg (by simp),if_pos (by omega),zG (by omega),Option.getD_some,Int.toNat_of_nonneg h.1]
theorem gY {k:Nat} {s:Str} (hk:1≤k) (h:s.length≤100000):X3 k s=some (nvF s):=by
 obtain ⟨k,rfl,_⟩:=m9 hk
 simp only [X3,FI h]
theorem oe {k:Nat} {s t:Str} (hk:2≤k) (h:s.length≤100000) (h':t.length≤100000):P6 k s t=some ((nvF s).1,(nvF t).1,(nvF s).2 && (nvF t).2):=by
 obtain ⟨k,rfl,_⟩:=m9 hk
 simp only [P6,gY (show 1≤k by omega) h,gY (show 1≤k by omega) h',Option.bind_some]
 cases (nvF s).2 <;> rfl
def lU (ts:List a7) (w:Str):Int:=pos ts (fun t=>t.fName == w)
def AG (fs:List b8) (w:Str):Int:=pos fs (fun f=>f.fName == w)
theorem xI {α:Type} (l:List α) (p:α→Bool):-1≤pos l p∧pos l p < (l.length:Int):=by
 rcases aP l p with ⟨_,h⟩ | ⟨j,h1,_,_,h4⟩
 ·rw [h]; omega
 ·rw [h4]; omega
def fp (b:a6) (w1 w2 w3 w4 w5:Str):a7:={ fName:=w1,fParent:=bif (w2 == ([45]:Str)) then -1 else lU b.fTypes w2,fMin:=(nvF w3).1,fSize:=(nvF w4).1,fFields:=[],fKey:=-1,fUnique:=false,fLast:=w5 == ([76]:Str) }
def rL (b:a6) (w2 w3 w4 w5:Str):Bool:=(((nvF w3).2 && (nvF w4).2) && ((w2 == ([45]:Str)) || decide (lU b.fTypes w2 ≥ 0))) && ((w5 == ([76]:Str)) || (w5 == ([70]:Str)))
theorem tJ {k:Nat} {b:a6} {w0 w1 w2 w3 w4 w5:Str} (hk:200000≤k) (hb:b.fTypes.length≤100000) (h3:w3.length≤100000) (h4:w4.length≤100000):
  Y5 k b [w0,w1,w2,w3,w4,w5]=some (rL b w2 w3 w4 w5,{ b with fTypes:=b.fTypes ++ [fp b w1 w2 w3 w4 w5] }):=by
 obtain ⟨k,rfl,hq⟩:=m9 hk
 have i1:idx [w0,w1,w2,w3,w4,w5] 1=some w1:=rfl
 have i2:idx [w0,w1,w2,w3,w4,w5] 2=some w2:=rfl
 have i3:idx [w0,w1,w2,w3,w4,w5] 3=some w3:=rfl
 have i4:idx [w0,w1,w2,w3,w4,w5] 4=some w4:=rfl
 have i5:idx [w0,w1,w2,w3,w4,w5] 5=some w5:=rfl
 have hp:B5 k b.fTypes (fun j x0=>Y6 j x0 [w0,w1,w2,w3,w4,w5])=some (lU b.fTypes w2):=cy (by omega) (by rw [E5]; omega) (fun k' e x hx=>by
  obtain ⟨k',rfl,_⟩:=m9 (show 0+1≤k' by omega)
  simp only [Y6,i2,Option.bind_some])
 have happ:∀ z,app b.fTypes [z]=some (b.fTypes ++ [z]):=fun z=>fS (by simp only [List.length_cons,List.length_nil]; unfold B7; omega)
 simp only [Y5,i1,i2,i3,i4,i5,Option.bind_some,oe (show 2≤k by omega) h3 h4,hp,happ]
 unfold rL fp
 cases (w2 == ([45]:Str)) <;> cases ((nvF w3).2 && (nvF w4).2) <;> cases (w5 == ([76]:Str)) <;> cases decide (lU b.fTypes w2 ≥ 0) <;> simp
def dR (t:a7) (w1 w2 w3 w4:Str):a7:=bif (w4 == ([45]:Str)) then { t with fFields:=t.fFields ++ [⟨w1,(nvF w2).1,(nvF w3).1⟩] } else { t with fFields:=t.fFields ++ [⟨w1,(nvF w2).1,(nvF w3).1⟩],fKey:=(t.fFields.length:Int),fUnique:=w4 == ([85]:Str) }
def jS (t:a7) (w2 w3 w4:Str):Bool:=((nvF w2).2 && (nvF w3).2) && ((w4 == ([45]:Str)) || (decide (t.fKey < 0) && ((w4 == ([85]:Str)) || (w4 == ([77]:Str)))))
theorem At {α:Type} (l:List α) (x:α):(l ++ [x])[0+((l.length:Nat):Int).toNat]?=some x:=by
 rw [Int.toNat_natCast,Nat.zero_add,List.getElem?_append_right (Nat.le_refl _),Nat.sub_self]
 rfl
theorem zW {α:Type} (l:List α) (x y:α):(l ++ [x]).set (0+((l.length:Nat):Int).toNat) y=l ++ [y]:=by
 rw [Int.toNat_natCast,Nat.zero_add,List.set_append_right _ _ (Nat.le_refl _),Nat.sub_self]
 rfl
theorem AQ {α:Type} (l:List α) (x:α):inB (l ++ [x]).length ((l.length:Nat):Int)=some ():=by
 unfold inB
 rw [if_pos ⟨by omega,by rw [List.length_append]; simp; omega⟩]
theorem qg {α:Type} {l:List α} (h:l.length≤1000000) (x:α):Go.IntKind.wrap .i64 (((l ++ [x]).length:Int) - 1)=((l.length:Nat):Int):=by
 rw [List.length_append,List.length_singleton,hP (by omega) (by omega)]
 omega
theorem nH {k:Nat} {n:Str} {kd:Int} {ts:List a7} {t:a7} {xs:List a8} {w0 w1 w2 w3 w4:Str} (hk:10≤k) (hb:ts.length≤100000) (hf:t.fFields.length≤100000) (h2:w2.length≤100000) (h3:w3.length≤100000):
  N5 k ⟨n,kd,ts ++ [t],xs⟩ [w0,w1,w2,w3,w4]=some (jS t w2 w3 w4,⟨n,kd,ts ++ [dR t w1 w2 w3 w4],xs⟩):=by
 obtain ⟨k,rfl,hq⟩:=m9 hk
 have i1:idx [w0,w1,w2,w3,w4] 1=some w1:=rfl
 have i2:idx [w0,w1,w2,w3,w4] 2=some w2:=rfl
 have i3:idx [w0,w1,w2,w3,w4] 3=some w3:=rfl
 have i4:idx [w0,w1,w2,w3,w4] 4=some w4:=rfl
 have hz:((((ts ++ [t]).length:Nat):Int) == 0)=false:=by rw [beq_eq_false_iff_ne,List.length_append,List.length_singleton]; omega
 have happ:∀ z,app t.fFields [z]=some (t.fFields ++ [z]):=fun z=>fS (by simp only [List.length_cons,List.length_nil]; unfold B7; omega)
 have hw2:∀ z:b8,Go.IntKind.wrap .i64 (((t.fFields ++ [z]).length:Int) - 1)=((t.fFields.length:Nat):Int):=fun z=>qg (by omega) z
 simp only [N5,hz,cond_false,qg (show ts.length≤1000000 by omega),AQ,At,zW,i1,i2,i3,i4,Option.bind_some,oe (show 2≤k by omega) h2 h3,happ,hw2]
 unfold jS dR
 cases (w4 == ([45]:Str)) <;> cases ((nvF w2).2 && (nvF w3).2) <;> cases decide (t.fKey < 0) <;> cases (w4 == ([85]:Str)) <;> simp
theorem uo {k:Nat} {b:a6} {ws:List Str} (hk:1≤k) (h:b.fTypes=[]):N5 k b ws=some (false,b):=by
 obtain ⟨k,rfl,hq⟩:=m9 hk
 obtain ⟨n,kd,ts,xs⟩:=b
 subst h
 rfl
def xp (a b:Int):Str:=match xN .i64 a 4 with | some v=>strB [(Go.IntKind.wrap .u8 (orI .i64 v b))] | none=>[]
def dU (b:a6) (w1 w2 w3 w4:Str):Option a8:=
 match idx b.fTypes (lU b.fTypes w2) with
 | none=>none
 | some t=>bif (w4 == ([45]:Str)) then some ⟨w1,lU b.fTypes w2,AG t.fFields w3,[]⟩ else
  match w4 with
  | [c,d]=>bif (decide (dC ag c < 0) || decide (dC ag d < 0)) then none else some ⟨w1,lU b.fTypes w2,AG t.fFields w3,xp (dC ag c) (dC ag d)⟩
  | _=>none
def gw (b:a6) (w1 w2 w3 w4:Str):Bool×a6:=match dU b w1 w2 w3 w4 with
 | some x=>(true,{ b with fIndexes:=b.fIndexes ++ [x] })
 | none=>(false,b)
theorem AP {α:Type} {l:List α} {x:Int} (h:x < 0):idx l x=none:=by
 unfold idx
 rw [if_neg (by omega)]
theorem AO {α:Type} {l:List α} {x:Int} {t:α} (h:idx l x=some t):0≤x∧x < (l.length:Int)∧l[x.toNat]?=some t:=by
 unfold idx at h
 split at h
 ·obtain ⟨h1,_⟩:=List.getElem?_eq_some_iff.1 h
  exact ⟨by omega,by omega,h⟩
 ·cases h
theorem ux {k:Nat} {s:Str} {c:UInt8} (hk:1≤k):strings_IndexByte k s (c.toNat:Int)=some (dC s c):=by
 obtain ⟨k,rfl,hq⟩:=m9 hk
 simp [strings_IndexByte]
theorem nO {k:Nat} {b:a6} {w0 w1 w2 w3 w4:Str} (hk:200000≤k) (hb:b.fTypes.length≤100000) (hf:∀ t∈b.fTypes,t.fFields.length≤100000) (hx:b.fIndexes.length≤100000):
  K3 k b [w0,w1,w2,w3,w4]=some (gw b w1 w2 w3 w4):=by
 obtain ⟨k,rfl,hq⟩:=m9 hk
 have i1:idx [w0,w1,w2,w3,w4] 1=some w1:=rfl
 have i2:idx [w0,w1,w2,w3,w4] 2=some w2:=rfl
 have i3:idx [w0,w1,w2,w3,w4] 3=some w3:=rfl
 have i4:idx [w0,w1,w2,w3,w4] 4=some w4:=rfl
 have hp:B5 k b.fTypes (fun j x0=>R2 j x0 [w0,w1,w2,w3,w4])=some (lU b.fTypes w2):=cy (by omega) (by rw [E5]; omega) (fun k' e x hx=>by
  obtain ⟨k',rfl,_⟩:=m9 (show 0+1≤k' by omega)
  simp only [R2,i2,Option.bind_some])
 have happ:∀ z,app b.fIndexes [z]=some (b.fIndexes ++ [z]):=fun z=>fS (by simp only [List.length_cons,List.length_nil]; unfold B7; omega)
 simp only [K3,hp,Option.bind_some]
 unfold gw dU
 rcases aP b.fTypes (fun t=>t.fName == w2) with ⟨_,he⟩ | ⟨j,hj,_,_,he⟩
 ·have he':lU b.fTypes w2=-1:=he
  rw [he',AP (show (-1:Int) < 0 by omega),decide_eq_true (show (-1:Int) < 0 by omega)]
  rfl
 ·have he':lU b.fTypes w2=(j:Int):=he
  rw [he',D2 hj,decide_eq_false (show ¬ (j:Int) < 0 by omega)]
  have hft:=hf _ (List.getElem_mem hj)
  have e1:inB b.fTypes.length (j:Int)=some ():=by unfold inB; rw [if_pos ⟨by omega,by omega⟩]
  have e2:b.fTypes[0+(j:Int).toNat]?=some b.fTypes[j]:=by rw [Int.toNat_natCast,Nat.zero_add,List.getElem?_eq_getElem hj]
  have hp2:E7 k b.fTypes[j].fFields (fun j x0=>R3 j x0 [w0,w1,w2,w3,w4])=some (AG b.fTypes[j].fFields w3):=fA (by omega) (by rw [E5]; omega) (fun k' e x hx=>by
   obtain ⟨k',rfl,_⟩:=m9 (show 0+1≤k' by omega)
   simp only [R3,i3,Option.bind_some])
  simp only [cond_false,e1,e2,hp2,i1,i4,Option.bind_some]
  cases h45:(w4 == ([45]:Str)) with
  | true=>simp only [Bool.not_true,cond_false,cond_true,happ,Option.bind_some]
  | false=>
   simp only [Bool.not_false,cond_false,cond_true,Option.bind_some]
   match w4 with
   | []=>rfl
   | [_]=>rfl
   | [c,d]=>
    have j0:X6 [c,d] 0=some (c.toNat:Int):=rfl
    have j1:X6 [c,d] 1=some (d.toNat:Int):=rfl
    have d2:((([c,d]:Str).length:Int) != 2)=false:=rfl
    have hx1:∀ c,strings_IndexByte k [48,49,50,51,52,53,54,55,56,57,97,98,99,100,101,102] (UInt8.toNat c:Int)=some (dC ag c):=fun c=>ux (by omega)
    simp only [d2,cond_false,j0,j1,hx1,Option.bind_some]
    have hv:∀ a b:Int,((xN .i64 a 4).bind fun v19=>(some ((Go.AE.strB ([(Go.IntKind.wrap .u8 (orI .i64 v19 b))]:List Int)))))=some (xp a b):=fun a b=>rfl
    cases decide (dC ag c < 0) <;> cases decide (dC ag d < 0) <;> simp only [cond_true,cond_false,Option.bind_some,Bool.or_true,Bool.or_false,Bool.true_or,Bool.false_or,hv,happ]
   | x :: y :: z :: l=>
    have d2:(((x :: y :: z :: l:Str).length:Int) != 2)=true:=by rw [bne_iff_ne]; simp only [List.length_cons]; omega
    simp only [d2,cond_true]
structure Sz (n:Nat) (b:a6):Prop where
 nm:b.fName.length≤100000
 kd:wfI .i64 b.fKind
 t:b.fTypes.length≤n
 tw:∀ t∈b.fTypes,I1 t∧t.fFields.length≤n
 x:b.fIndexes.length≤n
 xw:∀ x∈b.fIndexes,N3 x
theorem Sz.mono {n m:Nat} {b:a6} (h:Sz n b) (hm:n≤m):Sz m b:=
 ⟨h.nm,h.kd,by have:=h.t; omega,fun t ht=>⟨(h.tw t ht).1,by have:=(h.tw t ht).2; omega⟩,by have:=h.x; omega,h.xw⟩
theorem Sz.wf {n:Nat} {b:a6} (h:Sz n b) (hn:n≤100000):z7 b:=by
 have h1:=h.t; have h2:=h.x; have h3:=h.nm
 exact ⟨by show b.fName.length≤maxLen; rw [E5]; omega,h.kd,⟨by rw [E5]; omega,fun t ht=>(h.tw t ht).1⟩,⟨by rw [E5]; omega,h.xw⟩,trivial⟩
theorem lW {s:Str} (h:s.length≤100000):wfS s:=by
 show s.length≤maxLen
 rw [E5]
 omega
theorem kT {α:Type} {l:List α} {p:α→Bool} (h:l.length≤1000000):wfI .i64 (pos l p):=by
 have:=xI l p
 exact ey (by omega) (by omega)
theorem Al {n:Nat} {b:a6} (h:Sz n b) (hn:n≤100000) {w1 w2 w3 w4 w5:Str} (h1:w1.length≤100000) (h3:w3.length≤100000) (h4:w4.length≤100000):Sz (n+1) { b with fTypes:=b.fTypes ++ [fp b w1 w2 w3 w4 w5] }:=by
 have hm:=h.mono (Nat.le_succ n)
 have ht:=h.t
 refine ⟨h.nm,h.kd,by simp only [List.length_append,List.length_cons,List.length_nil]; omega,fun t htm=>?_,hm.x,h.xw⟩
 simp only [List.mem_append,List.mem_singleton] at htm
 rcases htm with htm | rfl
 ·exact hm.tw t htm
 ·refine ⟨⟨lW h1,?_,og h3,og h4,⟨by simp [fp],by simp [fp]⟩,ey (n:=-1) (by omega) (by omega),trivial,trivial,trivial⟩,by simp [fp]⟩
  unfold fp
  cases (w2 == ([45]:Str))
  ·exact kT (by omega)
  ·exact ey (n:=-1) (by omega) (by omega)
theorem uq {n:Nat} {nm:Str} {kd:Int} {ts:List a7} {t:a7} {xs:List a8} (h:Sz n ⟨nm,kd,ts ++ [t],xs⟩) (hn:n≤100000) {w1 w2 w3 w4:Str} (h1:w1.length≤100000) (h2:w2.length≤100000) (h3:w3.length≤100000):Sz (n+1) ⟨nm,kd,ts ++ [dR t w1 w2 w3 w4],xs⟩:=by
 have hm:=h.mono (Nat.le_succ n)
 refine ⟨hm.nm,hm.kd,by have:=hm.t; simpa using this,fun u hu=>?_,hm.x,hm.xw⟩
 simp only [List.mem_append,List.mem_singleton] at hu
 rcases hu with hu | rfl
 ·exact hm.tw u (by simp [hu])
 ·obtain ⟨⟨g1,g2,g3,g4,g5,g6,_⟩,g7⟩:=h.tw t (by simp)
  have hl:wfL aA (t.fFields ++ [⟨w1,(nvF w2).1,(nvF w3).1⟩]):=by
   refine ⟨by rw [E5]; simp only [List.length_append,List.length_cons,List.length_nil]; omega,fun f hf=>?_⟩
   rw [List.mem_append,List.mem_singleton] at hf
   rcases hf with hf | rfl
   ·exact g5.2 f hf
   ·exact ⟨lW h1,og h2,og h3,trivial⟩
  unfold dR
  cases (w4 == ([45]:Str))
  ·exact ⟨⟨g1,g2,g3,g4,hl,ey (n:=(t.fFields.length:Int)) (by omega) (by omega),trivial,trivial,trivial⟩,by simp only [cond_false,List.length_append,List.length_cons,List.length_nil]; omega⟩
  ·exact ⟨⟨g1,g2,g3,g4,hl,g6,trivial,trivial,trivial⟩,by simp only [cond_true,List.length_append,List.length_cons,List.length_nil]; omega⟩
theorem sG {n:Nat} {b:a6} (h:Sz n b) (hn:n≤100000) {w1 w2 w3 w4:Str} (h1:w1.length≤100000) {x:a8} (hx:dU b w1 w2 w3 w4=some x):N3 x:=by
 have ht:=h.t
 have hs:∀ a c,wfS (xp a c):=fun a c=>by
  refine lW ?_
  unfold xp
  split
  ·simp [strB]
  ·simp
 unfold dU at hx
 split at hx
 ·cases hx
 ·rename_i t he
  obtain ⟨_,_,hg⟩:=AO he
  have hf:=(h.tw t (List.mem_of_getElem? hg)).2
  cases h45:(w4 == ([45]:Str)) with
  | true=>
   rw [h45,cond_true] at hx
   obtain rfl:=Option.some.inj hx
   exact ⟨lW h1,kT (by omega),kT (by omega),lW (by simp),trivial⟩
  | false=>
   rw [h45,cond_false] at hx
   split at hx
   ·rename_i c d
    cases hq:(decide (dC ag c < 0) || decide (dC ag d < 0)) with
    | true=>rw [hq,cond_true] at hx; cases hx
    | false=>
     rw [hq,cond_false] at hx
     obtain rfl:=Option.some.inj hx
     exact ⟨lW h1,kT (by omega),kT (by omega),hs _ _,trivial⟩
   ·cases hx
theorem uz {n:Nat} {b:a6} (h:Sz n b) (hn:n≤100000) {w1 w2 w3 w4:Str} (h1:w1.length≤100000):Sz (n+1) (gw b w1 w2 w3 w4).2:=by
 have hm:=h.mono (Nat.le_succ n)
 have hx:=h.x
 unfold gw
 split
 ·rename_i x he
  refine ⟨hm.nm,hm.kd,hm.t,hm.tw,by simp only [List.length_append,List.length_cons,List.length_nil]; omega,fun y hy=>?_⟩
  simp only [List.mem_append,List.mem_singleton] at hy
  rcases hy with hy | rfl
  ·exact h.xw y hy
  ·exact sG h hn h1 he
 ·exact hm
theorem len5 {α:Type}:∀ {l:List α},l.length=5→∃ a b c d e,l=[a,b,c,d,e]
 | [a,b,c,d,e],_=>⟨a,b,c,d,e,rfl⟩
theorem len6 {α:Type}:∀ {l:List α},l.length=6→∃ a b c d e f,l=[a,b,c,d,e,f]
 | [a,b,c,d,e,f],_=>⟨a,b,c,d,e,f,rfl⟩
theorem vV {b:a6} (h:b.fTypes≠[]):∃ ts t,b=⟨b.fName,b.fKind,ts ++ [t],b.fIndexes⟩:=by
 obtain ⟨n,kd,l,xs⟩:=b
 rcases List.eq_nil_or_concat l with rfl | ⟨ts,t,rfl⟩
 ·exact absurd rfl h
 ·exact ⟨ts,t,by rw [List.concat_eq_append]⟩
theorem vY {k:Nat} {b:a6} {w0 w1 w2 w3 w4 w5:Str}:T8 (k+1) b [w0,w1,w2,w3,w4,w5]=bif (w0 == qf) && ((b.fIndexes.length:Int) == 0) then (Y5 k b [w0,w1,w2,w3,w4,w5]) else some (false,b):=by
 have i0:idx [w0,w1,w2,w3,w4,w5] 0=some w0:=rfl
 have d6:((([w0,w1,w2,w3,w4,w5]:List Str).length:Int) == 6)=true:=rfl
 have d5:((([w0,w1,w2,w3,w4,w5]:List Str).length:Int) == 5)=false:=rfl
 simp only [T8,i0,d6,d5,cond_true,cond_false,Option.bind_some]
 unfold qf
 cases (w0 == ([83,69,71,77]:Str))
 ·rfl
 ·cases ((b.fIndexes.length:Int) == 0)
  ·rfl
  ·simp only [cond_true,Option.bind_some,Bool.and_true]
   cases Y5 k b [w0,w1,w2,w3,w4,w5] <;> rfl
theorem nc {k:Nat} {b:a6} {w0 w1 w2 w3 w4:Str}:T8 (k+1) b [w0,w1,w2,w3,w4]=bif (w0 == jz) && ((b.fIndexes.length:Int) == 0) then (N5 k b [w0,w1,w2,w3,w4]) else bif (w0 == dK) then K3 k b [w0,w1,w2,w3,w4] else some (false,b):=by
 have i0:idx [w0,w1,w2,w3,w4] 0=some w0:=rfl
 have d6:((([w0,w1,w2,w3,w4]:List Str).length:Int) == 6)=false:=rfl
 have d5:((([w0,w1,w2,w3,w4]:List Str).length:Int) == 5)=true:=rfl
 simp only [T8,i0,d6,d5,cond_true,cond_false,Option.bind_some]
 unfold jz dK
 have hx:((bif (w0 == ([73,78,68,69,88]:Str)) then (((K3 k b [w0,w1,w2,w3,w4]).bind fun v11=>(some (v11.1,v11.2.fName,v11.2.fKind,v11.2.fTypes,v11.2.fIndexes))).bind fun o12=>
         (some (o12.1,({ fName:=o12.2.1,fKind:=o12.2.2.1,fTypes:=o12.2.2.2.1,fIndexes:=o12.2.2.2.2 }:a6)))) else
        (some (false,b))):Option (Bool×a6))=bif (w0 == ([73,78,68,69,88]:Str)) then K3 k b [w0,w1,w2,w3,w4] else some (false,b):=by
  cases (w0 == ([73,78,68,69,88]:Str))
  ·rfl
  ·cases K3 k b [w0,w1,w2,w3,w4] <;> rfl
 rw [hx]
 cases (w0 == ([70,73,69,76,68]:Str))
 ·rfl
 ·cases ((b.fIndexes.length:Int) == 0)
  ·rfl
  ·simp only [cond_true,Option.bind_some,Bool.and_true]
   cases N5 k b [w0,w1,w2,w3,w4] <;> rfl
theorem EW {k:Nat} {b:a6} {ws:List Str} (h6:ws.length≠6) (h5:ws.length≠5):T8 (k+1) b ws=some (false,b):=by
 have d6:((ws.length:Int) == 6)=false:=by rw [beq_eq_false_iff_ne]; omega
 have d5:((ws.length:Int) == 5)=false:=by rw [beq_eq_false_iff_ne]; omega
 simp only [T8,d6,d5,cond_false,Option.bind_some]
theorem Ar {k n:Nat} {b:a6} {ws:List Str} (hk:300000≤k) (h:Sz n b) (hn:n≤100000) (hw:∀ w∈ws,w.length≤100000):∃ r b',T8 k b ws=some (r,b')∧Sz (n+1) b':=by
 obtain ⟨k,rfl,hq⟩:=m9 hk
 have hm:=h.mono (Nat.le_succ n)
 have ht:=h.t
 by_cases h6:ws.length=6
 ·obtain ⟨w0,w1,w2,w3,w4,w5,rfl⟩:=len6 h6
  rw [vY,tJ (by omega) (by omega) (hw w3 (by simp)) (hw w4 (by simp))]
  cases (w0 == qf) && ((b.fIndexes.length:Int) == 0)
  ·exact ⟨_,_,rfl,hm⟩
  ·exact ⟨_,_,rfl,Al h hn (hw w1 (by simp)) (hw w3 (by simp)) (hw w4 (by simp))⟩
 ·by_cases h5:ws.length=5
  ·obtain ⟨w0,w1,w2,w3,w4,rfl⟩:=len5 h5
   rw [nc,nO (by omega) (by omega) (fun t ht=>by have:=(h.tw t ht).2; omega) (by have:=h.x; omega)]
   cases (w0 == jz) && ((b.fIndexes.length:Int) == 0)
   ·cases (w0 == dK)
    ·exact ⟨_,_,rfl,hm⟩
    ·exact ⟨_,_,rfl,uz h hn (hw w1 (by simp))⟩
   ·by_cases he:b.fTypes=[]
    ·rw [uo (by omega) he]
     exact ⟨_,_,rfl,hm⟩
    ·obtain ⟨ts,t,hb⟩:=vV he
     rw [hb] at h ⊢
     have htl:=h.t
     simp only [List.length_append,List.length_cons,List.length_nil] at htl
     rw [nH (by omega) (by omega) (by have:=(h.tw t (by simp)).2; omega) (hw w2 (by simp)) (hw w3 (by simp))]
     exact ⟨_,_,rfl,uq h hn (hw w1 (by simp)) (hw w2 (by simp)) (hw w3 (by simp))⟩
  ·rw [EW h6 h5]
   exact ⟨_,_,rfl,hm⟩
def ska (k:Nat) (s:Str):List Str:=Go.Lib.splitK [10] 1 k s
theorem Ac {s:Str} (h:(10:UInt8) ∉ s) (k:Nat):ska k s=[s]:=by
 cases k with
 | zero=>rfl
 | succ k=>
  unfold ska Go.Lib.splitK
  rw [zu h]
  rfl
theorem Aa {a:Str} (b:Str) (h:(10:UInt8) ∉ a) (k:Nat):ska (k+1) (a ++ 10 :: b)=(a ++ [10]) :: ska k b:=by
 unfold ska
 rw [Go.Lib.splitK,zt b h]
 have:((a.length:Int) == -1)=false:=by rw [beq_eq_false_iff_ne]; omega
 rw [this]
 simp only [Bool.false_eq_true,if_false,Int.toNat_natCast,List.length_cons,List.length_nil,Nat.zero_add]
 rw [wb,List.take_append,List.take_of_length_le (by omega),Nat.add_sub_cancel_left]
 rfl
theorem Ab:∀ (l:List Str) (k:Nat),(∀ s∈l,(10:UInt8) ∉ s)→l.length≤k→ska k (nl l)=l.map (· ++ [10]) ++ [[]]
 | [],k,_,_=>Ac (by simp [nl]) k
 | a :: l,k,h,hk=>by
  obtain ⟨k,rfl⟩:∃ q,k=q+1:=⟨k - 1,by simp at hk; omega⟩
  rw [qZ,List.append_assoc,List.singleton_append,Aa _ (h a (by simp)),Ab l k (fun s hs=>h s (by simp [hs])) (by simp at hk; omega)]
  rfl
theorem pS:∀ (k:Nat) (s:Str),(ska k s).length≤s.length+1∧∀ w∈ska k s,w.length≤s.length
 | 0,s=>by
  show ([s]:List Str).length≤_∧∀ w∈([s]:List Str),_
  exact ⟨by simp,fun w hw=>by simp at hw; subst hw; exact Nat.le_refl _⟩
 | k+1,s=>by
  by_cases h:(10:UInt8)∈s
  ·obtain ⟨a,b,rfl,ha⟩:=qL h
   rw [Aa b ha]
   obtain ⟨h1,h2⟩:=pS k b
   refine ⟨by simp only [List.length_cons,List.length_append]; omega,fun w hw=>?_⟩
   simp only [List.length_append,List.length_cons]
   rcases List.mem_cons.1 hw with rfl | hw
   ·simp only [List.length_append,List.length_cons,List.length_nil]; omega
   ·have:=h2 w hw
    omega
  ·rw [Ac h]
   exact ⟨by simp,fun w hw=>by simp at hw; subst hw; exact Nat.le_refl _⟩
theorem xS {s:Str} (hl:s.length < 4294967281):xR s [10]=some (ska (s.count 10) s):=by
 unfold xR
 rw [if_pos ⟨rfl,hl⟩,Go.Lib.count_one]
 rfl
theorem sU:∀ (l:List Str),l.length≤(nl l).count 10
 | []=>by simp
 | a :: l=>by
  have:=sU l
  rw [qZ,List.count_append,List.count_append,List.length_cons,List.count_singleton_self]
  omega
theorem ye {s:Str} (hl:s.length≤100000):∃ t,dJ s [10]=some t∧t.length≤s.length:=by
 unfold dJ Go.Lib.trimSuffix
 rw [if_pos (by omega)]
 split
 ·exact ⟨_,rfl,by rw [List.length_take]; omega⟩
 ·exact ⟨_,rfl,Nat.le_refl _⟩
theorem wS {s:Str} (hl:s.length≤1000):dJ (s ++ [10]) [10]=some s:=by
 have e:Go.Lib.hasSuffix (s ++ [10]) [10]=true:=by
  unfold Go.Lib.hasSuffix
  simp
 unfold dJ Go.Lib.trimSuffix
 rw [if_pos (by simp only [List.length_append,List.length_cons,List.length_nil]; omega),e]
 simp
theorem pN {k:Nat} (hk:400000≤k) {ps:List Str} (hp:ps.length≤100000) (hl:∀ p∈ps,p.length≤100000) {F:a6→Option (a6×Int)}:∀ (d i m:Nat) (b:a6),i+d=ps.length→d < m→Sz i b→
  D4 k (ps,(ps.length:Int),0) (fun _ _ _ n kd ts xs=>F ⟨n,kd,ts,xs⟩) (fun _ n kd ts xs=>F ⟨n,kd,ts,xs⟩) m (i:Int) b.fName b.fKind b.fTypes b.fIndexes=some (iK,3)∨
  ∃ b',z7 b'∧D4 k (ps,(ps.length:Int),0) (fun _ _ _ n kd ts xs=>F ⟨n,kd,ts,xs⟩) (fun _ n kd ts xs=>F ⟨n,kd,ts,xs⟩) m (i:Int) b.fName b.fKind b.fTypes b.fIndexes=F b'
 | 0,i,m,b,hi,hm,hb=>by
  obtain ⟨m,rfl⟩:∃ q,m=q+1:=⟨m - 1,by omega⟩
  obtain rfl:i=ps.length:=by omega
  refine .inr ⟨b,hb.wf hp,?_⟩
  simp only [D4,eS,cond_false]
 | d+1,i,m,b,hi,hm,hb=>by
  obtain ⟨m,rfl⟩:∃ q,m=q+1:=⟨m - 1,by omega⟩
  have hi':i < ps.length:=by omega
  have hpl:=hl _ (List.getElem_mem hi')
  have hb1:=hb.mono (Nat.le_succ i)
  obtain ⟨t,ht1,ht2⟩:=ye hpl
  have hs2:=xU (c:=32) (s:=t) (by omega)
  obtain ⟨hw1,hw2⟩:=tg 32 (t.count 32) t
  obtain ⟨k,rfl,hq⟩:=m9 hk
  have ih:=fun b1 h1=>pN (k:=k+1) (by omega) hp hl (F:=F) d (i+1) m b1 (by omega) (by omega) h1
  simp only [D4,eR hi',cond_true,D2 hi',Option.bind_some,strings_TrimSuffix,strings_Split,ht1,hs2,z6 hi' (show ps.length≤maxLen by rw [E5]; omega)]
  generalize sk 32 (t.count 32) t=ws at hw1 hw2
  have hwl:∀ w∈ws,w.length≤100000:=fun w hw=>by have:=hw2 w hw; omega
  cases hpe:(ps[i] == ([]:Str)) with
  | true=>exact .inr ⟨b,hb.wf (by omega),by simp only [cond_true]⟩
  | false=>
  simp only [cond_false]
  cases h0:((i:Int) == 0) with
  | true=>
   simp only [cond_true]
   by_cases h3:ws.length=3
   ·match ws,h3,hwl with
    | [w0,w1,w2],_,hwl=>
    have i0:idx [w0,w1,w2] 0=some w0:=rfl
    have i1:idx [w0,w1,w2] 1=some w1:=rfl
    have i2:idx [w0,w1,w2] 2=some w2:=rfl
    have d3:((([w0,w1,w2]:List Str).length:Int) == 3)=true:=rfl
    have hw2':=hwl w2 (by simp)
    simp only [d3,cond_true,i0,i1,i2,Option.bind_some,gY (show 1≤k+1 by omega) hw2']
    cases (w0 == ([68,66,68]:Str)) with
    | false=>exact .inl rfl
    | true=>
     cases (nvF w2).2 with
     | false=>exact .inl rfl
     | true=>exact ih ⟨w1,(nvF w2).1,b.fTypes,b.fIndexes⟩ ⟨hwl w1 (by simp),og hw2',hb1.t,hb1.tw,hb1.x,hb1.xw⟩
   ·have d3:((ws.length:Int) == 3)=false:=by rw [beq_eq_false_iff_ne]; omega
    simp only [d3,cond_false,Option.bind_some]
    exact .inl rfl
  | false=>
   obtain ⟨r,b',he,hs⟩:=Ar (k:=k+1) (ws:=ws) (by omega) hb (by omega) hwl
   simp only [cond_false,he,Option.bind_some]
   cases r with
   | false=>exact .inl rfl
   | true=>exact ih b' hs
def oJ (k:Nat) (b:a6) (ws:List Str):Option a6:=match T8 k b ws with
 | some (true,b')=>some b'
 | _=>none
theorem eM {R:a6→List Str→Option a6} {b:a6} {w:List Str} {l:List (List Str)}:(w :: l).foldlM R b=(R b w).bind fun b'=>l.foldlM R b':=rfl
def lnP (ws:List Str):Str:=jn 32 ws ++ [10]
theorem zF (ws:List Str):(lnP ws == ([]:Str))=false:=by
 rw [beq_eq_false_iff_ne]
 simp [lnP]
theorem Ln.split {ws:List Str} (h:Ln ws):rG (jn 32 ws) [32]=some ws:=Bn h.ne (fun w hw=>(h.w w hw).b) (by have:=h.len; omega)
theorem oj {k:Nat} (hk:400000≤k) {ps:List Str} (hp:ps.length≤100000) {F:a6→Option (a6×Int)} {b':a6}:∀ (suf:List (List Str)) (pre:List Str) (b:a6) (m:Nat),ps=pre ++ (suf.map lnP ++ [[]])→1≤pre.length→(∀ ws∈suf,Ln ws)→suf.foldlM (oJ k) b=some b'→suf.length < m→
  D4 k (ps,(ps.length:Int),0) (fun _ _ _ n kd ts xs=>F ⟨n,kd,ts,xs⟩) (fun _ n kd ts xs=>F ⟨n,kd,ts,xs⟩) m (pre.length:Int) b.fName b.fKind b.fTypes b.fIndexes=F b'
 | [],pre,b,m,he,h1,hl,hf,hm=>by
  obtain ⟨m,rfl⟩:∃ q,m=q+1:=⟨m - 1,by omega⟩
  obtain rfl:b=b':=by simpa using hf
  have hlen:ps.length=pre.length+1:=by rw [he]; simp
  have e1:idx ps (pre.length:Int)=some []:=by
   rw [D2 (show pre.length < ps.length by omega)]
   congr 1
   subst he
   rw [List.getElem_append_right (Nat.le_refl _)]
   simp
  simp only [D4,eR (show pre.length < ps.length by omega),cond_true,e1,Option.bind_some,show (([]:Str) == ([]:Str))=true from rfl]
 | w :: suf,pre,b,m,he,h1,hl,hf,hm=>by
  obtain ⟨m,rfl⟩:∃ q,m=q+1:=⟨m - 1,by omega⟩
  obtain ⟨k,rfl,hq⟩:=m9 hk
  have hlen:ps.length=pre.length+1+suf.length+1:=by rw [he]; simp; omega
  have e1:idx ps (pre.length:Int)=some (lnP w):=by
   rw [D2 (show pre.length < ps.length by omega)]
   congr 1
   subst he
   rw [List.getElem_append_right (Nat.le_refl _)]
   simp
  have hln:=hl w (by simp)
  have e2:dJ (lnP w) [10]=some (jn 32 w):=wS (by have:=hln.len; omega)
  have e3:=hln.split
  have h0:((pre.length:Int) == 0)=false:=by rw [beq_eq_false_iff_ne]; omega
  rw [eM] at hf
  cases ha:oJ (k+1) b w with
  | none=>rw [ha] at hf; cases hf
  | some b1=>
   rw [ha,Option.bind_some] at hf
   have ha':T8 (k+1) b w=some (true,b1):=by
    unfold oJ at ha
    split at ha
    ·rename_i b2 hb2
     obtain rfl:=Option.some.inj ha
     exact hb2
    ·cases ha
   have ih:=oj (k:=k+1) (by omega) hp (F:=F) suf (pre ++ [lnP w]) b1 m (by rw [he]; simp) (by simp) (fun ws hws=>hl ws (by simp [hws])) hf (by simp at hm; omega)
   rw [List.length_append,List.length_singleton] at ih
   simp only [D4,eR (show pre.length < ps.length by omega),cond_true,e1,Option.bind_some,zF,cond_false,strings_TrimSuffix,strings_Split,e2,e3,h0,ha',Bool.not_true,z6 (show pre.length < ps.length by omega) (show ps.length≤maxLen by rw [E5]; omega)]
   exact ih
def tj (t:a7) (j:Nat):a7:={ t with fFields:=t.fFields.take j,fKey:=bif decide (t.fKey < (j:Int)) then t.fKey else -1,fUnique:=bif decide (t.fKey < (j:Int)) then t.fUnique else false }
theorem FS {t:a7} (ht:Z5 t):tj t t.fFields.length=t:=by
 unfold tj
 rw [List.take_length]
 have:decide (t.fKey < (t.fFields.length:Int))=true:=decide_eq_true (by rcases ht.k with ⟨h,_⟩ | ⟨_,h⟩ <;> omega)
 rw [this]
 rfl
theorem Bp {t:a7} (ht:Z5 t):tj t 0={ t with fFields:=[],fKey:=-1,fUnique:=false }:=by
 unfold tj
 rcases ht.k with ⟨h,h'⟩ | ⟨h,h'⟩
 ·rw [decide_eq_true (show t.fKey < ((0:Nat):Int) by omega),h,h']
  rfl
 ·rw [decide_eq_false (show ¬ t.fKey < ((0:Nat):Int) by omega)]
  rfl
section
variable {R:a6→List Str→Option a6} {n:Str} {kd:Int}
theorem pu {ts0:List a7} {t:a7} (H:∀ j (hj:j < t.fFields.length),R ⟨n,kd,ts0 ++ [tj t j],[]⟩ (jU t j t.fFields[j])=some ⟨n,kd,ts0 ++ [tj t (j+1)],[]⟩):∀ (d j:Nat),j+d=t.fFields.length→(bl t j (t.fFields.drop j)).foldlM R ⟨n,kd,ts0 ++ [tj t j],[]⟩=some ⟨n,kd,ts0 ++ [tj t t.fFields.length],[]⟩
 | 0,j,h=>by
  obtain rfl:j=t.fFields.length:=by omega
  rw [List.drop_length]
  rfl
 | d+1,j,h=>by
  have hj:j < t.fFields.length:=by omega
  rw [List.drop_eq_getElem_cons hj,bl,eM,H j hj,Option.bind_some,pu H d (j+1) (by omega)]
theorem jV {l m:List (List Str)} {b:a6}:(l ++ m).foldlM R b=(l.foldlM R b).bind fun b'=>m.foldlM R b':=by
 rw [List.foldlM_append]
 rfl
theorem pw {ts:List a7} (ht:∀ t∈ts,Z5 t)
  (H1:∀ i (hi:i < ts.length),R ⟨n,kd,ts.take i,[]⟩ (gN ts ts[i])=some ⟨n,kd,ts.take i ++ [tj ts[i] 0],[]⟩)
  (H2:∀ i (hi:i < ts.length) j (hj:j < ts[i].fFields.length),R ⟨n,kd,ts.take i ++ [tj ts[i] j],[]⟩ (jU ts[i] j ts[i].fFields[j])=some ⟨n,kd,ts.take i ++ [tj ts[i] (j+1)],[]⟩):∀ (d i:Nat),i+d=ts.length→((ts.drop i).flatMap (V1 ts)).foldlM R ⟨n,kd,ts.take i,[]⟩=some ⟨n,kd,ts,[]⟩
 | 0,i,h=>by
  obtain rfl:i=ts.length:=by omega
  rw [List.drop_length,List.take_length]
  rfl
 | d+1,i,h=>by
  have hi:i < ts.length:=by omega
  have h3:=pu (H2 i hi) _ 0 (Nat.zero_add _)
  rw [List.drop_zero] at h3
  rw [List.drop_eq_getElem_cons hi,List.flatMap_cons,jV,V1,eM,H1 i hi,Option.bind_some,h3,Option.bind_some,FS (ht _ (List.getElem_mem hi))]
  have:=pw ht H1 H2 d (i+1) (by omega)
  rw [List.take_succ_eq_append_getElem hi] at this
  exact this
theorem pv {ts:List a7} {xs:List a8} (H3:∀ i (hi:i < xs.length),R ⟨n,kd,ts,xs.take i⟩ (gu ts xs[i])=some ⟨n,kd,ts,xs.take i ++ [xs[i]]⟩):∀ (d i:Nat),i+d=xs.length→((xs.drop i).map (gu ts)).foldlM R ⟨n,kd,ts,xs.take i⟩=some ⟨n,kd,ts,xs⟩
 | 0,i,h=>by
  obtain rfl:i=xs.length:=by omega
  rw [List.drop_length,List.take_length]
  rfl
 | d+1,i,h=>by
  have hi:i < xs.length:=by omega
  have:=pv H3 d (i+1) (by omega)
  rw [List.take_succ_eq_append_getElem hi] at this
  rw [List.drop_eq_getElem_cons hi,List.map_cons,eM,H3 i hi,Option.bind_some]
  exact this
theorem xm {b:a6} (hb:cn b)
  (H1:∀ i (hi:i < b.fTypes.length),R ⟨b.fName,b.fKind,b.fTypes.take i,[]⟩ (gN b.fTypes b.fTypes[i])=some ⟨b.fName,b.fKind,b.fTypes.take i ++ [tj b.fTypes[i] 0],[]⟩)
  (H2:∀ i (hi:i < b.fTypes.length) j (hj:j < b.fTypes[i].fFields.length),R ⟨b.fName,b.fKind,b.fTypes.take i ++ [tj b.fTypes[i] j],[]⟩ (jU b.fTypes[i] j b.fTypes[i].fFields[j])=some ⟨b.fName,b.fKind,b.fTypes.take i ++ [tj b.fTypes[i] (j+1)],[]⟩)
  (H3:∀ i (hi:i < b.fIndexes.length),R ⟨b.fName,b.fKind,b.fTypes,b.fIndexes.take i⟩ (gu b.fTypes b.fIndexes[i])=some ⟨b.fName,b.fKind,b.fTypes,b.fIndexes.take i ++ [b.fIndexes[i]]⟩):
  (fJ b).foldlM R ⟨b.fName,b.fKind,[],[]⟩=some b:=by
 have h1:=pw hb.t H1 H2 _ 0 (Nat.zero_add _)
 have h2:=pv H3 _ 0 (Nat.zero_add _)
 rw [List.drop_zero,List.take_zero] at h1 h2
 unfold fJ
 rw [jV,h1,Option.bind_some,h2]
end
theorem wR {ts:List a7} (h:∀ i j (hi:i < j) (hj:j < ts.length),(ts[i]'(by omega)).fName≠(ts[j]).fName) {p i:Nat} (hp:p < ts.length) (hi:p < i):lU (ts.take i) (ts[p]).fName=(p:Int):=
 rq (j:=p) (by rw [List.length_take]; omega) (by simp) (fun q hq hqp=>by
  rw [List.getElem_take,beq_eq_false_iff_ne]
  exact h q p hqp hp)
theorem AH {t:a7} (ht:Z5 t) {p:Nat} (hp:p < t.fFields.length):AG t.fFields (t.fFields[p]).fName=(p:Int):=
 rq (j:=p) hp (by simp) (fun q hq hqp=>by
  rw [beq_eq_false_iff_ne]
  exact ht.d q p hqp hp)
theorem zS {b:a6} (hb:cn b) {i:Nat} (hi:i < b.fTypes.length):(bif (ku b.fTypes b.fTypes[i].fParent == ([45]:Str)) then -1 else lU (b.fTypes.take i) (ku b.fTypes b.fTypes[i].fParent))=b.fTypes[i].fParent∧((ku b.fTypes b.fTypes[i].fParent == ([45]:Str)) || decide (lU (b.fTypes.take i) (ku b.fTypes b.fTypes[i].fParent) ≥ 0))=true:=by
 have hp:=hb.p i hi
 unfold ku
 by_cases h:b.fTypes[i].fParent < 0
 ·rw [if_pos h]
  exact ⟨by show (-1:Int)=_; omega,rfl⟩
 ·have hlt:b.fTypes[i].fParent.toNat < b.fTypes.length:=by omega
  rw [if_neg h,List.getElem?_eq_getElem hlt]
  have h1:=(hb.t _ (List.getElem_mem hlt)).n.dash
  have h2:=wR hb.d hlt (i:=i) (by omega)
  simp only [h1,h2,cond_false,Bool.false_or]
  exact ⟨by omega,decide_eq_true (by omega)⟩
theorem ke {α:Type} (l:List α) (i:Nat):(l.take i).length≤l.length:=by rw [List.length_take]; omega
theorem yk {k:Nat} {b:a6} (hk:300000≤k) (hb:cn b) {i:Nat} (hi:i < b.fTypes.length):oJ k ⟨b.fName,b.fKind,b.fTypes.take i,[]⟩ (gN b.fTypes b.fTypes[i])=some ⟨b.fName,b.fKind,b.fTypes.take i ++ [tj b.fTypes[i] 0],[]⟩:=by
 obtain ⟨k,rfl,hq⟩:=m9 hk
 have ht:=hb.t _ (List.getElem_mem hi)
 have h8:=hb.t8
 have hl:=ke b.fTypes i
 obtain ⟨p1,p2⟩:=zS hb hi
 have d1:=(bQ ht.m).l; have d2:=(bQ ht.s).l
 unfold oJ gN
 rw [vY,tJ (by omega) (show (b.fTypes.take i).length≤100000 by omega) (by omega) (by omega)]
 have e1:rL ⟨b.fName,b.fKind,b.fTypes.take i,[]⟩ (ku b.fTypes b.fTypes[i].fParent) (dgt b.fTypes[i].fMin) (dgt b.fTypes[i].fSize) (bif b.fTypes[i].fLast then [76] else [70])=true:=by
  unfold rL
  rw [eU ht.m,eU ht.s,p2]
  cases b.fTypes[i].fLast <;> rfl
 have e2:fp ⟨b.fName,b.fKind,b.fTypes.take i,[]⟩ b.fTypes[i].fName (ku b.fTypes b.fTypes[i].fParent) (dgt b.fTypes[i].fMin) (dgt b.fTypes[i].fSize) (bif b.fTypes[i].fLast then [76] else [70])=tj b.fTypes[i] 0:=by
  unfold fp
  rw [Bp ht,eU ht.m,eU ht.s,p1]
  cases hL:b.fTypes[i].fLast <;> rfl
 rw [e1,e2]
 rfl
theorem zB {t:a7} (ht:Z5 t) {j:Nat} (hj:j < t.fFields.length):jS (tj t j) (dgt t.fFields[j].fAt) (dgt t.fFields[j].fBytes) (mi t j)=true∧dR (tj t j) t.fFields[j].fName (dgt t.fFields[j].fAt) (dgt t.fFields[j].fBytes) (mi t j)=tj t (j+1):=by
 have hf:=ht.f _ (List.getElem_mem hj)
 have hl:(t.fFields.take j).length=j:=by rw [List.length_take]; omega
 have hs:t.fFields.take j ++ [t.fFields[j]]=t.fFields.take (j+1):=(List.take_succ_eq_append_getElem hj).symm
 unfold jS dR mi
 rw [eU hf.a,eU hf.s]
 by_cases hk:(j:Int)=t.fKey
 ·have hk1:((j:Int) == t.fKey)=true:=by rw [beq_iff_eq]; exact hk
  have hk2:decide (t.fKey < (j:Int))=false:=decide_eq_false (by omega)
  have hk3:decide (t.fKey < ((j+1:Nat):Int))=true:=decide_eq_true (by omega)
  unfold tj
  rw [hk1,hk2,hk3]
  simp only [cond_true,cond_false,hl,hs]
  cases hu:t.fUnique with
  | false=>exact ⟨rfl,by simp [hk,hs]⟩
  | true=>exact ⟨rfl,by simp [hk,hs]⟩
 ·have hk1:((j:Int) == t.fKey)=false:=by rw [beq_eq_false_iff_ne]; exact hk
  have hk2:decide (t.fKey < ((j+1:Nat):Int))=decide (t.fKey < (j:Int)):=decide_eq_decide.2 (by omega)
  unfold tj
  rw [hk1,hk2]
  simp only [cond_true,cond_false,hs]
  exact ⟨rfl,by simp [hs]⟩
theorem yi {k:Nat} {n:Str} {kd:Int} {ts0:List a7} {t:a7} (hk:300000≤k) (h0:ts0.length≤1000) (ht:Z5 t) {j:Nat} (hj:j < t.fFields.length):oJ k ⟨n,kd,ts0 ++ [tj t j],[]⟩ (jU t j t.fFields[j])=some ⟨n,kd,ts0 ++ [tj t (j+1)],[]⟩:=by
 obtain ⟨k,rfl,hq⟩:=m9 hk
 have hf:=ht.f _ (List.getElem_mem hj)
 have h5:=ht.f5
 have hl:=ke t.fFields j
 have d1:=(bQ hf.a).l; have d2:=(bQ hf.s).l
 obtain ⟨e1,e2⟩:=zB ht hj
 unfold oJ jU
 rw [nc,nH (by omega) (by omega) (show (tj t j).fFields.length≤100000 by show (t.fFields.take j).length≤100000; omega) (by omega) (by omega),e1,e2]
 rfl
theorem AM:(List.range 256).all (fun n=>dC ag (cx (n / 16)) == ((n / 16:Nat):Int) && (dC ag (cx (n % 16)) == ((n % 16:Nat):Int) && xp ((n / 16:Nat):Int) ((n % 16:Nat):Int) == [UInt8.ofNat n]))=true:=by decide +kernel
theorem FD (c:UInt8):dC ag (cx (c.toNat / 16))=((c.toNat / 16:Nat):Int)∧dC ag (cx (c.toNat % 16))=((c.toNat % 16:Nat):Int)∧xp ((c.toNat / 16:Nat):Int) ((c.toNat % 16:Nat):Int)=[c]:=by
 have:=List.all_eq_true.1 AM c.toNat (List.mem_range.2 c.toNat_lt)
 simp only [Bool.and_eq_true,beq_iff_eq] at this
 obtain ⟨h1,h2,h3⟩:=this
 rw [UInt8.ofNat_toNat] at h3
 exact ⟨h1,h2,h3⟩
theorem Hs {ts:List a7} {x:a8} (hx:tN ts x):∃ (hlt:x.fType.toNat < ts.length) (hlf:x.fField.toNat < (ts[x.fType.toNat]).fFields.length),xT ts x=(ts[x.fType.toNat]).fName∧xF ts x=((ts[x.fType.toNat]).fFields[x.fField.toNat]).fName:=by
 have t0:=hx.t0; have t1:=hx.t1; have f0:=hx.f0
 have hlt:x.fType.toNat < ts.length:=by omega
 have f1:=hx.f1 _ (List.getElem?_eq_getElem hlt)
 have hlf:x.fField.toNat < (ts[x.fType.toNat]).fFields.length:=by omega
 refine ⟨hlt,hlf,?_,?_⟩
 ·unfold xT
  rw [List.getElem?_eq_getElem hlt]
 ·unfold xF
  rw [List.getElem?_eq_getElem hlt]
  simp only [List.getElem?_eq_getElem hlf]
theorem oZ {b:a6} (hb:cn b) {x:a8} (hx:tN b.fTypes x) (xs:List a8):dU ⟨b.fName,b.fKind,b.fTypes,xs⟩ x.fName (xT b.fTypes x) (xF b.fTypes x) (pg x.fSparse)=some x:=by
 obtain ⟨hlt,hlf,e1,e2⟩:=Hs hx
 have t0:=hx.t0; have f0:=hx.f0; have hsl:=hx.s
 have ht:=hb.t _ (List.getElem_mem hlt)
 have p1:=wR hb.d hlt (i:=b.fTypes.length) hlt
 rw [List.take_length] at p1
 have p2:=AH ht hlf
 unfold dU
 rw [e1,e2]
 simp only [p1,D2 hlt,p2]
 obtain ⟨nm,ty,fd,sp⟩:=x
 simp only at t0 f0 hsl ⊢
 rw [Int.toNat_of_nonneg t0,Int.toNat_of_nonneg f0]
 match sp,hsl with
 | [],_=>rfl
 | [c],_=>
  obtain ⟨h1,h2,h3⟩:=FD c
  have h4:(pg [c] == ([45]:Str))=false:=by
   rw [beq_eq_false_iff_ne]
   intro e
   have:=congrArg List.length e
   simp [pg] at this
  rw [h4,cond_false]
  unfold pg
  simp only [h1,h2,h3]
  rw [decide_eq_false (show ¬ ((c.toNat / 16:Nat):Int) < 0 by omega),decide_eq_false (show ¬ ((c.toNat % 16:Nat):Int) < 0 by omega)]
  rfl
 | _ :: _ :: _,h=>simp at h
theorem yj {k:Nat} {b:a6} (hk:300000≤k) (hb:cn b) {i:Nat} (hi:i < b.fIndexes.length):oJ k ⟨b.fName,b.fKind,b.fTypes,b.fIndexes.take i⟩ (gu b.fTypes b.fIndexes[i])=some ⟨b.fName,b.fKind,b.fTypes,b.fIndexes.take i ++ [b.fIndexes[i]]⟩:=by
 obtain ⟨k,rfl,hq⟩:=m9 hk
 have h8:=hb.t8; have h3:=hb.x3
 have hl:=ke b.fIndexes i
 have e:=oZ hb (hb.x _ (List.getElem_mem hi)) (b.fIndexes.take i)
 have w1:(dK == jz)=false:=by decide
 have w2:(dK == dK)=true:=by decide
 have e3:=nO (k:=k) (b:=⟨b.fName,b.fKind,b.fTypes,b.fIndexes.take i⟩) (w0:=dK) (w1:=b.fIndexes[i].fName) (w2:=xT b.fTypes b.fIndexes[i]) (w3:=xF b.fTypes b.fIndexes[i]) (w4:=pg b.fIndexes[i].fSparse) (by omega) (show b.fTypes.length≤100000 by omega) (fun t ht=>by have:=(hb.t t ht).f5; omega) (show (b.fIndexes.take i).length≤100000 by omega)
 unfold gw at e3
 rw [e] at e3
 unfold oJ gu
 rw [nc,w1,w2,e3]
 rfl
def xl (k:Nat) (a0:Str) (b:a6):Option (a6×Int):=
 (((S0 k b).bind fun v43=>(some (v43.1,v43.2))).bind fun o44=>
    ((bif (o44.2 != 0) then (some (true)) else (some ((!(o44.1 == a0))))).bind fun o45=>
    (bif o45 then (some (({ fName:=[],fKind:=0,fTypes:=([]:List a7),fIndexes:=([]:List a8) }:a6),3)) else
    (some (b,0)))))
theorem wh {k:Nat} {t:Str} {b:a6} (hk:maxLen+30≤k) (hw:z7 b):xl k t b=some (bif valid b && (aG b == t) then (b,0) else (iK,3)):=by
 unfold xl
 rw [Q9 hk hw]
 unfold gV
 cases valid b with
 | false=>rfl
 | true=>
  simp only [cond_true,Option.bind_some,show ((0:Int) != 0)=false from rfl,cond_false,Bool.true_and]
  cases (aG b == t) <;> rfl
theorem qp {k:Nat} {t:Str} (ht:t.length≤10000):cg (k+2) t=D4 (k+1) (ska (t.count 10) t,((ska (t.count 10) t).length:Int),0) (fun _ _ _ n kd ts xs=>xl (k+1) t ⟨n,kd,ts,xs⟩) (fun _ n kd ts xs=>xl (k+1) t ⟨n,kd,ts,xs⟩) (k+1) 0 [] 0 [] []:=by
 simp only [cg,Y1,xS (show t.length < 4294967281 by omega),Option.bind_some]
 rfl
structure FT (t:Str) (r:Option (a6×Int)):Prop where
 tot:r=some (iK,3)∨∃ b,z7 b∧valid b=true∧aG b=t∧r=some (b,0)
 back:∀ b,z7 b→valid b=true→aG b=t→r=some (b,0)
theorem Br:Sz 0 iK:=⟨by simp [iK],ey (n:=0) (by omega) (by omega),by simp [iK],by simp [iK],by simp [iK],by simp [iK]⟩
theorem FA {b:a6} (hb:cn b):nvF (dgt b.fKind)=(b.fKind,true):=eU (by have:=hb.k; omega)
theorem eE {k:Nat} {t:Str} (hk:maxLen+40≤k) (ht:t.length≤10000):FT t (cg k t):=by
 obtain ⟨k,rfl⟩:∃ q,k=q+2:=⟨k - 2,by omega⟩
 rw [qp ht]
 have hkk:maxLen+30≤k+1:=by omega
 rw [E5] at hk
 obtain ⟨hp1,hp2⟩:=pS (t.count 10) t
 refine ⟨?_,?_⟩
 ·have h:=pN (k:=k+1) (by omega) (ps:=ska (t.count 10) t) (by omega) (fun p hp=>by have:=hp2 p hp; omega) (F:=xl (k+1) t) _ 0 (k+1) iK (Nat.zero_add _) (by omega) Br
  rcases h with h | ⟨b,hw,h⟩
  ·exact .inl h
  ·have h':=h.trans (wh hkk hw)
   cases hv:(valid b && (aG b == t)) with
   | false=>
    rw [hv] at h'
    exact .inl h'
   | true=>
    rw [hv] at h'
    simp only [Bool.and_eq_true,beq_iff_eq] at hv
    exact .inr ⟨b,hw,hv.1,hv.2,h'⟩
 ·intro b hw hv hc
  have hb:=jB hv
  have hln:=hJ hb
  have hs:ska (t.count 10) t=lnP (fZ b) :: ((fJ b).map lnP ++ [[]]):=by
   have:=Ab ((V4 b).map (jn 32)) (t.count 10) (fun s hs=>by
    obtain ⟨ws,hws,rfl⟩:=List.mem_map.1 hs
    exact (hln ws hws).e) (by
    have:=sU ((V4 b).map (jn 32))
    rw [←hc]
    exact this)
   rw [show nl ((V4 b).map (jn 32))=t from hc] at this
   rw [this,List.map_map]
   rfl
  have hlen:(fJ b).length≤52:=by
   have:=oI hb
   unfold V4 at this
   rw [List.length_cons] at this
   omega
  have hfold:=xm hb (R:=oJ (k+1)) (fun i hi=>yk (by omega) hb hi) (fun i hi j hj=>yi (by omega) (by have:=ke b.fTypes i; have:=hb.t8; omega) (hb.t _ (List.getElem_mem hi)) hj) (fun i hi=>yj (by omega) hb hi)
  have hback:=oj (k:=k+1) (by omega) (ps:=ska (t.count 10) t) (by omega) (F:=xl (k+1) t) (fJ b) [lnP (fZ b)] ⟨b.fName,b.fKind,[],[]⟩ k hs (by simp) (fun ws hws=>hln ws (by unfold V4; simp [hws])) hfold (by omega)
  rw [wh hkk hw,hv,hc,beq_self_eq_true] at hback
  have hpl:(ska (t.count 10) t).length=(fJ b).length+2:=by rw [hs]; simp
  have e1:idx (ska (t.count 10) t) 0=some (lnP (fZ b)):=by rw [hs]; rfl
  have hd:=hln (fZ b) (by unfold V4; simp)
  have e2:dJ (lnP (fZ b)) [10]=some (jn 32 (fZ b)):=wS (by have:=hd.len; omega)
  have e3:=hd.split
  have i0:idx (fZ b) 0=some Ap:=rfl
  have i1:idx (fZ b) 1=some b.fName:=rfl
  have i2:idx (fZ b) 2=some (dgt b.fKind):=rfl
  have d3:(((fZ b).length:Int) == 3)=true:=rfl
  have e4:X3 (k+1) (dgt b.fKind)=some (b.fKind,true):=by rw [gY (by omega) (by have:=(bQ (n:=b.fKind) (by have:=hb.k; omega)).l; omega),FA hb]
  simp only [D4,decide_eq_true (show (0:Int) < ((ska (t.count 10) t).length:Int) by omega),cond_true,e1,Option.bind_some,zF,cond_false,strings_TrimSuffix,strings_Split,e2,e3,show ((0:Int) == 0)=true from rfl,d3,i0,i1,i2,show (Ap == ([68,66,68]:Str))=true from by decide,e4,Bool.not_true,show Go.IntKind.wrap .i64 (0+1)=1 from by decide]
  exact hback
abbrev RdK:=Int→Str→Int→List a7→List a8→Option (a6×Bool)
section
variable {k:Nat} {o2:List Str} {K0:RdK} {m i:Nat} {b:a6} {l:Str}
end
theorem Ln.cut {ws:List Str} (h:Ln ws):sk 32 (jn 32 ws).length (jn 32 ws)=ws:=by
 refine zZ ws _ h.ne (fun w hw=>(h.w w hw).b) ?_
 have h1:=nT (c:=32) ws h.ne
 have h2:=List.count_le_length (a:=(32:UInt8)) (l:=jn 32 ws)
 omega
theorem ja (a0:a6) (a1:Str) (h0:z7 a0) (h1:wfS a1):∃ k,ah k a0 a1=some true:=by
 refine ⟨maxLen+101,?_⟩
 have hF:=ut (k:=maxLen+100) (by omega)
 obtain ⟨r,hS⟩:=ti (k:=maxLen+100) (b:=a0) (by omega) h0
 simp only [ah,hF,hS,Option.bind_some]
 cases r with
 | false=>rfl
 | true=>
  simp only [Bool.not_true,cond_false,Q9 (show maxLen+30≤maxLen+100 by omega) h0,bG (show maxLen+30≤maxLen+100 by omega) h0,aJ (show maxLen+2≤maxLen+100 by omega) h1,aq (show maxLen+2≤maxLen+100 by omega) h1,li (show maxLen+9≤maxLen+100 by omega) h0,mp (show maxLen+9≤maxLen+100 by omega) h0,Option.bind_some,beq_self_eq_true,bne_self_eq_false]
  unfold gV
  cases hv:valid a0 with
  | false=>rfl
  | true=>
   have hb:=jB hv
   have hp:=(eE (k:=maxLen+100) (t:=aG a0) (by omega) (by have:=tZ hb; omega)).back a0 h0 hv rfl
   simp only [cond_true,hp,Option.bind_some,show ((0:Int) != 0)=false from rfl,show ((0:Int) == 0)=true from rfl,cond_false,mQ (show maxLen+8≤maxLen+100 by omega) h0,oP (show maxLen+8≤maxLen+100 by omega) h0,uT]
end Go.Sh
