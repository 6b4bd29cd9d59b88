/- The functions as functions on lists, and what they come to: no program in sight. Conditions: those that each theorem names. -/
import Derived.Test.YteecoopnleidaaaDoorA3
import Derived.IntWalk
import Derived.Lib.SplitLaws
namespace Go.Sh
open Go.AE (idx idxS cut cat app upTo inB sameLen revInt wfI wfS wfL wfT mkN repS repL joinS cmpB idxB quoI remE shlI shrI andI orI xorI catL bytesB itoa1 repG)
set_option linter.unusedVariables false
abbrev Str := List UInt8
structure T_octet_Reader where
  fmade : Bool
  fb : (List Int)
  fbad : Bool
  deriving DecidableEq
structure T_progenyref01_Reader where
  fB : (List Int)
  fBad : Bool
  deriving DecidableEq
def wf_T_octet_Reader (a : T_octet_Reader) : Prop := wfT a.fmade ∧ (wfL (wfI .u8)) a.fb ∧ wfT a.fbad ∧ wfT ()
def wf_T_progenyref01_Reader (a : T_progenyref01_Reader) : Prop := (wfL (wfI .u8)) a.fB ∧ wfT a.fBad ∧ wfT ()
def octet_Text : Nat → (Str) → Option ((List Int) × Int)
  | 0, _ => none
  | k + 1, a0 =>
    (bif (decide ((a0.length : Int) > 255)) then (some (([] : List Int), 2)) else
      (((app ([(Go.IntKind.wrap .u8 (a0.length : Int))] : List Int) (bytesB a0)).bind fun v1 => (some (v1, 0))).bind fun o2 =>
        (some (o2.1, o2.2))))
def octet_Number : Nat → (Int) → Option ((List Int) × Int)
  | 0, _ => none
  | k + 1, a0 =>
    ((bif (decide (a0 < 0)) then (some (true)) else (some ((decide (a0 > 4294967295))))).bind fun o1 =>
      (bif o1 then (some (([] : List Int), 2)) else
      (((shrI .i64 a0 24).bind fun v2 => ((shrI .i64 a0 16).bind fun v3 => ((shrI .i64 a0 8).bind fun v4 => (some (([(Go.IntKind.wrap .u8 v2), (Go.IntKind.wrap .u8 v3), (Go.IntKind.wrap .u8 v4), (Go.IntKind.wrap .u8 a0)] : List Int), 0))))).bind fun o5 =>
        (some (o5.1, o5.2)))))
def strconv_Itoa : Nat → Int → Option Str
  | 0, _ => none
  | _ + 1, n => itoa1 n
def strings_Repeat : Nat → Str → Int → Option Str
  | 0, _, _ => none
  | _ + 1, s, n => repS s n
def octet_Digits : Nat → (Int) → (Int) → Option (Str × Int)
  | 0, _, _ => none
  | k + 1, a0, a1 =>
    ((strconv_Itoa k a0).bind fun o2 =>
      ((bif (decide (a0 < 0)) then (some (true)) else (bif (decide (a1 < 1)) then (some (true)) else (bif (decide (a1 > 9)) then (some (true)) else (some ((decide ((o2.length : Int) > a1))))))).bind fun o3 =>
      (bif o3 then (some (([] : Str), 2)) else
      (((strings_Repeat k ([48] : Str) (Go.IntKind.wrap .i64 (a1 - (o2.length : Int)))).bind fun v4 => ((cat v4 o2).bind fun v5 => (some (v5, 0)))).bind fun o6 =>
        (some (o6.1, o6.2))))))
def octet_Pad : Nat → (Str) → (Int) → Option (Str × Int)
  | 0, _, _ => none
  | k + 1, a0, a1 =>
    ((bif (decide (a1 < (a0.length : Int))) then (some (true)) else (some ((decide (a1 > 255))))).bind fun o1 =>
      (bif o1 then (some (([] : Str), 2)) else
      (((strings_Repeat k ([32] : Str) (Go.IntKind.wrap .i64 (a1 - (a0.length : Int)))).bind fun v2 => ((cat a0 v2).bind fun v3 => (some (v3, 0)))).bind fun o4 =>
        (some (o4.1, o4.2)))))
def strings_ReplaceAll : Nat → Str → Str → Str → Option Str
  | 0, _, _, _ => none
  | _ + 1, s, o, n => repG s o n
def octet_Key_L1 (k : Nat) (a0 : (List Str))  (K0 : (List Int) → Int → Option (List Int)) : Nat → (List Int) → Int → Option (List Int)
  | 0, _, _ => none
  | m + 1, x8, x9 =>
    (bif (decide (x9 < (a0.length : Int))) then ((idx a0 x9).bind fun o11 =>
          (((strings_ReplaceAll k o11 ([0] : Str) ([0, 255] : Str)).bind fun v12 => (app x8 (bytesB v12))).bind fun o14 =>
          ((app o14 ([0, 1] : List Int)).bind fun o16 =>
          (octet_Key_L1 k a0 K0 m o16 (Go.IntKind.wrap .i64 (x9 + 1)))))) else
        (K0 x8 x9))
def octet_Key : Nat → ((List Str)) → Option (List Int)
  | 0, _ => none
  | k + 1, a0 =>
    (octet_Key_L1 k a0 (fun y17 y18 =>
      (some y17)) k ([] : List Int) 0)
def law01_First : Nat → Option Bool
  | _ + 5 => some true
  | _ => none
def slices_Clone_byte_c : Nat → (Int) → ((List Int)) → Option (List Int)
  | 0, _, _ => none
  | k + 1, y, l =>
    ((app ([] : List Int) (y :: l)).bind fun o2 =>
      (some o2))
def slices_Clone_byte : Nat → List Int → Option (List Int)
  | 0, _ => none
  | _ + 1, [] => some []
  | k + 1, y :: l => slices_Clone_byte_c (k + 1) y l
def octet_NewReader : Nat → ((List Int)) → Option T_octet_Reader
  | 0, _ => none
  | k + 1, a0 =>
    (((slices_Clone_byte k a0).bind fun v1 => (some (({ fmade := true, fb := v1, fbad := false } : T_octet_Reader)))).bind fun o2 =>
      (some o2))
def ref01_NewReader : Nat → ((List Int)) → Option T_progenyref01_Reader
  | 0, _ => none
  | k + 1, a0 =>
    (((app ([] : List Int) a0).bind fun v1 => (some (({ fB := v1, fBad := false } : T_progenyref01_Reader)))).bind fun o2 =>
      (some o2))
def octet_Reader_none : Nat → (T_octet_Reader) → Option Bool
  | 0, _ => none
  | k + 1, a0 =>
    (some (!a0.fmade))
def octet_Reader_take : Nat → (T_octet_Reader) → (Int) → Option ((List Int) × Int × T_octet_Reader)
  | 0, _, _ => none
  | k + 1, a0, a1 =>
    ((octet_Reader_none k a0).bind fun o2 =>
      (bif o2 then (some (([] : List Int), 6, a0)) else
      ((bif a0.fbad then (some (true)) else (some ((decide (a1 > (a0.fb.length : Int)))))).bind fun o3 =>
        (bif o3 then (some (([] : List Int), 3, { a0 with fbad := true })) else
        ((cut a0.fb 0 a1).bind fun o5 =>
          (((cut a0.fb a1 (a0.fb.length : Int)).bind fun v6 => (some ({ a0 with fb := v6 }))).bind fun o7 =>
          (some (o5, 0, o7))))))))
def octet_Reader_Small : Nat → (T_octet_Reader) → Option (Int × Int × T_octet_Reader)
  | 0, _ => none
  | k + 1, a0 =>
    (((octet_Reader_take k a0 1).bind fun v1 => (some (v1.1, v1.2.1, v1.2.2))).bind fun o2 =>
      (bif (o2.2.1 != 0) then (some (0, o2.2.1, o2.2.2)) else
      (((idx o2.1 0).bind fun v3 => (some ((Go.IntKind.wrap .i64 v3), 0))).bind fun o4 =>
        (some (o4.1, o4.2, o2.2.2)))))
def ref01_Reader_take : Nat → (T_progenyref01_Reader) → (Int) → Option ((List Int) × Bool × T_progenyref01_Reader)
  | 0, _, _ => none
  | k + 1, a0, a1 =>
    ((bif a0.fBad then (some (true)) else (some ((decide (a1 > (a0.fB.length : Int)))))).bind fun o1 =>
      (bif o1 then (some (([] : List Int), false, { a0 with fBad := true })) else
      ((cut a0.fB 0 a1).bind fun o3 =>
        (((cut a0.fB a1 (a0.fB.length : Int)).bind fun v4 => (some ({ a0 with fB := v4 }))).bind fun o5 =>
        (some (o3, true, o5))))))
def ref01_Reader_Small : Nat → (T_progenyref01_Reader) → Option (Int × Int × T_progenyref01_Reader)
  | 0, _ => none
  | k + 1, a0 =>
    (((ref01_Reader_take k a0 1).bind fun v1 => (some (v1.1, v1.2.1, v1.2.2))).bind fun o2 =>
      (bif (!o2.2.1) then (some (0, 3, o2.2.2)) else
      (((idx o2.1 0).bind fun v3 => (some ((Go.IntKind.wrap .i64 v3), 0))).bind fun o4 =>
        (some (o4.1, o4.2, o2.2.2)))))
def octet_Reader_Left : Nat → (T_octet_Reader) → Option Int
  | 0, _ => none
  | k + 1, a0 =>
    ((octet_Reader_none k a0).bind fun o2 =>
      (bif o2 then (some 0) else
      (some (a0.fb.length : Int))))
def octet_Reader_Bad : Nat → (T_octet_Reader) → Option Bool
  | 0, _ => none
  | k + 1, a0 =>
    (((octet_Reader_none k a0).bind fun v1 => (bif v1 then (some (true)) else (some (a0.fbad)))).bind fun o2 =>
      (some o2))
def octet_Reader_Done : Nat → (T_octet_Reader) → Option Bool
  | 0, _ => none
  | k + 1, a0 =>
    (((octet_Reader_Bad k a0).bind fun v1 => (bif (!v1) then (some (((a0.fb.length : Int) == 0))) else (some (false)))).bind fun o2 =>
      (some o2))
def octet_Reader_Number_L1 (o2 : (List Int) × Int × T_octet_Reader)  (K0 : Int → Int → Option (Int × Int × T_octet_Reader)) : Nat → Int → Int → Option (Int × Int × T_octet_Reader)
  | 0, _, _ => none
  | m + 1, x7, x8 =>
    (bif (decide (x8 < (o2.1.length : Int))) then ((idx o2.1 x8).bind fun o10 =>
          (((shlI .i64 x7 8).bind fun v11 => (some ((orI .i64 v11 (Go.IntKind.wrap .i64 o10))))).bind fun o12 =>
          (octet_Reader_Number_L1 o2 K0 m o12 (Go.IntKind.wrap .i64 (x8 + 1))))) else
        (K0 x7 x8))
def octet_Reader_Number : Nat → (T_octet_Reader) → Option (Int × Int × T_octet_Reader)
  | 0, _ => none
  | k + 1, a0 =>
    (((octet_Reader_take k a0 4).bind fun v1 => (some (v1.1, v1.2.1, v1.2.2))).bind fun o2 =>
      (bif (o2.2.1 != 0) then (some (0, o2.2.1, o2.2.2)) else
      (octet_Reader_Number_L1 o2 (fun y13 y14 =>
        (some (y13, 0, o2.2.2))) k 0 0)))
def ref01_Reader_Number : Nat → (T_progenyref01_Reader) → Option (Int × Int × T_progenyref01_Reader)
  | 0, _ => none
  | k + 1, a0 =>
    (((ref01_Reader_take k a0 4).bind fun v1 => (some (v1.1, v1.2.1, v1.2.2))).bind fun o2 =>
      (bif (!o2.2.1) then (some (0, 3, o2.2.2)) else
      (((idx o2.1 0).bind fun v3 => ((idx o2.1 1).bind fun v4 => ((idx o2.1 2).bind fun v5 => ((idx o2.1 3).bind fun v6 => (some ((Go.IntKind.wrap .i64 ((Go.IntKind.wrap .i64 ((Go.IntKind.wrap .i64 ((Go.IntKind.wrap .i64 ((Go.IntKind.wrap .i64 ((Go.IntKind.wrap .i64 ((Go.IntKind.wrap .i64 v3) * 256)) + (Go.IntKind.wrap .i64 v4))) * 256)) + (Go.IntKind.wrap .i64 v5))) * 256)) + (Go.IntKind.wrap .i64 v6))), 0)))))).bind fun o7 =>
        (some (o7.1, o7.2, o2.2.2)))))
def octet_Reader_Text : Nat → (T_octet_Reader) → Option (Str × Int × T_octet_Reader)
  | 0, _ => none
  | k + 1, a0 =>
    ((octet_Reader_none k a0).bind fun o2 =>
      (bif o2 then (some (([] : Str), 6, a0)) else
      (((octet_Reader_Small k a0).bind fun v3 => (some (v3.1, v3.2.2))).bind fun o4 =>
        (((octet_Reader_take k o4.2 o4.1).bind fun v5 => (some (v5.1, v5.2.1, v5.2.2))).bind fun o6 =>
        (bif (o6.2.1 != 0) then (some (([] : Str), o6.2.1, { o6.2.2 with fb := a0.fb })) else
        (some ((Go.AE.strB o6.1), 0, o6.2.2)))))))
def ref01_Reader_Text : Nat → (T_progenyref01_Reader) → Option (Str × Int × T_progenyref01_Reader)
  | 0, _ => none
  | k + 1, a0 =>
    ((bif a0.fBad then (some (true)) else (bif (decide ((a0.fB.length : Int) < 1)) then (some (true)) else ((idx a0.fB 0).bind fun v1 => (some ((decide ((a0.fB.length : Int) < (Go.IntKind.wrap .i64 (1 + (Go.IntKind.wrap .i64 v1)))))))))).bind fun o2 =>
      (bif o2 then (some (([] : Str), 3, { a0 with fBad := true })) else
      (((idx a0.fB 0).bind fun v3 => ((ref01_Reader_take k a0 (Go.IntKind.wrap .i64 (1 + (Go.IntKind.wrap .i64 v3)))).bind fun v4 => (some (v4.1, v4.2.2)))).bind fun o5 =>
        (((cut o5.1 1 (o5.1.length : Int)).bind fun v6 => (some ((Go.AE.strB v6), 0))).bind fun o7 =>
        (some (o7.1, o7.2, o5.2))))))
def octet_Reader_Texts_L1 (k : Nat) (o4 : Int × T_octet_Reader)  (K0 : (List Str) → Int → T_octet_Reader → Option ((List Str) × Int × T_octet_Reader)) : Nat → (List Str) → Int → T_octet_Reader → Option ((List Str) × Int × T_octet_Reader)
  | 0, _, _, _ => none
  | m + 1, x9, x10, x11 =>
    (bif (decide (x10 < o4.1)) then (((octet_Reader_Text k x11).bind fun v12 => (some (v12.1, v12.2.2))).bind fun o13 =>
          ((app x9 ([o13.1] : List Str)).bind fun o15 =>
          (octet_Reader_Texts_L1 k o4 K0 m o15 (Go.IntKind.wrap .i64 (x10 + 1)) o13.2))) else
        (K0 x9 x10 x11))
def octet_Reader_Texts : Nat → (T_octet_Reader) → Option ((List Str) × Int × T_octet_Reader)
  | 0, _ => none
  | k + 1, a0 =>
    ((octet_Reader_none k a0).bind fun o2 =>
      (bif o2 then (some (([] : List Str), 6, a0)) else
      (((octet_Reader_Small k a0).bind fun v3 => (some (v3.1, v3.2.2))).bind fun o4 =>
        (octet_Reader_Texts_L1 k o4 (fun y16 y17 y18 =>
        (bif y18.fbad then (some (([] : List Str), 3, { y18 with fb := a0.fb })) else
          (some (y16, 0, y18)))) k ([] : List Str) 0 o4.2))))
def ref01_Reader_Texts_L1 (k : Nat) (a0 : T_progenyref01_Reader) (o2 : Int × Int × T_progenyref01_Reader)  (K0 : (List Str) → Int → T_progenyref01_Reader → Option ((List Str) × Int × T_progenyref01_Reader)) : Nat → (List Str) → Int → T_progenyref01_Reader → Option ((List Str) × Int × T_progenyref01_Reader)
  | 0, _, _, _ => none
  | m + 1, x7, x8, x9 =>
    (bif (decide (x8 < o2.1)) then (((ref01_Reader_Text k x9).bind fun v10 => (some (v10.1, v10.2.1, v10.2.2))).bind fun o11 =>
          (bif (o11.2.1 != 0) then (some (([] : List Str), o11.2.1, { o11.2.2 with fB := a0.fB })) else
          ((app x7 ([o11.1] : List Str)).bind fun o13 =>
            (ref01_Reader_Texts_L1 k a0 o2 K0 m o13 (Go.IntKind.wrap .i64 (x8 + 1)) o11.2.2)))) else
        (K0 x7 x8 x9))
def ref01_Reader_Texts : Nat → (T_progenyref01_Reader) → Option ((List Str) × Int × T_progenyref01_Reader)
  | 0, _ => none
  | k + 1, a0 =>
    (((ref01_Reader_Small k a0).bind fun v1 => (some (v1.1, v1.2.1, v1.2.2))).bind fun o2 =>
      (bif (o2.2.1 != 0) then (some (([] : List Str), o2.2.1, o2.2.2)) else
      (ref01_Reader_Texts_L1 k a0 o2 (fun y14 y15 y16 =>
        (some (y14, 0, y16))) k ([] : List Str) 0 o2.2.2)))
def ref01_SameTexts_L1 (a0 : (List Str)) (a1 : (List Str))  (K0 : Int → Option Bool) : Nat → Int → Option Bool
  | 0, _ => none
  | m + 1, x4 =>
    (bif (decide (x4 < (a0.length : Int))) then (((idx a0 x4).bind fun v5 => ((idx a1 x4).bind fun v6 => (some ((!(v5 == v6)))))).bind fun o7 =>
          (bif o7 then (some false) else
          (ref01_SameTexts_L1 a0 a1 K0 m (Go.IntKind.wrap .i64 (x4 + 1))))) else
        (K0 x4))
def ref01_SameTexts : Nat → ((List Str)) → ((List Str)) → Option Bool
  | 0, _, _ => none
  | k + 1, a0, a1 =>
    (bif ((a0.length : Int) != (a1.length : Int)) then (some false) else
      (ref01_SameTexts_L1 a0 a1 (fun y8 =>
        (some true)) k 0))
def law01_OctetReads_L1 (k : Nat) (a1 : (List Int))  (K0 : Int → T_octet_Reader → T_progenyref01_Reader → Option Bool) : Nat → Int → T_octet_Reader → T_progenyref01_Reader → Option Bool
  | 0, _, _, _ => none
  | m + 1, x47, x48, x49 =>
    (bif (decide (x47 < (a1.length : Int))) then (((idx a1 x47).bind fun v50 => (remE v50 4)).bind fun o52 =>
          (bif (o52 == 0) then (((octet_Reader_Small k x48).bind fun v53 => (some (v53.1, v53.2.1, v53.2.2))).bind fun o54 =>
            (((ref01_Reader_Small k x49).bind fun v55 => (some (v55.1, v55.2.1, v55.2.2))).bind fun o56 =>
            ((bif (o54.1 == o56.1) then (some ((o54.2.1 == o56.2.1))) else (some (false))).bind fun o57 =>
            ((bif (!o57) then (some (true)) else ((octet_Reader_Left k o54.2.2).bind fun v58 => (bif (v58 != (o56.2.2.fB.length : Int)) then (some (true)) else ((octet_Reader_Bad k o54.2.2).bind fun v59 => (bif (!(v59 == o56.2.2.fBad)) then (some (true)) else ((octet_Reader_Done k o54.2.2).bind fun v60 => (bif (!o56.2.2.fBad) then (some ((!(v60 == ((o56.2.2.fB.length : Int) == 0))))) else (some ((!(v60 == false))))))))))).bind fun o61 =>
            (bif o61 then (some false) else
            (law01_OctetReads_L1 k a1 K0 m (Go.IntKind.wrap .i64 (x47 + 1)) o54.2.2 o56.2.2)))))) else
          (bif (o52 == 1) then (((octet_Reader_Number k x48).bind fun v62 => (some (v62.1, v62.2.1, v62.2.2))).bind fun o63 =>
              (((ref01_Reader_Number k x49).bind fun v64 => (some (v64.1, v64.2.1, v64.2.2))).bind fun o65 =>
              ((bif (o63.1 == o65.1) then (some ((o63.2.1 == o65.2.1))) else (some (false))).bind fun o66 =>
              ((bif (!o66) then (some (true)) else ((octet_Reader_Left k o63.2.2).bind fun v67 => (bif (v67 != (o65.2.2.fB.length : Int)) then (some (true)) else ((octet_Reader_Bad k o63.2.2).bind fun v68 => (bif (!(v68 == o65.2.2.fBad)) then (some (true)) else ((octet_Reader_Done k o63.2.2).bind fun v69 => (bif (!o65.2.2.fBad) then (some ((!(v69 == ((o65.2.2.fB.length : Int) == 0))))) else (some ((!(v69 == false))))))))))).bind fun o70 =>
              (bif o70 then (some false) else
              (law01_OctetReads_L1 k a1 K0 m (Go.IntKind.wrap .i64 (x47 + 1)) o63.2.2 o65.2.2)))))) else
            (bif (o52 == 2) then (((octet_Reader_Text k x48).bind fun v71 => (some (v71.1, v71.2.1, v71.2.2))).bind fun o72 =>
                (((ref01_Reader_Text k x49).bind fun v73 => (some (v73.1, v73.2.1, v73.2.2))).bind fun o74 =>
                ((bif (o72.1 == o74.1) then (some ((o72.2.1 == o74.2.1))) else (some (false))).bind fun o75 =>
                ((bif (!o75) then (some (true)) else ((octet_Reader_Left k o72.2.2).bind fun v76 => (bif (v76 != (o74.2.2.fB.length : Int)) then (some (true)) else ((octet_Reader_Bad k o72.2.2).bind fun v77 => (bif (!(v77 == o74.2.2.fBad)) then (some (true)) else ((octet_Reader_Done k o72.2.2).bind fun v78 => (bif (!o74.2.2.fBad) then (some ((!(v78 == ((o74.2.2.fB.length : Int) == 0))))) else (some ((!(v78 == false))))))))))).bind fun o79 =>
                (bif o79 then (some false) else
                (law01_OctetReads_L1 k a1 K0 m (Go.IntKind.wrap .i64 (x47 + 1)) o72.2.2 o74.2.2)))))) else
              (((octet_Reader_Texts k x48).bind fun v80 => (some (v80.1, v80.2.1, v80.2.2))).bind fun o81 =>
                (((ref01_Reader_Texts k x49).bind fun v82 => (some (v82.1, v82.2.1, v82.2.2))).bind fun o83 =>
                (((ref01_SameTexts k o81.1 o83.1).bind fun v84 => (bif v84 then (some ((o81.2.1 == o83.2.1))) else (some (false)))).bind fun o85 =>
                ((bif (!o85) then (some (true)) else ((octet_Reader_Left k o81.2.2).bind fun v86 => (bif (v86 != (o83.2.2.fB.length : Int)) then (some (true)) else ((octet_Reader_Bad k o81.2.2).bind fun v87 => (bif (!(v87 == o83.2.2.fBad)) then (some (true)) else ((octet_Reader_Done k o81.2.2).bind fun v88 => (bif (!o83.2.2.fBad) then (some ((!(v88 == ((o83.2.2.fB.length : Int) == 0))))) else (some ((!(v88 == false))))))))))).bind fun o89 =>
                (bif o89 then (some false) else
                (law01_OctetReads_L1 k a1 K0 m (Go.IntKind.wrap .i64 (x47 + 1)) o81.2.2 o83.2.2)))))))))) else
        (K0 x47 x48 x49))
def law01_OctetReads : Nat → ((List Int)) → ((List Int)) → Option Bool
  | 0, _, _ => none
  | k + 1, a0, a1 =>
    ((bif (decide ((a0.length : Int) > 2000)) then (some (true)) else (some ((decide ((a1.length : Int) > 40))))).bind fun o1 =>
      (bif o1 then ((law01_First k).bind fun o3 =>
        (some o3)) else
      (((octet_NewReader k a0).bind fun v4 => ((ref01_NewReader k a0).bind fun v5 => (some (v4, v5)))).bind fun o6 =>
        (law01_OctetReads_L1 k a1 (fun y90 y91 y92 =>
        ((law01_First k).bind fun o94 =>
          (some o94))) k 0 o6.1 o6.2))))
end Go.Sh
namespace Go.Sh
open Go.AE
set_option linter.unusedVariables false
theorem maxLen_eq : maxLen = 9223372036854775807 := rfl
theorem wrap_in {x : Int} (h : -9223372036854775808 ≤ x) (h' : x ≤ 9223372036854775807) : Go.IntKind.wrap .i64 x = x := IntWalk.i64_in x ⟨h, h'⟩
theorem wrap_next {i n : Nat} (h : i < n) (hn : n ≤ maxLen) : Go.IntKind.wrap .i64 ((i : Int) + 1) = ((i + 1 : Nat) : Int) := by
  rw [wrap_in] <;> (try rw [maxLen_eq] at hn) <;> omega
theorem idx_at {α : Type} {l : List α} {i : Nat} (h : i < l.length) : idx l (i : Int) = some l[i] := by
  unfold idx
  rw [if_pos (by omega), Int.toNat_natCast, List.getElem?_eq_getElem h]
theorem cut_take {α : Type} {l : List α} {i : Nat} (h : i ≤ l.length) : cut l 0 (i : Int) = some (l.take i) := by
  unfold cut
  rw [if_pos ⟨by omega, by omega, by omega⟩]
  simp
theorem app_ok {α : Type} {l m : List α} (h : l.length + m.length ≤ maxList) : app l m = some (l ++ m) := by
  unfold app; rw [if_pos h]
end Go.Sh

namespace Go.Sh
open Go.AE
set_option linter.unusedVariables false
set_option linter.unusedSimpArgs false
theorem first01 {k : Nat} (hk : 20 ≤ k) : law01_First k = some true := by
  obtain ⟨k, rfl⟩ : ∃ q, k = q + 20 := ⟨k - 20, by omega⟩
  rfl
end Go.Sh

namespace Go.Sh
open Go.AE
set_option linter.unusedVariables false
set_option linter.unusedSimpArgs false
def isByte (x : Int) : Prop := 0 ≤ x ∧ x ≤ 255
theorem sameTexts_refl {k : Nat} {l : List Str} (hk : l.length + 2 ≤ k) (hl : l.length ≤ maxLen) : ref01_SameTexts k l l = some true := by
  obtain ⟨k, rfl⟩ : ∃ q, k = q + 1 := ⟨k - 1, by omega⟩
  simp only [ref01_SameTexts, bne_self_eq_false, cond_false]
  have main : ∀ d i m : Nat, i + d = l.length → d < m → ref01_SameTexts_L1 l l (fun _ => some true) m (i : Int) = some true := by
    intro d
    induction d with
    | zero =>
      intro i m hd hm
      obtain ⟨m, rfl⟩ : ∃ q, m = q + 1 := ⟨m - 1, by omega⟩
      obtain rfl : i = l.length := by omega
      simp only [ref01_SameTexts_L1, show decide ((l.length : Int) < (l.length : Int)) = false by simp, cond_false]
    | succ d ih =>
      intro i m hd hm
      obtain ⟨m, rfl⟩ : ∃ q, m = q + 1 := ⟨m - 1, by omega⟩
      have hi : i < l.length := by omega
      simp only [ref01_SameTexts_L1, show decide ((i : Int) < (l.length : Int)) = true by simp; exact hi, cond_true, idx_at hi, Option.bind_some, beq_self_eq_true, Bool.not_true, cond_false, wrap_next hi hl]
      exact ih (i + 1) m (by omega) (by omega)
  exact main l.length 0 k (by omega) (by omega)
theorem byte_of_wf {x : Int} (h : wfI .u8 x) : isByte x := by
  unfold wfI Lit.wf at h
  have e1 : IntKind.u8.min = 0 := by decide
  have e2 : IntKind.u8.max = 255 := by decide
  simp only [e1, e2, Bool.and_eq_true, decide_eq_true_eq] at h
  exact h
end Go.Sh

namespace Go.Sh
open Go.AE
set_option linter.unusedVariables false
set_option linter.unusedSimpArgs false
def rdr (l : List Int) : T_octet_Reader := { fmade := true, fb := l, fbad := false }
theorem cut_drop {α : Type} {l : List α} {i : Nat} (h : i ≤ l.length) : cut l (i : Int) (l.length : Int) = some (l.drop i) := by
  unfold cut
  rw [if_pos ⟨by omega, by omega, by omega⟩, Int.toNat_natCast, Int.toNat_natCast, List.take_length]
theorem take_ok {k : Nat} (hk : 2 ≤ k) (a b : List Int) : octet_Reader_take k (rdr (a ++ b)) (a.length : Int) = some (a, 0, rdr b) := by
  obtain ⟨k, rfl⟩ : ∃ q, k = q + 2 := ⟨k - 2, by omega⟩
  have hl : a.length ≤ (a ++ b).length := by rw [List.length_append]; omega
  show octet_Reader_take (k + 2) { fmade := true, fb := a ++ b, fbad := false } _ = _
  have hd : decide ((a.length : Int) > ((a ++ b).length : Int)) = false := decide_eq_false (by omega)
  simp only [octet_Reader_take, octet_Reader_none, rdr, Bool.not_true, Option.bind_some, cond_false, cut_take hl, cut_drop hl, List.take_left, List.drop_left]
  rw [hd]
  rfl
theorem small_take {k : Nat} (hk : 3 ≤ k) {x : Int} (hx : isByte x) (r : List Int) : octet_Reader_Small k (rdr (x :: r)) = some (x, 0, rdr r) := by
  obtain ⟨k, rfl⟩ : ∃ q, k = q + 1 := ⟨k - 1, by omega⟩
  have h := take_ok (k := k) (by omega) [x] r
  have h' : octet_Reader_take k (rdr (x :: r)) 1 = some ([x], 0, rdr r) := h
  have hi : idx [x] 0 = some x := rfl
  have hw : Go.IntKind.wrap .i64 x = x := wrap_in (by have := hx.1; omega) (by have := hx.2; omega)
  simp only [octet_Reader_Small, h', Option.bind_some, bne_self_eq_false, cond_false, hi, hw]
theorem or_byte {x b : Int} (h0 : 0 ≤ x) (h1 : x ≤ 16777216) (hb : isByte b) : (shlI .i64 x 8).bind (fun v => some (orI .i64 v (Go.IntKind.wrap .i64 b))) = some (x * 256 + b) := by
  obtain ⟨b0, b1⟩ := hb
  have e1 : shlI .i64 x 8 = some (x * 256) := by
    unfold shlI
    rw [if_neg (by omega)]
    show some (Go.IntKind.wrap .i64 (x * 256)) = _
    rw [wrap_in (by omega) (by omega)]
  rw [e1, Option.bind_some, wrap_in (x := b) (by omega) (by omega)]
  obtain ⟨n, rfl⟩ : ∃ n : Nat, x = (n : Int) := ⟨x.toNat, by omega⟩
  obtain ⟨c, rfl⟩ : ∃ c : Nat, b = (c : Int) := ⟨b.toNat, by omega⟩
  unfold orI
  have t1 : (BitVec.ofInt 64 ((n : Int) * 256)).toNat = n * 256 := by
    rw [show (n : Int) * 256 = ((n * 256 : Nat) : Int) by omega, BitVec.ofInt_natCast, BitVec.toNat_ofNat]
    exact Nat.mod_eq_of_lt (by omega)
  have t2 : (BitVec.ofInt 64 (c : Int)).toNat = c := by
    rw [BitVec.ofInt_natCast, BitVec.toNat_ofNat]
    exact Nat.mod_eq_of_lt (by omega)
  show some (Go.IntKind.wrap .i64 (((BitVec.ofInt 64 ((n : Int) * 256) ||| BitVec.ofInt 64 (c : Int)).toNat : Nat) : Int)) = _
  rw [BitVec.toNat_or, t1, t2]
  have t3 : n * 256 ||| c = n * 256 + c := by
    have := Nat.shiftLeft_add_eq_or_of_lt (show c < 2 ^ 8 by omega) n
    rw [Nat.shiftLeft_eq] at this
    exact this.symm
  rw [t3, wrap_in (by omega) (by omega)]
  congr 1
theorem take4 {k : Nat} (hk : 2 ≤ k) (a b c d : Int) (r : List Int) : octet_Reader_take k (rdr (a :: b :: c :: d :: r)) 4 = some ([a, b, c, d], 0, rdr r) := by
  have h := take_ok hk [a, b, c, d] r
  have e1 : (([a, b, c, d] : List Int).length : Int) = 4 := rfl
  have e2 : [a, b, c, d] ++ r = a :: b :: c :: d :: r := rfl
  rw [e1, e2] at h
  exact h
theorem number_take {k : Nat} (hk : 10 ≤ k) {a b c d : Int} (ha : isByte a) (hb : isByte b) (hc : isByte c) (hd : isByte d) (r : List Int) : octet_Reader_Number k (rdr (a :: b :: c :: d :: r)) = some (((a * 256 + b) * 256 + c) * 256 + d, 0, rdr r) := by
  obtain ⟨k, rfl⟩ : ∃ q, k = q + 1 := ⟨k - 1, by omega⟩
  have h : octet_Reader_take k (rdr (a :: b :: c :: d :: r)) 4 = some ([a, b, c, d], 0, rdr r) := take4 (by omega) a b c d r
  obtain ⟨a0, a1⟩ := ha
  obtain ⟨b0, b1⟩ := hb
  obtain ⟨c0, c1⟩ := hc
  have i0 : idx [a, b, c, d] 0 = some a := rfl
  have i1 : idx [a, b, c, d] 1 = some b := rfl
  have i2 : idx [a, b, c, d] 2 = some c := rfl
  have i3 : idx [a, b, c, d] 3 = some d := rfl
  have w0 : Go.IntKind.wrap .i64 ((0 : Int) + 1) = 1 := wrap_in (by omega) (by omega)
  have w1 : Go.IntKind.wrap .i64 ((1 : Int) + 1) = 2 := wrap_in (by omega) (by omega)
  have w2 : Go.IntKind.wrap .i64 ((2 : Int) + 1) = 3 := wrap_in (by omega) (by omega)
  have w3 : Go.IntKind.wrap .i64 ((3 : Int) + 1) = 4 := wrap_in (by omega) (by omega)
  have o0 := or_byte (x := 0) (b := a) (by omega) (by omega) ⟨a0, a1⟩
  have o1 := or_byte (x := 0 * 256 + a) (b := b) (by omega) (by omega) ⟨b0, b1⟩
  have o2 := or_byte (x := (0 * 256 + a) * 256 + b) (b := c) (by omega) (by omega) ⟨c0, c1⟩
  have o3 := or_byte (x := ((0 * 256 + a) * 256 + b) * 256 + c) (b := d) (by omega) (by omega) hd
  have l4 : (([a, b, c, d] : List Int).length : Int) = 4 := rfl
  simp only [octet_Reader_Number, h, Option.bind_some, bne_self_eq_false, cond_false]
  have g : ∀ (p : List Int × Int × T_octet_Reader) (K0 : Int → Int → Option (Int × Int × T_octet_Reader)), p.1 = [a, b, c, d] → octet_Reader_Number_L1 p K0 k 0 0 = K0 (((a * 256 + b) * 256 + c) * 256 + d) 4 := by
    intro p K0 hp
    obtain ⟨k, rfl⟩ : ∃ q, k = q + 1 := ⟨k - 1, by omega⟩
    simp only [octet_Reader_Number_L1, hp, l4, show decide ((0 : Int) < 4) = true from rfl, cond_true, i0, Option.bind_some, o0, w0]
    obtain ⟨k, rfl⟩ : ∃ q, k = q + 1 := ⟨k - 1, by omega⟩
    simp only [octet_Reader_Number_L1, hp, l4, show decide ((1 : Int) < 4) = true from rfl, cond_true, i1, Option.bind_some, o1, w1]
    obtain ⟨k, rfl⟩ : ∃ q, k = q + 1 := ⟨k - 1, by omega⟩
    simp only [octet_Reader_Number_L1, hp, l4, show decide ((2 : Int) < 4) = true from rfl, cond_true, i2, Option.bind_some, o2, w2]
    obtain ⟨k, rfl⟩ : ∃ q, k = q + 1 := ⟨k - 1, by omega⟩
    simp only [octet_Reader_Number_L1, hp, l4, show decide ((3 : Int) < 4) = true from rfl, cond_true, i3, Option.bind_some, o3, w3]
    obtain ⟨k, rfl⟩ : ∃ q, k = q + 1 := ⟨k - 1, by omega⟩
    simp only [octet_Reader_Number_L1, hp, l4, show decide ((4 : Int) < 4) = false from rfl, cond_false, Int.zero_mul, Int.zero_add]
  rw [g _ _ rfl]
theorem newReader_ok {k : Nat} (hk : 3 ≤ k) {l : List Int} (hl : l.length ≤ 1000000) : octet_NewReader k l = some (rdr l) := by
  obtain ⟨k, rfl⟩ : ∃ q, k = q + 2 := ⟨k - 2, by omega⟩
  have e : slices_Clone_byte (k + 1) l = some l := by
    cases l with
    | nil => rfl
    | cons x l =>
      have h : app ([] : List Int) (x :: l) = some ([] ++ (x :: l)) := app_ok (by simp only [maxList, List.length_nil]; omega)
      show slices_Clone_byte_c (k + 1) x l = _
      simp only [slices_Clone_byte_c, h, Option.bind_some, List.nil_append]
  rw [show k + 2 = (k + 1) + 1 from rfl]
  simp only [octet_NewReader, e, Option.bind_some]
  rfl
end Go.Sh

namespace Go.Sh
open Go.AE
set_option linter.unusedVariables false
set_option linter.unusedSimpArgs false
def mkP (b : List Int) (bad : Bool) : T_octet_Reader := { fmade := true, fb := b, fbad := bad }
def mkQ (b : List Int) (bad : Bool) : T_progenyref01_Reader := { fB := b, fBad := bad }
theorem takeP_bad {k : Nat} (hk : 2 ≤ k) (b : List Int) (n : Int) : octet_Reader_take k (mkP b true) n = some ([], 3, mkP b true) := by
  obtain ⟨k, rfl⟩ : ∃ q, k = q + 1 := ⟨k - 1, by omega⟩
  obtain ⟨k, rfl⟩ : ∃ q, k = q + 1 := ⟨k - 1, by omega⟩
  rfl
theorem takeP_short {k : Nat} (hk : 2 ≤ k) {b : List Int} {n : Int} (h : n > (b.length : Int)) : octet_Reader_take k (mkP b false) n = some ([], 3, mkP b true) := by
  obtain ⟨k, rfl⟩ : ∃ q, k = q + 1 := ⟨k - 1, by omega⟩
  obtain ⟨k, rfl⟩ : ∃ q, k = q + 1 := ⟨k - 1, by omega⟩
  show octet_Reader_take (k + 1 + 1) { fmade := true, fb := b, fbad := false } _ = _
  have hd : decide (n > (b.length : Int)) = true := decide_eq_true h
  simp only [octet_Reader_take, octet_Reader_none, Bool.not_true, Option.bind_some, cond_false]
  rw [hd]
  rfl
theorem takeQ_bad {k : Nat} (hk : 2 ≤ k) (b : List Int) (n : Int) : ref01_Reader_take k (mkQ b true) n = some ([], false, mkQ b true) := by
  obtain ⟨k, rfl⟩ : ∃ q, k = q + 1 := ⟨k - 1, by omega⟩
  rfl
theorem takeQ_short {k : Nat} (hk : 2 ≤ k) {b : List Int} {n : Int} (h : n > (b.length : Int)) : ref01_Reader_take k (mkQ b false) n = some ([], false, mkQ b true) := by
  obtain ⟨k, rfl⟩ : ∃ q, k = q + 1 := ⟨k - 1, by omega⟩
  show ref01_Reader_take (k + 1) { fB := b, fBad := false } _ = _
  have hd : decide (n > (b.length : Int)) = true := decide_eq_true h
  simp only [ref01_Reader_take, Option.bind_some, cond_false]
  rw [hd]
  rfl
theorem takeQ_ok {k : Nat} (hk : 2 ≤ k) (a b : List Int) : ref01_Reader_take k (mkQ (a ++ b) false) (a.length : Int) = some (a, true, mkQ b false) := by
  obtain ⟨k, rfl⟩ : ∃ q, k = q + 1 := ⟨k - 1, by omega⟩
  have hl : a.length ≤ (a ++ b).length := by rw [List.length_append]; omega
  show ref01_Reader_take (k + 1) { fB := a ++ b, fBad := false } _ = _
  have hd : decide ((a.length : Int) > ((a ++ b).length : Int)) = false := decide_eq_false (by omega)
  simp only [ref01_Reader_take, Option.bind_some, cond_false, cut_take hl, cut_drop hl, List.take_left, List.drop_left]
  rw [hd]
  rfl
def okB (b : List Int) : Prop := (∀ x ∈ b, isByte x) ∧ b.length ≤ 2000
theorem okB_tail {x : Int} {b : List Int} (h : okB (x :: b)) : isByte x ∧ okB b :=
  ⟨h.1 x List.mem_cons_self, fun y hy => h.1 y (List.mem_cons_of_mem _ hy), by have := h.2; simp only [List.length_cons] at this; omega⟩
theorem okB_right {a b : List Int} (h : okB (a ++ b)) : okB b :=
  ⟨fun y hy => h.1 y (List.mem_append_right _ hy), by have := h.2; rw [List.length_append] at this; omega⟩
/-- Either both take the same, or both find too little. -/
def Alike {α : Type} (z : α) (b : List Int) (p : Option (α × Int × T_octet_Reader)) (q : Option (α × Int × T_progenyref01_Reader)) : Prop :=
  (∃ v b', p = some (v, 0, mkP b' false) ∧ q = some (v, 0, mkQ b' false) ∧ okB b') ∨ (p = some (z, 3, mkP b true) ∧ q = some (z, 3, mkQ b true))
theorem small_bad {k : Nat} (hk : 3 ≤ k) (b : List Int) : octet_Reader_Small k (mkP b true) = some (0, 3, mkP b true) ∧ ref01_Reader_Small k (mkQ b true) = some (0, 3, mkQ b true) := by
  obtain ⟨k, rfl⟩ : ∃ q, k = q + 1 := ⟨k - 1, by omega⟩
  constructor
  · simp only [octet_Reader_Small, takeP_bad (show 2 ≤ k by omega), Option.bind_some]
    rfl
  · simp only [ref01_Reader_Small, takeQ_bad (show 2 ≤ k by omega), Option.bind_some]
    rfl
theorem small_nil {k : Nat} (hk : 3 ≤ k) : octet_Reader_Small k (mkP [] false) = some (0, 3, mkP [] true) ∧ ref01_Reader_Small k (mkQ [] false) = some (0, 3, mkQ [] true) := by
  obtain ⟨k, rfl⟩ : ∃ q, k = q + 1 := ⟨k - 1, by omega⟩
  have h : (1 : Int) > (([] : List Int).length : Int) := by simp
  constructor
  · simp only [octet_Reader_Small, takeP_short (show 2 ≤ k by omega) h, Option.bind_some]
    rfl
  · simp only [ref01_Reader_Small, takeQ_short (show 2 ≤ k by omega) h, Option.bind_some]
    rfl
theorem small_takeQ {k : Nat} (hk : 3 ≤ k) {x : Int} (hx : isByte x) (r : List Int) : ref01_Reader_Small k (mkQ (x :: r) false) = some (x, 0, mkQ r false) := by
  obtain ⟨k, rfl⟩ : ∃ q, k = q + 1 := ⟨k - 1, by omega⟩
  have h : ref01_Reader_take k (mkQ (x :: r) false) 1 = some ([x], true, mkQ r false) := takeQ_ok (k := k) (by omega) [x] r
  have hi : idx [x] 0 = some x := rfl
  have hw : Go.IntKind.wrap .i64 x = x := wrap_in (by have := hx.1; omega) (by have := hx.2; omega)
  simp only [ref01_Reader_Small, h, Option.bind_some, Bool.not_true, cond_false, hi, hw]
theorem small_alike {k : Nat} (hk : 3 ≤ k) {b : List Int} {bad : Bool} (hb : okB b) : Alike 0 b (octet_Reader_Small k (mkP b bad)) (ref01_Reader_Small k (mkQ b bad)) := by
  cases bad with
  | true => exact Or.inr (small_bad hk b)
  | false =>
    cases b with
    | nil => exact Or.inr (small_nil hk)
    | cons x r =>
      obtain ⟨hx, hr⟩ := okB_tail hb
      exact Or.inl ⟨x, r, small_take hk hx r, small_takeQ hk hx r, hr⟩
theorem number_bad {k : Nat} (hk : 10 ≤ k) (b : List Int) : octet_Reader_Number k (mkP b true) = some (0, 3, mkP b true) ∧ ref01_Reader_Number k (mkQ b true) = some (0, 3, mkQ b true) := by
  obtain ⟨k, rfl⟩ : ∃ q, k = q + 1 := ⟨k - 1, by omega⟩
  constructor
  · simp only [octet_Reader_Number, takeP_bad (show 2 ≤ k by omega), Option.bind_some]
    rfl
  · simp only [ref01_Reader_Number, takeQ_bad (show 2 ≤ k by omega), Option.bind_some]
    rfl
theorem number_short {k : Nat} (hk : 10 ≤ k) {b : List Int} (h : (4 : Int) > (b.length : Int)) : octet_Reader_Number k (mkP b false) = some (0, 3, mkP b true) ∧ ref01_Reader_Number k (mkQ b false) = some (0, 3, mkQ b true) := by
  obtain ⟨k, rfl⟩ : ∃ q, k = q + 1 := ⟨k - 1, by omega⟩
  constructor
  · simp only [octet_Reader_Number, takeP_short (show 2 ≤ k by omega) h, Option.bind_some]
    rfl
  · simp only [ref01_Reader_Number, takeQ_short (show 2 ≤ k by omega) h, Option.bind_some]
    rfl
theorem takeQ4 {k : Nat} (hk : 2 ≤ k) (a b c d : Int) (r : List Int) : ref01_Reader_take k (mkQ (a :: b :: c :: d :: r) false) 4 = some ([a, b, c, d], true, mkQ r false) := by
  have h := takeQ_ok hk [a, b, c, d] r
  have e1 : (([a, b, c, d] : List Int).length : Int) = 4 := rfl
  have e2 : [a, b, c, d] ++ r = a :: b :: c :: d :: r := rfl
  rw [e1, e2] at h
  exact h
theorem number_takeQ {k : Nat} (hk : 10 ≤ k) {a b c d : Int} (ha : isByte a) (hb : isByte b) (hc : isByte c) (hd : isByte d) (r : List Int) : ref01_Reader_Number k (mkQ (a :: b :: c :: d :: r) false) = some (((a * 256 + b) * 256 + c) * 256 + d, 0, mkQ r false) := by
  obtain ⟨k, rfl⟩ : ∃ q, k = q + 1 := ⟨k - 1, by omega⟩
  have h : ref01_Reader_take k (mkQ (a :: b :: c :: d :: r) false) 4 = some ([a, b, c, d], true, mkQ r false) := takeQ4 (by omega) a b c d r
  obtain ⟨a0, a1⟩ := ha
  obtain ⟨b0, b1⟩ := hb
  obtain ⟨c0, c1⟩ := hc
  obtain ⟨d0, d1⟩ := hd
  have i0 : idx [a, b, c, d] 0 = some a := rfl
  have i1 : idx [a, b, c, d] 1 = some b := rfl
  have i2 : idx [a, b, c, d] 2 = some c := rfl
  have i3 : idx [a, b, c, d] 3 = some d := rfl
  have w1 : Go.IntKind.wrap .i64 a = a := wrap_in (by omega) (by omega)
  have w2 : Go.IntKind.wrap .i64 b = b := wrap_in (by omega) (by omega)
  have w3 : Go.IntKind.wrap .i64 c = c := wrap_in (by omega) (by omega)
  have w4 : Go.IntKind.wrap .i64 d = d := wrap_in (by omega) (by omega)
  have v1 : Go.IntKind.wrap .i64 (a * 256) = a * 256 := wrap_in (by omega) (by omega)
  have v2 : Go.IntKind.wrap .i64 (a * 256 + b) = a * 256 + b := wrap_in (by omega) (by omega)
  have v3 : Go.IntKind.wrap .i64 ((a * 256 + b) * 256) = (a * 256 + b) * 256 := wrap_in (by omega) (by omega)
  have v4 : Go.IntKind.wrap .i64 ((a * 256 + b) * 256 + c) = (a * 256 + b) * 256 + c := wrap_in (by omega) (by omega)
  have v5 : Go.IntKind.wrap .i64 (((a * 256 + b) * 256 + c) * 256) = ((a * 256 + b) * 256 + c) * 256 := wrap_in (by omega) (by omega)
  have v6 : Go.IntKind.wrap .i64 (((a * 256 + b) * 256 + c) * 256 + d) = ((a * 256 + b) * 256 + c) * 256 + d := wrap_in (by omega) (by omega)
  simp only [ref01_Reader_Number, h, Option.bind_some, Bool.not_true, cond_false, i0, i1, i2, i3, w1, w2, w3, w4, v1, v2, v3, v4, v5, v6]
theorem number_alike {k : Nat} (hk : 10 ≤ k) {b : List Int} {bad : Bool} (hb : okB b) : Alike 0 b (octet_Reader_Number k (mkP b bad)) (ref01_Reader_Number k (mkQ b bad)) := by
  cases bad with
  | true => exact Or.inr (number_bad hk b)
  | false =>
    match b, hb with
    | [], _ => exact Or.inr (number_short hk (by simp))
    | [_], _ => exact Or.inr (number_short hk (by simp only [List.length_cons, List.length_nil]; omega))
    | [_, _], _ => exact Or.inr (number_short hk (by simp only [List.length_cons, List.length_nil]; omega))
    | [_, _, _], _ => exact Or.inr (number_short hk (by simp only [List.length_cons, List.length_nil]; omega))
    | a :: b :: c :: d :: r, hb =>
      obtain ⟨ha, h1⟩ := okB_tail hb
      obtain ⟨hb, h2⟩ := okB_tail h1
      obtain ⟨hc, h3⟩ := okB_tail h2
      obtain ⟨hd, h4⟩ := okB_tail h3
      exact Or.inl ⟨_, r, number_take hk ha hb hc hd r, number_takeQ hk ha hb hc hd r, h4⟩
theorem noneP {k : Nat} (hk : 1 ≤ k) (b : List Int) (bad : Bool) : octet_Reader_none k (mkP b bad) = some false := by
  obtain ⟨k, rfl⟩ : ∃ q, k = q + 1 := ⟨k - 1, by omega⟩
  rfl
theorem text_badP {k : Nat} (hk : 6 ≤ k) (b : List Int) : octet_Reader_Text k (mkP b true) = some ([], 3, mkP b true) := by
  obtain ⟨k, rfl⟩ : ∃ q, k = q + 1 := ⟨k - 1, by omega⟩
  simp only [octet_Reader_Text, noneP (show 1 ≤ k by omega), (small_bad (show 3 ≤ k by omega) b).1, takeP_bad (show 2 ≤ k by omega), Option.bind_some, cond_false]
  rfl
theorem text_badQ {k : Nat} (hk : 6 ≤ k) (b : List Int) : ref01_Reader_Text k (mkQ b true) = some ([], 3, mkQ b true) := by
  obtain ⟨k, rfl⟩ : ∃ q, k = q + 1 := ⟨k - 1, by omega⟩
  rfl
theorem cut_tail (x : Int) (a : List Int) : cut (x :: a) 1 ((x :: a).length : Int) = some a := by
  have h := cut_drop (l := x :: a) (i := 1) (by simp)
  exact h
theorem text_alike {k : Nat} (hk : 6 ≤ k) {b : List Int} {bad : Bool} (hb : okB b) : Alike [] b (octet_Reader_Text k (mkP b bad)) (ref01_Reader_Text k (mkQ b bad)) := by
  cases bad with
  | true => exact Or.inr ⟨text_badP hk b, text_badQ hk b⟩
  | false =>
    obtain ⟨k, rfl⟩ : ∃ q, k = q + 1 := ⟨k - 1, by omega⟩
    match b, hb with
    | [], _ =>
      refine Or.inr ⟨?_, ?_⟩
      · simp only [octet_Reader_Text, noneP (show 1 ≤ k by omega), (small_nil (show 3 ≤ k by omega)).1, takeP_bad (show 2 ≤ k by omega), Option.bind_some, cond_false]
        rfl
      · rfl
    | x :: r, hb =>
      obtain ⟨hx, hr⟩ := okB_tail hb
      obtain ⟨x0, x1⟩ := hx
      have hl := hr.2
      have s1 : octet_Reader_Small k (mkP (x :: r) false) = some (x, 0, mkP r false) := small_take (show 3 ≤ k by omega) ⟨x0, x1⟩ r
      have i0 : idx (x :: r) 0 = some x := rfl
      have w1 : Go.IntKind.wrap .i64 x = x := wrap_in (by omega) (by omega)
      have w2 : Go.IntKind.wrap .i64 (1 + x) = 1 + x := wrap_in (by omega) (by omega)
      have hlen : ((x :: r).length : Int) = (r.length : Int) + 1 := by simp only [List.length_cons]; omega
      by_cases h : x > (r.length : Int)
      · refine Or.inr ⟨?_, ?_⟩
        · simp only [octet_Reader_Text, noneP (show 1 ≤ k by omega), s1, takeP_short (show 2 ≤ k by omega) h, Option.bind_some, cond_false]
          rfl
        · show ref01_Reader_Text (k + 1) { fB := x :: r, fBad := false } = _
          have d1 : decide (((x :: r).length : Int) < 1) = false := decide_eq_false (by omega)
          have d2 : decide (((x :: r).length : Int) < 1 + x) = true := decide_eq_true (by omega)
          simp only [ref01_Reader_Text, cond_false, i0, Option.bind_some, w1, w2]
          rw [d1, d2]
          rfl
      · have hn : x.toNat ≤ r.length := by omega
        obtain ⟨a, t, hat, ha⟩ : ∃ a t : List Int, r = a ++ t ∧ (a.length : Int) = x := ⟨r.take x.toNat, r.drop x.toNat, (List.take_append_drop _ r).symm, by rw [List.length_take]; omega⟩
        subst hat
        refine Or.inl ⟨strB a, t, ?_, ?_, okB_right hr⟩
        · have t1 : octet_Reader_take k (mkP (a ++ t) false) x = some (a, 0, mkP t false) := by
            rw [← ha]; exact take_ok (show 2 ≤ k by omega) a t
          simp only [octet_Reader_Text, noneP (show 1 ≤ k by omega), s1, t1, Option.bind_some, cond_false, bne_self_eq_false]
        · have t1 : ref01_Reader_take k { fB := x :: (a ++ t), fBad := false } (1 + x) = some (x :: a, true, mkQ t false) := by
            have := takeQ_ok (show 2 ≤ k by omega) (x :: a) t
            rw [show (((x :: a).length : Nat) : Int) = 1 + x by simp only [List.length_cons]; omega] at this
            exact this
          show ref01_Reader_Text (k + 1) { fB := x :: (a ++ t), fBad := false } = _
          have d1 : decide (((x :: (a ++ t)).length : Int) < 1) = false := decide_eq_false (by omega)
          have d2 : decide (((x :: (a ++ t)).length : Int) < 1 + x) = false := decide_eq_false (by rw [hlen]; omega)
          simp only [ref01_Reader_Text, cond_false, i0, Option.bind_some, w1, w2]
          rw [d1, d2]
          simp only [cond_false, Option.bind_some, t1, cut_tail]
theorem textsP_bad {k : Nat} {n : Int} {r0 : T_octet_Reader} {N : Nat} {b0 : List Int} (hk : 10 ≤ k) (hn : n = (N : Int)) (hN : N ≤ 255) (b : List Int) : ∀ (d : Nat) (out : List Str) (i m : Nat), i + d = N → d < m → out.length = i →
    octet_Reader_Texts_L1 k (n, r0) (fun y16 _ y18 => bif y18.fbad then some ([], 3, { y18 with fb := b0 }) else some (y16, 0, y18)) m out (i : Int) (mkP b true) = some ([], 3, mkP b0 true)
  | 0, out, i, m, hi, hm, ho => by
    obtain ⟨m, rfl⟩ : ∃ q, m = q + 1 := ⟨m - 1, by omega⟩
    simp only [octet_Reader_Texts_L1, hn, decide_eq_false (show ¬ (i : Int) < (N : Int) by omega), cond_false]
    rfl
  | d + 1, out, i, m, hi, hm, ho => by
    obtain ⟨m, rfl⟩ : ∃ q, m = q + 1 := ⟨m - 1, by omega⟩
    have e : app out [([] : Str)] = some (out ++ [[]]) := app_ok (by simp only [maxList, List.length_cons, List.length_nil]; omega)
    have hw : Go.IntKind.wrap .i64 ((i : Int) + 1) = ((i + 1 : Nat) : Int) := by rw [wrap_in (by omega) (by omega)]; omega
    simp only [octet_Reader_Texts_L1, hn, decide_eq_true (show (i : Int) < (N : Int) by omega), cond_true, text_badP (show 6 ≤ k by omega), Option.bind_some, e, hw]
    have ih := textsP_bad (k := k) (n := n) (r0 := r0) (b0 := b0) hk hn hN b d (out ++ [[]]) (i + 1) m (by omega) (by omega) (by simp [ho])
    rw [hn] at ih
    exact ih
theorem texts_go {k : Nat} {n : Int} {r0 : T_octet_Reader} {e0 : Int} {q0 : T_progenyref01_Reader} {N : Nat} {b0 : List Int} {c0 : Bool} (hk : 10 ≤ k) (hn : n = (N : Int)) (hN : N ≤ 255) : ∀ (d : Nat) (out : List Str) (i m : Nat) (b : List Int), i + d = N → d < m → out.length = i → okB b →
    (∃ v b', v.length ≤ 255 ∧ octet_Reader_Texts_L1 k (n, r0) (fun y16 _ y18 => bif y18.fbad then some ([], 3, { y18 with fb := b0 }) else some (y16, 0, y18)) m out (i : Int) (mkP b false) = some (v, 0, mkP b' false) ∧ ref01_Reader_Texts_L1 k (mkQ b0 c0) (n, e0, q0) (fun y14 _ y16 => some (y14, 0, y16)) m out (i : Int) (mkQ b false) = some (v, 0, mkQ b' false) ∧ okB b') ∨
    (octet_Reader_Texts_L1 k (n, r0) (fun y16 _ y18 => bif y18.fbad then some ([], 3, { y18 with fb := b0 }) else some (y16, 0, y18)) m out (i : Int) (mkP b false) = some ([], 3, mkP b0 true) ∧ ref01_Reader_Texts_L1 k (mkQ b0 c0) (n, e0, q0) (fun y14 _ y16 => some (y14, 0, y16)) m out (i : Int) (mkQ b false) = some ([], 3, mkQ b0 true))
  | 0, out, i, m, b, hi, hm, ho, hb => by
    obtain ⟨m, rfl⟩ : ∃ q, m = q + 1 := ⟨m - 1, by omega⟩
    refine Or.inl ⟨out, b, by omega, ?_, ?_, hb⟩
    · simp only [octet_Reader_Texts_L1, hn, decide_eq_false (show ¬ (i : Int) < (N : Int) by omega), cond_false]
      rfl
    · simp only [ref01_Reader_Texts_L1, hn, decide_eq_false (show ¬ (i : Int) < (N : Int) by omega), cond_false]
  | d + 1, out, i, m, b, hi, hm, ho, hb => by
    obtain ⟨m, rfl⟩ : ∃ q, m = q + 1 := ⟨m - 1, by omega⟩
    have e : ∀ s : Str, app out [s] = some (out ++ [s]) := fun s => app_ok (by simp only [maxList, List.length_cons, List.length_nil]; omega)
    have hw : Go.IntKind.wrap .i64 ((i : Int) + 1) = ((i + 1 : Nat) : Int) := by rw [wrap_in (by omega) (by omega)]; omega
    simp only [octet_Reader_Texts_L1, ref01_Reader_Texts_L1, hn, decide_eq_true (show (i : Int) < (N : Int) by omega), cond_true]
    rcases text_alike (show 6 ≤ k by omega) (bad := false) hb with ⟨v, b', hp, hq, hb'⟩ | ⟨hp, hq⟩
    · rw [hp, hq]
      simp only [Option.bind_some, bne_self_eq_false, cond_false, e, hw]
      have ih := texts_go (k := k) (n := n) (r0 := r0) (e0 := e0) (q0 := q0) (b0 := b0) (c0 := c0) hk hn hN d (out ++ [v]) (i + 1) m b' (by omega) (by omega) (by simp [ho]) hb'
      rw [hn] at ih
      exact ih
    · rw [hp, hq]
      refine Or.inr ⟨?_, ?_⟩
      · simp only [Option.bind_some, e, hw]
        have ih := textsP_bad (k := k) (n := n) (r0 := r0) (b0 := b0) hk hn hN b d (out ++ [[]]) (i + 1) m (by omega) (by omega) (by simp [ho])
        rw [hn] at ih
        exact ih
      · rfl
theorem texts_alike {k : Nat} (hk : 1000 ≤ k) {b : List Int} {bad : Bool} (hb : okB b) : (∃ v b', v.length ≤ 255 ∧ octet_Reader_Texts k (mkP b bad) = some (v, 0, mkP b' false) ∧ ref01_Reader_Texts k (mkQ b bad) = some (v, 0, mkQ b' false) ∧ okB b') ∨
    (octet_Reader_Texts k (mkP b bad) = some ([], 3, mkP b true) ∧ ref01_Reader_Texts k (mkQ b bad) = some ([], 3, mkQ b true)) := by
  obtain ⟨k, rfl⟩ : ∃ q, k = q + 1 := ⟨k - 1, by omega⟩
  simp only [octet_Reader_Texts, ref01_Reader_Texts, noneP (show 1 ≤ k by omega), Option.bind_some, cond_false]
  have hbad : octet_Reader_Texts_L1 k ((0 : Int), mkP b true) (fun y16 _ y18 => bif y18.fbad then some ([], 3, { y18 with fb := b }) else some (y16, 0, y18)) k [] 0 (mkP b true) = some ([], 3, mkP b true) :=
    textsP_bad (k := k) (n := 0) (N := 0) (by omega) rfl (by omega) b 0 [] 0 k rfl (by omega) rfl
  cases bad with
  | true =>
    refine Or.inr ⟨?_, ?_⟩
    · rw [(small_bad (show 3 ≤ k by omega) b).1]
      exact hbad
    · rw [(small_bad (show 3 ≤ k by omega) b).2]
      rfl
  | false =>
    match b, hb with
    | [], _ =>
      refine Or.inr ⟨?_, ?_⟩
      · rw [(small_nil (show 3 ≤ k by omega)).1]
        exact hbad
      · rw [(small_nil (show 3 ≤ k by omega)).2]
        rfl
    | x :: r, hb =>
      obtain ⟨hx, hr⟩ := okB_tail hb
      obtain ⟨x0, x1⟩ := hx
      have s1 : octet_Reader_Small k (mkP (x :: r) false) = some (x, 0, mkP r false) := small_take (show 3 ≤ k by omega) ⟨x0, x1⟩ r
      rw [s1, small_takeQ (show 3 ≤ k by omega) ⟨x0, x1⟩ r]
      simp only [Option.bind_some, bne_self_eq_false, cond_false]
      exact texts_go (k := k) (n := x) (r0 := mkP r false) (e0 := 0) (q0 := mkQ r false) (N := x.toNat) (b0 := x :: r) (c0 := false) (by omega) (by omega) (by omega) x.toNat [] 0 k r (by omega) (by omega) rfl hr
theorem after {k : Nat} (hk : 10 ≤ k) (b : List Int) (bad : Bool) :
    ((octet_Reader_Left k (mkP b bad)).bind fun v58 => (bif (v58 != ((mkQ b bad).fB.length : Int)) then (some (true)) else ((octet_Reader_Bad k (mkP b bad)).bind fun v59 => (bif (!(v59 == (mkQ b bad).fBad)) then (some (true)) else ((octet_Reader_Done k (mkP b bad)).bind fun v60 => (bif (!(mkQ b bad).fBad) then (some ((!(v60 == (((mkQ b bad).fB.length : Int) == 0))))) else (some ((!(v60 == false)))))))))) = some false := by
  obtain ⟨k, rfl⟩ : ∃ q, k = q + 1 := ⟨k - 1, by omega⟩
  obtain ⟨k, rfl⟩ : ∃ q, k = q + 1 := ⟨k - 1, by omega⟩
  obtain ⟨k, rfl⟩ : ∃ q, k = q + 1 := ⟨k - 1, by omega⟩
  have h1 : octet_Reader_Left (k + 1 + 1 + 1) (mkP b bad) = some (b.length : Int) := rfl
  have h2 : octet_Reader_Bad (k + 1 + 1 + 1) (mkP b bad) = some bad := rfl
  have h3 : octet_Reader_Done (k + 1 + 1 + 1) (mkP b bad) = some (!bad && ((b.length : Int) == 0)) := by cases bad <;> rfl
  simp only [h1, h2, h3, Option.bind_some, mkQ, bne_self_eq_false, beq_self_eq_true, Bool.not_true, cond_false]
  cases bad with
  | true => rfl
  | false => simp only [Bool.not_false, cond_true, Bool.true_and, beq_self_eq_true, Bool.not_true]
theorem reads_L1 {k : Nat} {asks : List Int} {K : Int → T_octet_Reader → T_progenyref01_Reader → Option Bool} (hk : 1000 ≤ k) (hk2 : 300 ≤ k) (hn : asks.length ≤ 40) (hK : ∀ x y z, K x y z = some true) : ∀ (d i m : Nat) (b : List Int) (bad : Bool), i + d = asks.length → d < m → okB b →
    law01_OctetReads_L1 k asks K m (i : Int) (mkP b bad) (mkQ b bad) = some true
  | 0, i, m, b, bad, hi, hm, hb => by
    obtain ⟨m, rfl⟩ : ∃ q, m = q + 1 := ⟨m - 1, by omega⟩
    simp only [law01_OctetReads_L1, decide_eq_false (show ¬ (i : Int) < (asks.length : Int) by omega), cond_false, hK]
  | d + 1, i, m, b, bad, hi, hm, hb => by
    obtain ⟨m, rfl⟩ : ∃ q, m = q + 1 := ⟨m - 1, by omega⟩
    have hi' : i < asks.length := by omega
    have hw : Go.IntKind.wrap .i64 ((i : Int) + 1) = ((i + 1 : Nat) : Int) := by rw [wrap_in (by omega) (by omega)]; omega
    have hr : ∀ v : Int, remE v 4 = some (v.tmod 4) := fun v => rfl
    have ih := fun b bad hb => reads_L1 (k := k) (asks := asks) (K := K) hk hk2 hn hK d (i + 1) m b bad (by omega) (by omega) hb
    simp only [law01_OctetReads_L1, decide_eq_true (show (i : Int) < (asks.length : Int) by omega), cond_true, idx_at hi', Option.bind_some, hr, hw]
    cases asks[i].tmod 4 == 0 with
    | true =>
      rcases small_alike (show 3 ≤ k by omega) (bad := bad) hb with ⟨v, b', hp, hq, hb'⟩ | ⟨hp, hq⟩
      · rw [hp, hq]
        simp only [Option.bind_some, cond_true, cond_false, beq_self_eq_true, Bool.not_true, after (show 10 ≤ k by omega), ih _ _ hb']
      · rw [hp, hq]
        simp only [Option.bind_some, cond_true, cond_false, beq_self_eq_true, Bool.not_true, after (show 10 ≤ k by omega), ih _ _ hb]
    | false =>
    simp only [cond_false]
    cases asks[i].tmod 4 == 1 with
    | true =>
      rcases number_alike (show 10 ≤ k by omega) (bad := bad) hb with ⟨v, b', hp, hq, hb'⟩ | ⟨hp, hq⟩
      · rw [hp, hq]
        simp only [Option.bind_some, cond_true, cond_false, beq_self_eq_true, Bool.not_true, after (show 10 ≤ k by omega), ih _ _ hb']
      · rw [hp, hq]
        simp only [Option.bind_some, cond_true, cond_false, beq_self_eq_true, Bool.not_true, after (show 10 ≤ k by omega), ih _ _ hb]
    | false =>
    simp only [cond_false]
    cases asks[i].tmod 4 == 2 with
    | true =>
      rcases text_alike (show 6 ≤ k by omega) (bad := bad) hb with ⟨v, b', hp, hq, hb'⟩ | ⟨hp, hq⟩
      · rw [hp, hq]
        simp only [Option.bind_some, cond_true, cond_false, beq_self_eq_true, Bool.not_true, after (show 10 ≤ k by omega), ih _ _ hb']
      · rw [hp, hq]
        simp only [Option.bind_some, cond_true, cond_false, beq_self_eq_true, Bool.not_true, after (show 10 ≤ k by omega), ih _ _ hb]
    | false =>
    simp only [cond_false]
    rcases texts_alike hk (bad := bad) hb with ⟨v, b', hv, hp, hq, hb'⟩ | ⟨hp, hq⟩
    · rw [hp, hq]
      simp only [Option.bind_some, cond_true, cond_false, beq_self_eq_true, Bool.not_true, sameTexts_refl (show v.length + 2 ≤ k by omega) (show v.length ≤ maxLen by have := maxLen_eq; omega), after (show 10 ≤ k by omega), ih _ _ hb']
    · rw [hp, hq]
      simp only [Option.bind_some, cond_true, cond_false, beq_self_eq_true, Bool.not_true, sameTexts_refl (show ([] : List Str).length + 2 ≤ k by simp only [List.length_nil]; omega) (Nat.zero_le _), after (show 10 ≤ k by omega), ih _ _ hb]
theorem law_law01_OctetReads (l asks : List Int) (hl : wfL (wfI .u8) l) (ha : wfL (wfI .u8) asks) : ∃ k, law01_OctetReads k l asks = some true := by
  obtain ⟨k, hk1⟩ : ∃ k, maxLen + 59 ≤ k := ⟨_, Nat.le_refl _⟩
  have hk2 : 100000000 ≤ k := by have := maxLen_eq; omega
  refine ⟨k + 1, ?_⟩
  have h5 := first01 (k := k) (by omega)
  simp only [law01_OctetReads, h5, Option.bind_some]
  cases g4 : decide ((l.length : Int) > 2000) with
  | true => rfl
  | false =>
  cases g5 : decide ((asks.length : Int) > 40) with
  | true => rfl
  | false =>
  rw [decide_eq_false_iff_not] at g4 g5
  have r1 := newReader_ok (k := k) (by omega) (l := l) (by omega)
  have r2 : ref01_NewReader k l = some (mkQ l false) := by
    obtain ⟨k, rfl⟩ : ∃ q, k = q + 1 := ⟨k - 1, by omega⟩
    have e : app ([] : List Int) l = some ([] ++ l) := app_ok (by simp only [maxList, List.length_nil]; omega)
    simp only [ref01_NewReader, e, Option.bind_some, List.nil_append]
    rfl
  simp only [cond_false, Option.bind_some, r1, r2]
  have hb : okB l := ⟨fun x hx => byte_of_wf (hl.2 x hx), by omega⟩
  exact reads_L1 (k := k) (by omega) (by omega) (by omega) (fun _ _ _ => rfl) asks.length 0 k l false (by omega) (by omega) hb
end Go.Sh

