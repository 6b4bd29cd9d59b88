/- The functions as functions on lists, and what they come to: no program in sight. Conditions: those that each theorem names. -/
import Derived.Test.YteecoopnleidaaaDoorA3
import Derived.IntWalk
import Derived.Lib.SplitLaws
namespace Go.Sh
open Go.AE (idx idxS cut cat app upTo inB sameLen revInt wfI wfS wfL wfT mkN repS repL joinS cmpB idxB quoI remE shlI shrI andI orI xorI catL bytesB itoa1 repG)
set_option linter.unusedVariables false
abbrev Str := List UInt8
structure T_arr2_Int where
  e0 : Int
  e1 : Int
  deriving DecidableEq
structure T_octet_Reader where
  fmade : Bool
  fb : (List Int)
  fbad : Bool
  deriving DecidableEq
def wf_T_arr2_Int (a : T_arr2_Int) : Prop := (wfI .i64) a.e0 ∧ (wfI .i64) a.e1 ∧ wfT ()
def wf_T_octet_Reader (a : T_octet_Reader) : Prop := wfT a.fmade ∧ (wfL (wfI .u8)) a.fb ∧ wfT a.fbad ∧ wfT ()
def octet_Small : Nat → (Int) → Option ((List Int) × Int)
  | 0, _ => none
  | k + 1, a0 =>
    ((bif (decide (a0 < 0)) then (some (true)) else (some ((decide (a0 > 255))))).bind fun o1 =>
      (bif o1 then (some (([] : List Int), 2)) else
      (some (([(Go.IntKind.wrap .u8 a0)] : List Int), 0))))
def octet_Number : Nat → (Int) → Option ((List Int) × Int)
  | 0, _ => none
  | k + 1, a0 =>
    ((bif (decide (a0 < 0)) then (some (true)) else (some ((decide (a0 > 4294967295))))).bind fun o1 =>
      (bif o1 then (some (([] : List Int), 2)) else
      (((shrI .i64 a0 24).bind fun v2 => ((shrI .i64 a0 16).bind fun v3 => ((shrI .i64 a0 8).bind fun v4 => (some (([(Go.IntKind.wrap .u8 v2), (Go.IntKind.wrap .u8 v3), (Go.IntKind.wrap .u8 v4), (Go.IntKind.wrap .u8 a0)] : List Int), 0))))).bind fun o5 =>
        (some (o5.1, o5.2)))))
def octet_Text : Nat → (Str) → Option ((List Int) × Int)
  | 0, _ => none
  | k + 1, a0 =>
    (bif (decide ((a0.length : Int) > 255)) then (some (([] : List Int), 2)) else
      (((app ([(Go.IntKind.wrap .u8 (a0.length : Int))] : List Int) (bytesB a0)).bind fun v1 => (some (v1, 0))).bind fun o2 =>
        (some (o2.1, o2.2))))
def octet_Texts_L1 (k : Nat) (a0 : (List Str))  (K0 : (List Int) → Int → Option ((List Int) × Int)) : Nat → (List Int) → Int → Option ((List Int) × Int)
  | 0, _, _ => none
  | m + 1, x7, x8 =>
    (bif (decide (x8 < (a0.length : Int))) then ((idx a0 x8).bind fun o10 =>
          (((octet_Text k o10).bind fun v11 => (some (v11.1, v11.2))).bind fun o12 =>
          (bif (o12.2 != 0) then (some (([] : List Int), o12.2)) else
          ((app x7 o12.1).bind fun o14 =>
            (octet_Texts_L1 k a0 K0 m o14 (Go.IntKind.wrap .i64 (x8 + 1))))))) else
        (K0 x7 x8))
def octet_Texts : Nat → ((List Str)) → Option ((List Int) × Int)
  | 0, _ => none
  | k + 1, a0 =>
    (bif (decide ((a0.length : Int) > 255)) then (some (([] : List Int), 2)) else
      (octet_Texts_L1 k a0 (fun y15 y16 =>
        (some (y15, 0))) k ([(Go.IntKind.wrap .u8 (a0.length : Int))] : List Int) 0))
def law01_Large_L1 (a0 : (List Str))  (K0 : Int → Option Bool) : Nat → Int → Option Bool
  | 0, _ => none
  | m + 1, x3 =>
    (bif (decide (x3 < (a0.length : Int))) then (((idx a0 x3).bind fun v4 => (some ((decide ((v4.length : Int) > 300))))).bind fun o5 =>
          (bif o5 then (some true) else
          (law01_Large_L1 a0 K0 m (Go.IntKind.wrap .i64 (x3 + 1))))) else
        (K0 x3))
def law01_Large : Nat → ((List Str)) → Option Bool
  | 0, _ => none
  | k + 1, a0 =>
    (law01_Large_L1 a0 (fun y6 =>
      (some (decide ((a0.length : Int) > 300)))) k 0)
def strconv_Itoa : Nat → Int → Option Str
  | 0, _ => none
  | _ + 1, n => itoa1 n
def strings_Repeat : Nat → Str → Int → Option Str
  | 0, _, _ => none
  | _ + 1, s, n => repS s n
def octet_Digits : Nat → (Int) → (Int) → Option (Str × Int)
  | 0, _, _ => none
  | k + 1, a0, a1 =>
    ((strconv_Itoa k a0).bind fun o2 =>
      ((bif (decide (a0 < 0)) then (some (true)) else (bif (decide (a1 < 1)) then (some (true)) else (bif (decide (a1 > 9)) then (some (true)) else (some ((decide ((o2.length : Int) > a1))))))).bind fun o3 =>
      (bif o3 then (some (([] : Str), 2)) else
      (((strings_Repeat k ([48] : Str) (Go.IntKind.wrap .i64 (a1 - (o2.length : Int)))).bind fun v4 => ((cat v4 o2).bind fun v5 => (some (v5, 0)))).bind fun o6 =>
        (some (o6.1, o6.2))))))
def octet_Pad : Nat → (Str) → (Int) → Option (Str × Int)
  | 0, _, _ => none
  | k + 1, a0, a1 =>
    ((bif (decide (a1 < (a0.length : Int))) then (some (true)) else (some ((decide (a1 > 255))))).bind fun o1 =>
      (bif o1 then (some (([] : Str), 2)) else
      (((strings_Repeat k ([32] : Str) (Go.IntKind.wrap .i64 (a1 - (a0.length : Int)))).bind fun v2 => ((cat a0 v2).bind fun v3 => (some (v3, 0)))).bind fun o4 =>
        (some (o4.1, o4.2)))))
def strings_ReplaceAll : Nat → Str → Str → Str → Option Str
  | 0, _, _, _ => none
  | _ + 1, s, o, n => repG s o n
def octet_Key_L1 (k : Nat) (a0 : (List Str))  (K0 : (List Int) → Int → Option (List Int)) : Nat → (List Int) → Int → Option (List Int)
  | 0, _, _ => none
  | m + 1, x8, x9 =>
    (bif (decide (x9 < (a0.length : Int))) then ((idx a0 x9).bind fun o11 =>
          (((strings_ReplaceAll k o11 ([0] : Str) ([0, 255] : Str)).bind fun v12 => (app x8 (bytesB v12))).bind fun o14 =>
          ((app o14 ([0, 1] : List Int)).bind fun o16 =>
          (octet_Key_L1 k a0 K0 m o16 (Go.IntKind.wrap .i64 (x9 + 1)))))) else
        (K0 x8 x9))
def octet_Key : Nat → ((List Str)) → Option (List Int)
  | 0, _ => none
  | k + 1, a0 =>
    (octet_Key_L1 k a0 (fun y17 y18 =>
      (some y17)) k ([] : List Int) 0)
def law01_First : Nat → Option Bool
  | _ + 5 => some true
  | _ => none
def slices_Clone_byte_c : Nat → (Int) → ((List Int)) → Option (List Int)
  | 0, _, _ => none
  | k + 1, y, l =>
    ((app ([] : List Int) (y :: l)).bind fun o2 =>
      (some o2))
def slices_Clone_byte : Nat → List Int → Option (List Int)
  | 0, _ => none
  | _ + 1, [] => some []
  | k + 1, y :: l => slices_Clone_byte_c (k + 1) y l
def octet_NewReader : Nat → ((List Int)) → Option T_octet_Reader
  | 0, _ => none
  | k + 1, a0 =>
    (((slices_Clone_byte k a0).bind fun v1 => (some (({ fmade := true, fb := v1, fbad := false } : T_octet_Reader)))).bind fun o2 =>
      (some o2))
def octet_Reader_none : Nat → (T_octet_Reader) → Option Bool
  | 0, _ => none
  | k + 1, a0 =>
    (some (!a0.fmade))
def octet_Reader_take : Nat → (T_octet_Reader) → (Int) → Option ((List Int) × Int × T_octet_Reader)
  | 0, _, _ => none
  | k + 1, a0, a1 =>
    ((octet_Reader_none k a0).bind fun o2 =>
      (bif o2 then (some (([] : List Int), 6, a0)) else
      ((bif a0.fbad then (some (true)) else (some ((decide (a1 > (a0.fb.length : Int)))))).bind fun o3 =>
        (bif o3 then (some (([] : List Int), 3, { a0 with fbad := true })) else
        ((cut a0.fb 0 a1).bind fun o5 =>
          (((cut a0.fb a1 (a0.fb.length : Int)).bind fun v6 => (some ({ a0 with fb := v6 }))).bind fun o7 =>
          (some (o5, 0, o7))))))))
def octet_Reader_Small : Nat → (T_octet_Reader) → Option (Int × Int × T_octet_Reader)
  | 0, _ => none
  | k + 1, a0 =>
    (((octet_Reader_take k a0 1).bind fun v1 => (some (v1.1, v1.2.1, v1.2.2))).bind fun o2 =>
      (bif (o2.2.1 != 0) then (some (0, o2.2.1, o2.2.2)) else
      (((idx o2.1 0).bind fun v3 => (some ((Go.IntKind.wrap .i64 v3), 0))).bind fun o4 =>
        (some (o4.1, o4.2, o2.2.2)))))
def octet_Reader_Number_L1 (o2 : (List Int) × Int × T_octet_Reader)  (K0 : Int → Int → Option (Int × Int × T_octet_Reader)) : Nat → Int → Int → Option (Int × Int × T_octet_Reader)
  | 0, _, _ => none
  | m + 1, x7, x8 =>
    (bif (decide (x8 < (o2.1.length : Int))) then ((idx o2.1 x8).bind fun o10 =>
          (((shlI .i64 x7 8).bind fun v11 => (some ((orI .i64 v11 (Go.IntKind.wrap .i64 o10))))).bind fun o12 =>
          (octet_Reader_Number_L1 o2 K0 m o12 (Go.IntKind.wrap .i64 (x8 + 1))))) else
        (K0 x7 x8))
def octet_Reader_Number : Nat → (T_octet_Reader) → Option (Int × Int × T_octet_Reader)
  | 0, _ => none
  | k + 1, a0 =>
    (((octet_Reader_take k a0 4).bind fun v1 => (some (v1.1, v1.2.1, v1.2.2))).bind fun o2 =>
      (bif (o2.2.1 != 0) then (some (0, o2.2.1, o2.2.2)) else
      (octet_Reader_Number_L1 o2 (fun y13 y14 =>
        (some (y13, 0, o2.2.2))) k 0 0)))
def octet_Reader_Text : Nat → (T_octet_Reader) → Option (Str × Int × T_octet_Reader)
  | 0, _ => none
  | k + 1, a0 =>
    ((octet_Reader_none k a0).bind fun o2 =>
      (bif o2 then (some (([] : Str), 6, a0)) else
      (((octet_Reader_Small k a0).bind fun v3 => (some (v3.1, v3.2.2))).bind fun o4 =>
        (((octet_Reader_take k o4.2 o4.1).bind fun v5 => (some (v5.1, v5.2.1, v5.2.2))).bind fun o6 =>
        (bif (o6.2.1 != 0) then (some (([] : Str), o6.2.1, { o6.2.2 with fb := a0.fb })) else
        (some ((Go.AE.strB o6.1), 0, o6.2.2)))))))
def octet_Reader_Texts_L1 (k : Nat) (o4 : Int × T_octet_Reader)  (K0 : (List Str) → Int → T_octet_Reader → Option ((List Str) × Int × T_octet_Reader)) : Nat → (List Str) → Int → T_octet_Reader → Option ((List Str) × Int × T_octet_Reader)
  | 0, _, _, _ => none
  | m + 1, x9, x10, x11 =>
    (bif (decide (x10 < o4.1)) then (((octet_Reader_Text k x11).bind fun v12 => (some (v12.1, v12.2.2))).bind fun o13 =>
          ((app x9 ([o13.1] : List Str)).bind fun o15 =>
          (octet_Reader_Texts_L1 k o4 K0 m o15 (Go.IntKind.wrap .i64 (x10 + 1)) o13.2))) else
        (K0 x9 x10 x11))
def octet_Reader_Texts : Nat → (T_octet_Reader) → Option ((List Str) × Int × T_octet_Reader)
  | 0, _ => none
  | k + 1, a0 =>
    ((octet_Reader_none k a0).bind fun o2 =>
      (bif o2 then (some (([] : List Str), 6, a0)) else
      (((octet_Reader_Small k a0).bind fun v3 => (some (v3.1, v3.2.2))).bind fun o4 =>
        (octet_Reader_Texts_L1 k o4 (fun y16 y17 y18 =>
        (bif y18.fbad then (some (([] : List Str), 3, { y18 with fb := a0.fb })) else
          (some (y16, 0, y18)))) k ([] : List Str) 0 o4.2))))
def ref01_SameTexts_L1 (a0 : (List Str)) (a1 : (List Str))  (K0 : Int → Option Bool) : Nat → Int → Option Bool
  | 0, _ => none
  | m + 1, x4 =>
    (bif (decide (x4 < (a0.length : Int))) then (((idx a0 x4).bind fun v5 => ((idx a1 x4).bind fun v6 => (some ((!(v5 == v6)))))).bind fun o7 =>
          (bif o7 then (some false) else
          (ref01_SameTexts_L1 a0 a1 K0 m (Go.IntKind.wrap .i64 (x4 + 1))))) else
        (K0 x4))
def ref01_SameTexts : Nat → ((List Str)) → ((List Str)) → Option Bool
  | 0, _, _ => none
  | k + 1, a0, a1 =>
    (bif ((a0.length : Int) != (a1.length : Int)) then (some false) else
      (ref01_SameTexts_L1 a0 a1 (fun y8 =>
        (some true)) k 0))
def octet_Reader_Left : Nat → (T_octet_Reader) → Option Int
  | 0, _ => none
  | k + 1, a0 =>
    ((octet_Reader_none k a0).bind fun o2 =>
      (bif o2 then (some 0) else
      (some (a0.fb.length : Int))))
def law01_OctetBack : Nat → (T_arr2_Int) → ((List Str)) → ((List Int)) → Option Bool
  | 0, _, _, _ => none
  | k + 1, a0, a1, a2 =>
    (((octet_Small k a0.e0).bind fun v1 => (some (v1.1, v1.2))).bind fun o2 =>
      (((octet_Number k a0.e1).bind fun v3 => (some (v3.1, v3.2))).bind fun o4 =>
      (((octet_Texts k a1).bind fun v5 => (some (v5.1, v5.2))).bind fun o6 =>
      ((bif (o2.2 != 0) then (some (true)) else (bif (o4.2 != 0) then (some (true)) else (bif (o6.2 != 0) then (some (true)) else ((law01_Large k a1).bind fun v7 => (bif v7 then (some (true)) else (some ((decide ((a2.length : Int) > 1000))))))))).bind fun o8 =>
      (bif o8 then ((law01_First k).bind fun o10 =>
        (some o10)) else
      (((app ([] : List Int) o2.1).bind fun v11 => ((app v11 o4.1).bind fun v12 => ((app v12 o6.1).bind fun v13 => (app v13 a2)))).bind fun o15 =>
        ((octet_NewReader k o15).bind fun o17 =>
        (((octet_Reader_Small k o17).bind fun v18 => (some (v18.2.1, v18.1, v18.2.2))).bind fun o19 =>
        (((octet_Reader_Number k o19.2.2).bind fun v20 => (some (v20.2.1, v20.1, v20.2.2))).bind fun o21 =>
        (((octet_Reader_Texts k o21.2.2).bind fun v22 => (some (v22.2.1, v22.1, v22.2.2))).bind fun o23 =>
        ((bif (o19.1 == 0) then (bif (o21.1 == 0) then (bif (o23.1 == 0) then (bif (o19.2.1 == a0.e0) then (bif (o21.2.1 == a0.e1) then ((ref01_SameTexts k o23.2.1 a1).bind fun v24 => (bif v24 then ((octet_Reader_Left k o23.2.2).bind fun v25 => (bif (v25 == (a2.length : Int)) then (law01_First k) else (some (false)))) else (some (false)))) else (some (false))) else (some (false))) else (some (false))) else (some (false))) else (some (false))).bind fun o27 =>
        (some o27))))))))))))
end Go.Sh
namespace Go.Sh
open Go.AE
set_option linter.unusedVariables false
theorem maxLen_eq : maxLen = 9223372036854775807 := rfl
theorem wrap_in {x : Int} (h : -9223372036854775808 ≤ x) (h' : x ≤ 9223372036854775807) : Go.IntKind.wrap .i64 x = x := IntWalk.i64_in x ⟨h, h'⟩
theorem wrap_next {i n : Nat} (h : i < n) (hn : n ≤ maxLen) : Go.IntKind.wrap .i64 ((i : Int) + 1) = ((i + 1 : Nat) : Int) := by
  rw [wrap_in] <;> (try rw [maxLen_eq] at hn) <;> omega
theorem idx_at {α : Type} {l : List α} {i : Nat} (h : i < l.length) : idx l (i : Int) = some l[i] := by
  unfold idx
  rw [if_pos (by omega), Int.toNat_natCast, List.getElem?_eq_getElem h]
theorem cut_take {α : Type} {l : List α} {i : Nat} (h : i ≤ l.length) : cut l 0 (i : Int) = some (l.take i) := by
  unfold cut
  rw [if_pos ⟨by omega, by omega, by omega⟩]
  simp
theorem app_ok {α : Type} {l m : List α} (h : l.length + m.length ≤ maxList) : app l m = some (l ++ m) := by
  unfold app; rw [if_pos h]
end Go.Sh

namespace Go.Sh
open Go.AE
set_option linter.unusedVariables false
set_option linter.unusedSimpArgs false
theorem wrap8 (n : Int) : Go.IntKind.wrap .u8 n = n % 256 := by
  unfold Go.IntKind.wrap
  rfl
def largeL (l : List Str) : Bool := l.any (fun s => decide ((s.length : Int) > 300)) || decide ((l.length : Int) > 300)
theorem large01_ok {k : Nat} {l : List Str} (hk : maxLen + 2 ≤ k) (hl : l.length ≤ maxLen) : law01_Large k l = some (largeL l) := by
  obtain ⟨k, rfl⟩ : ∃ q, k = q + 1 := ⟨k - 1, by omega⟩
  have main : ∀ d i m : Nat, i + d = l.length → d < m → law01_Large_L1 l (fun _ => some (decide ((l.length : Int) > 300))) m (i : Int) = some ((l.drop i).any (fun s => decide ((s.length : Int) > 300)) || decide ((l.length : Int) > 300)) := by
    intro d
    induction d with
    | zero =>
      intro i m hd hm
      obtain ⟨m, rfl⟩ : ∃ q, m = q + 1 := ⟨m - 1, by omega⟩
      obtain rfl : i = l.length := by omega
      simp only [law01_Large_L1, show decide ((l.length : Int) < (l.length : Int)) = false by simp, cond_false, List.drop_length, List.any_nil, Bool.false_or]
    | succ d ih =>
      intro i m hd hm
      obtain ⟨m, rfl⟩ : ∃ q, m = q + 1 := ⟨m - 1, by omega⟩
      have hi : i < l.length := by omega
      simp only [law01_Large_L1, show decide ((i : Int) < (l.length : Int)) = true by simp; exact hi, cond_true, idx_at hi, Option.bind_some, wrap_next hi hl]
      rw [ih (i + 1) m (by omega) (by omega), List.drop_eq_getElem_cons hi, List.any_cons]
      cases decide ((l[i].length : Int) > 300) <;> rfl
  exact main l.length 0 k (by omega) (by omega)
def textOf (s : Str) : List Int × Int := bif decide ((s.length : Int) > 255) then ([], 2) else ((s.length : Int) % 256 :: bytesB s, 0)
theorem bytesB_len (s : Str) : (bytesB s).length = s.length := by
  unfold bytesB
  rw [List.length_map]
theorem octet_Text_ok {k : Nat} {s : Str} (hk : 1 ≤ k) (hs : s.length ≤ 300) : octet_Text k s = some (textOf s) := by
  obtain ⟨k, rfl⟩ : ∃ q, k = q + 1 := ⟨k - 1, by omega⟩
  have e : app ([(s.length : Int) % 256] : List Int) (bytesB s) = some ([(s.length : Int) % 256] ++ bytesB s) := app_ok (by rw [bytesB_len]; simp only [List.length_cons, List.length_nil, maxList]; omega)
  simp only [octet_Text, wrap8, e, Option.bind_some, textOf]
  cases decide ((s.length : Int) > 255) <;> rfl
def textsGo : List Int → List Str → List Int × Int
  | out, [] => (out, 0)
  | out, s :: r => bif (textOf s).2 != 0 then ([], (textOf s).2) else textsGo (out ++ (textOf s).1) r
def textsOf (l : List Str) : List Int × Int := bif decide ((l.length : Int) > 255) then ([], 2) else textsGo [(l.length : Int) % 256] l
theorem textOf_len (s : Str) (hs : s.length ≤ 300) : (textOf s).1.length ≤ 301 := by
  unfold textOf
  cases decide ((s.length : Int) > 255)
  · simp only [cond_false, List.length_cons, bytesB_len]; omega
  · simp only [cond_true, List.length_nil]; omega
def numOf (n : Int) : List Int × Int := bif decide (n < 0) || decide (n > 4294967295) then ([], 2) else ([n / 16777216 % 256, n / 65536 % 256, n / 256 % 256, n % 256], 0)
theorem octet_Number_ok {k : Nat} (hk : 1 ≤ k) (n : Int) : octet_Number k n = some (numOf n) := by
  obtain ⟨k, rfl⟩ : ∃ q, k = q + 1 := ⟨k - 1, by omega⟩
  have e1 : shrI .i64 n 24 = some (n / 16777216) := by
    unfold shrI
    rw [if_neg (by omega)]
    exact congrArg some (Int.fdiv_eq_ediv_of_nonneg n (by decide))
  have e2 : shrI .i64 n 16 = some (n / 65536) := by
    unfold shrI
    rw [if_neg (by omega)]
    exact congrArg some (Int.fdiv_eq_ediv_of_nonneg n (by decide))
  have e3 : shrI .i64 n 8 = some (n / 256) := by
    unfold shrI
    rw [if_neg (by omega)]
    exact congrArg some (Int.fdiv_eq_ediv_of_nonneg n (by decide))
  simp only [octet_Number, wrap8, e1, e2, e3, Option.bind_some, numOf]
  cases decide (n < 0) <;> cases decide (n > 4294967295) <;> rfl
theorem first01 {k : Nat} (hk : 20 ≤ k) : law01_First k = some true := by
  obtain ⟨k, rfl⟩ : ∃ q, k = q + 20 := ⟨k - 20, by omega⟩
  rfl
end Go.Sh

namespace Go.Sh
open Go.AE
set_option linter.unusedVariables false
set_option linter.unusedSimpArgs false
theorem strB_bytesB (s : Str) : strB (bytesB s) = s := by
  unfold strB bytesB
  rw [List.map_map]
  refine (List.map_congr_left (fun x _ => ?_)).trans (List.map_id s)
  simp
def isByte (x : Int) : Prop := 0 ≤ x ∧ x ≤ 255
theorem sameTexts_refl {k : Nat} {l : List Str} (hk : l.length + 2 ≤ k) (hl : l.length ≤ maxLen) : ref01_SameTexts k l l = some true := by
  obtain ⟨k, rfl⟩ : ∃ q, k = q + 1 := ⟨k - 1, by omega⟩
  simp only [ref01_SameTexts, bne_self_eq_false, cond_false]
  have main : ∀ d i m : Nat, i + d = l.length → d < m → ref01_SameTexts_L1 l l (fun _ => some true) m (i : Int) = some true := by
    intro d
    induction d with
    | zero =>
      intro i m hd hm
      obtain ⟨m, rfl⟩ : ∃ q, m = q + 1 := ⟨m - 1, by omega⟩
      obtain rfl : i = l.length := by omega
      simp only [ref01_SameTexts_L1, show decide ((l.length : Int) < (l.length : Int)) = false by simp, cond_false]
    | succ d ih =>
      intro i m hd hm
      obtain ⟨m, rfl⟩ : ∃ q, m = q + 1 := ⟨m - 1, by omega⟩
      have hi : i < l.length := by omega
      simp only [ref01_SameTexts_L1, show decide ((i : Int) < (l.length : Int)) = true by simp; exact hi, cond_true, idx_at hi, Option.bind_some, beq_self_eq_true, Bool.not_true, cond_false, wrap_next hi hl]
      exact ih (i + 1) m (by omega) (by omega)
  exact main l.length 0 k (by omega) (by omega)
end Go.Sh

namespace Go.Sh
open Go.AE
set_option linter.unusedVariables false
set_option linter.unusedSimpArgs false
def rdr (l : List Int) : T_octet_Reader := { fmade := true, fb := l, fbad := false }
theorem cut_drop {α : Type} {l : List α} {i : Nat} (h : i ≤ l.length) : cut l (i : Int) (l.length : Int) = some (l.drop i) := by
  unfold cut
  rw [if_pos ⟨by omega, by omega, by omega⟩, Int.toNat_natCast, Int.toNat_natCast, List.take_length]
theorem take_ok {k : Nat} (hk : 2 ≤ k) (a b : List Int) : octet_Reader_take k (rdr (a ++ b)) (a.length : Int) = some (a, 0, rdr b) := by
  obtain ⟨k, rfl⟩ : ∃ q, k = q + 2 := ⟨k - 2, by omega⟩
  have hl : a.length ≤ (a ++ b).length := by rw [List.length_append]; omega
  show octet_Reader_take (k + 2) { fmade := true, fb := a ++ b, fbad := false } _ = _
  have hd : decide ((a.length : Int) > ((a ++ b).length : Int)) = false := decide_eq_false (by omega)
  simp only [octet_Reader_take, octet_Reader_none, rdr, Bool.not_true, Option.bind_some, cond_false, cut_take hl, cut_drop hl, List.take_left, List.drop_left]
  rw [hd]
  rfl
theorem small_take {k : Nat} (hk : 3 ≤ k) {x : Int} (hx : isByte x) (r : List Int) : octet_Reader_Small k (rdr (x :: r)) = some (x, 0, rdr r) := by
  obtain ⟨k, rfl⟩ : ∃ q, k = q + 1 := ⟨k - 1, by omega⟩
  have h := take_ok (k := k) (by omega) [x] r
  have h' : octet_Reader_take k (rdr (x :: r)) 1 = some ([x], 0, rdr r) := h
  have hi : idx [x] 0 = some x := rfl
  have hw : Go.IntKind.wrap .i64 x = x := wrap_in (by have := hx.1; omega) (by have := hx.2; omega)
  simp only [octet_Reader_Small, h', Option.bind_some, bne_self_eq_false, cond_false, hi, hw]
theorem or_byte {x b : Int} (h0 : 0 ≤ x) (h1 : x ≤ 16777216) (hb : isByte b) : (shlI .i64 x 8).bind (fun v => some (orI .i64 v (Go.IntKind.wrap .i64 b))) = some (x * 256 + b) := by
  obtain ⟨b0, b1⟩ := hb
  have e1 : shlI .i64 x 8 = some (x * 256) := by
    unfold shlI
    rw [if_neg (by omega)]
    show some (Go.IntKind.wrap .i64 (x * 256)) = _
    rw [wrap_in (by omega) (by omega)]
  rw [e1, Option.bind_some, wrap_in (x := b) (by omega) (by omega)]
  obtain ⟨n, rfl⟩ : ∃ n : Nat, x = (n : Int) := ⟨x.toNat, by omega⟩
  obtain ⟨c, rfl⟩ : ∃ c : Nat, b = (c : Int) := ⟨b.toNat, by omega⟩
  unfold orI
  have t1 : (BitVec.ofInt 64 ((n : Int) * 256)).toNat = n * 256 := by
    rw [show (n : Int) * 256 = ((n * 256 : Nat) : Int) by omega, BitVec.ofInt_natCast, BitVec.toNat_ofNat]
    exact Nat.mod_eq_of_lt (by omega)
  have t2 : (BitVec.ofInt 64 (c : Int)).toNat = c := by
    rw [BitVec.ofInt_natCast, BitVec.toNat_ofNat]
    exact Nat.mod_eq_of_lt (by omega)
  show some (Go.IntKind.wrap .i64 (((BitVec.ofInt 64 ((n : Int) * 256) ||| BitVec.ofInt 64 (c : Int)).toNat : Nat) : Int)) = _
  rw [BitVec.toNat_or, t1, t2]
  have t3 : n * 256 ||| c = n * 256 + c := by
    have := Nat.shiftLeft_add_eq_or_of_lt (show c < 2 ^ 8 by omega) n
    rw [Nat.shiftLeft_eq] at this
    exact this.symm
  rw [t3, wrap_in (by omega) (by omega)]
  congr 1
theorem take4 {k : Nat} (hk : 2 ≤ k) (a b c d : Int) (r : List Int) : octet_Reader_take k (rdr (a :: b :: c :: d :: r)) 4 = some ([a, b, c, d], 0, rdr r) := by
  have h := take_ok hk [a, b, c, d] r
  have e1 : (([a, b, c, d] : List Int).length : Int) = 4 := rfl
  have e2 : [a, b, c, d] ++ r = a :: b :: c :: d :: r := rfl
  rw [e1, e2] at h
  exact h
theorem number_take {k : Nat} (hk : 10 ≤ k) {a b c d : Int} (ha : isByte a) (hb : isByte b) (hc : isByte c) (hd : isByte d) (r : List Int) : octet_Reader_Number k (rdr (a :: b :: c :: d :: r)) = some (((a * 256 + b) * 256 + c) * 256 + d, 0, rdr r) := by
  obtain ⟨k, rfl⟩ : ∃ q, k = q + 1 := ⟨k - 1, by omega⟩
  have h : octet_Reader_take k (rdr (a :: b :: c :: d :: r)) 4 = some ([a, b, c, d], 0, rdr r) := take4 (by omega) a b c d r
  obtain ⟨a0, a1⟩ := ha
  obtain ⟨b0, b1⟩ := hb
  obtain ⟨c0, c1⟩ := hc
  have i0 : idx [a, b, c, d] 0 = some a := rfl
  have i1 : idx [a, b, c, d] 1 = some b := rfl
  have i2 : idx [a, b, c, d] 2 = some c := rfl
  have i3 : idx [a, b, c, d] 3 = some d := rfl
  have w0 : Go.IntKind.wrap .i64 ((0 : Int) + 1) = 1 := wrap_in (by omega) (by omega)
  have w1 : Go.IntKind.wrap .i64 ((1 : Int) + 1) = 2 := wrap_in (by omega) (by omega)
  have w2 : Go.IntKind.wrap .i64 ((2 : Int) + 1) = 3 := wrap_in (by omega) (by omega)
  have w3 : Go.IntKind.wrap .i64 ((3 : Int) + 1) = 4 := wrap_in (by omega) (by omega)
  have o0 := or_byte (x := 0) (b := a) (by omega) (by omega) ⟨a0, a1⟩
  have o1 := or_byte (x := 0 * 256 + a) (b := b) (by omega) (by omega) ⟨b0, b1⟩
  have o2 := or_byte (x := (0 * 256 + a) * 256 + b) (b := c) (by omega) (by omega) ⟨c0, c1⟩
  have o3 := or_byte (x := ((0 * 256 + a) * 256 + b) * 256 + c) (b := d) (by omega) (by omega) hd
  have l4 : (([a, b, c, d] : List Int).length : Int) = 4 := rfl
  simp only [octet_Reader_Number, h, Option.bind_some, bne_self_eq_false, cond_false]
  have g : ∀ (p : List Int × Int × T_octet_Reader) (K0 : Int → Int → Option (Int × Int × T_octet_Reader)), p.1 = [a, b, c, d] → octet_Reader_Number_L1 p K0 k 0 0 = K0 (((a * 256 + b) * 256 + c) * 256 + d) 4 := by
    intro p K0 hp
    obtain ⟨k, rfl⟩ : ∃ q, k = q + 1 := ⟨k - 1, by omega⟩
    simp only [octet_Reader_Number_L1, hp, l4, show decide ((0 : Int) < 4) = true from rfl, cond_true, i0, Option.bind_some, o0, w0]
    obtain ⟨k, rfl⟩ : ∃ q, k = q + 1 := ⟨k - 1, by omega⟩
    simp only [octet_Reader_Number_L1, hp, l4, show decide ((1 : Int) < 4) = true from rfl, cond_true, i1, Option.bind_some, o1, w1]
    obtain ⟨k, rfl⟩ : ∃ q, k = q + 1 := ⟨k - 1, by omega⟩
    simp only [octet_Reader_Number_L1, hp, l4, show decide ((2 : Int) < 4) = true from rfl, cond_true, i2, Option.bind_some, o2, w2]
    obtain ⟨k, rfl⟩ : ∃ q, k = q + 1 := ⟨k - 1, by omega⟩
    simp only [octet_Reader_Number_L1, hp, l4, show decide ((3 : Int) < 4) = true from rfl, cond_true, i3, Option.bind_some, o3, w3]
    obtain ⟨k, rfl⟩ : ∃ q, k = q + 1 := ⟨k - 1, by omega⟩
    simp only [octet_Reader_Number_L1, hp, l4, show decide ((4 : Int) < 4) = false from rfl, cond_false, Int.zero_mul, Int.zero_add]
  rw [g _ _ rfl]
theorem text_take {k : Nat} (hk : 6 ≤ k) {s : Str} (hs : s.length ≤ 255) (r : List Int) : octet_Reader_Text k (rdr ((s.length : Int) :: (bytesB s ++ r))) = some (s, 0, rdr r) := by
  obtain ⟨k, rfl⟩ : ∃ q, k = q + 2 := ⟨k - 2, by omega⟩
  have h1 := small_take (k := k + 1) (by omega) (x := (s.length : Int)) ⟨by omega, by omega⟩ (bytesB s ++ r)
  have h2 := take_ok (k := k + 1) (by omega) (bytesB s) r
  rw [bytesB_len] at h2
  have h0 : octet_Reader_none (k + 1) (rdr ((s.length : Int) :: (bytesB s ++ r))) = some false := rfl
  rw [show k + 2 = (k + 1) + 1 from rfl]
  simp only [octet_Reader_Text, h0, h1, h2, Option.bind_some, cond_false, bne_self_eq_false, strB_bytesB]
/-- The bytes of texts. -/
def packed (l : List Str) : List Int := l.flatMap fun s => (s.length : Int) :: bytesB s
theorem packed_cons (s : Str) (l : List Str) (r : List Int) : packed (s :: l) ++ r = (s.length : Int) :: (bytesB s ++ (packed l ++ r)) := by
  unfold packed
  rw [List.flatMap_cons]
  simp only [List.append_assoc, List.cons_append]
theorem texts_L1 {k : Nat} {n : Int} {r0 : T_octet_Reader} {K : List Str → T_octet_Reader → Option (List Str × Int × T_octet_Reader)} {more : List Int} {N : Nat} (hk : 10 ≤ k) (hn : n = (N : Int)) (hN : N ≤ 255) : ∀ (l out : List Str) (i m : Nat), i + l.length = N → l.length < m → out.length = i → (∀ s ∈ l, s.length ≤ 255) →
    octet_Reader_Texts_L1 k (n, r0) (fun y16 _ y18 => K y16 y18) m out (i : Int) (rdr (packed l ++ more)) = K (out ++ l) (rdr more)
  | [], out, i, m, hi, hm, ho, hs => by
    obtain ⟨m, rfl⟩ : ∃ q, m = q + 1 := ⟨m - 1, by omega⟩
    simp only [octet_Reader_Texts_L1, hn, decide_eq_false (show ¬ (i : Int) < (N : Int) by simp at hi; omega), cond_false, packed, List.flatMap_nil, List.nil_append, List.append_nil]
  | s :: l, out, i, m, hi, hm, ho, hs => by
    obtain ⟨m, rfl⟩ : ∃ q, m = q + 1 := ⟨m - 1, by omega⟩
    simp only [List.length_cons] at hi hm
    have e : app out [s] = some (out ++ [s]) := app_ok (by simp only [maxList, List.length_cons, List.length_nil]; omega)
    have hw : Go.IntKind.wrap .i64 ((i : Int) + 1) = ((i + 1 : Nat) : Int) := by rw [wrap_in (by omega) (by omega)]; omega
    rw [packed_cons]
    simp only [octet_Reader_Texts_L1, hn, decide_eq_true (show (i : Int) < (N : Int) by omega), cond_true, text_take (show 6 ≤ k by omega) (hs s List.mem_cons_self), Option.bind_some, e, hw]
    have ih := texts_L1 (k := k) (n := n) (r0 := r0) (K := K) (more := more) hk hn hN l (out ++ [s]) (i + 1) m (by omega) (by omega) (by simp [ho]) (fun t ht => hs t (List.mem_cons_of_mem _ ht))
    rw [hn] at ih
    rw [ih, List.append_assoc, List.cons_append, List.nil_append]
theorem texts_take {k : Nat} (hk : 1000 ≤ k) {l : List Str} (hl : l.length ≤ 255) (hs : ∀ s ∈ l, s.length ≤ 255) (more : List Int) : octet_Reader_Texts k (rdr ((l.length : Int) :: (packed l ++ more))) = some (l, 0, rdr more) := by
  obtain ⟨k, rfl⟩ : ∃ q, k = q + 2 := ⟨k - 2, by omega⟩
  have h1 := small_take (k := k + 1) (by omega) (x := (l.length : Int)) ⟨by omega, by omega⟩ (packed l ++ more)
  have h0 : octet_Reader_none (k + 1) (rdr ((l.length : Int) :: (packed l ++ more))) = some false := rfl
  rw [show k + 2 = (k + 1) + 1 from rfl]
  simp only [octet_Reader_Texts, h0, h1, Option.bind_some, cond_false]
  refine Eq.trans (texts_L1 (k := k + 1) (n := (l.length : Int)) (N := l.length) (K := fun y16 y18 => bif y18.fbad then some ([], 3, { y18 with fb := _ }) else some (y16, 0, y18)) (more := more) (by omega) rfl hl l [] 0 (k + 1) (by omega) (by omega) rfl hs) ?_
  rfl
theorem octet_Text_any {k : Nat} {s : Str} (hk : 1 ≤ k) : octet_Text k s = some (textOf s) := by
  by_cases h : s.length ≤ 300
  · exact octet_Text_ok hk h
  · obtain ⟨k, rfl⟩ : ∃ q, k = q + 1 := ⟨k - 1, by omega⟩
    simp only [octet_Text, textOf, decide_eq_true (show (s.length : Int) > 255 by omega), cond_true]
theorem textOf_ok {s : Str} (h : s.length ≤ 255) : textOf s = ((s.length : Int) :: bytesB s, 0) := by
  unfold textOf
  rw [decide_eq_false (by omega), cond_false, Int.emod_eq_of_lt (by omega) (by omega)]
theorem textOf_bad {s : Str} (h : ¬ s.length ≤ 255) : textOf s = ([], 2) := by
  unfold textOf
  rw [decide_eq_true (by omega)]
  rfl
theorem octet_Texts_L1_any {k : Nat} {l : List Str} (hk : 1 ≤ k) (hn : l.length ≤ 255) : ∀ (d i m : Nat) (out : List Int), i + d = l.length → d < m → out.length ≤ 1000 + i * 301 → octet_Texts_L1 k l (fun y15 _ => some (y15, 0)) m out (i : Int) = some (textsGo out (l.drop i))
  | 0, i, m, out, hd, hm, ho => by
    obtain ⟨m, rfl⟩ : ∃ q, m = q + 1 := ⟨m - 1, by omega⟩
    obtain rfl : i = l.length := by omega
    simp only [octet_Texts_L1, show decide ((l.length : Int) < (l.length : Int)) = false by simp, cond_false, List.drop_length, textsGo]
  | d + 1, i, m, out, hd, hm, ho => by
    obtain ⟨m, rfl⟩ : ∃ q, m = q + 1 := ⟨m - 1, by omega⟩
    have hi : i < l.length := by omega
    simp only [octet_Texts_L1, show decide ((i : Int) < (l.length : Int)) = true by simp; exact hi, cond_true, idx_at hi, octet_Text_any hk, Option.bind_some, wrap_next hi (show l.length ≤ maxLen by have := maxLen_eq; omega)]
    rw [List.drop_eq_getElem_cons hi, textsGo]
    by_cases hs : l[i].length ≤ 255
    · have h1 := textOf_len l[i] (by omega)
      have e : app out (textOf l[i]).1 = some (out ++ (textOf l[i]).1) := app_ok (by simp only [maxList]; omega)
      rw [e, Option.bind_some, octet_Texts_L1_any hk hn d (i + 1) m _ (by omega) (by omega) (by rw [List.length_append, Nat.add_mul]; omega)]
      cases (textOf l[i]).2 != 0 <;> rfl
    · rw [textOf_bad hs]
      rfl
theorem octet_Texts_any {k : Nat} {l : List Str} (hk : 1000 ≤ k) : octet_Texts k l = some (textsOf l) := by
  obtain ⟨k, rfl⟩ : ∃ q, k = q + 1 := ⟨k - 1, by omega⟩
  by_cases hn : l.length ≤ 255
  · have h := octet_Texts_L1_any (k := k) (by omega) hn l.length 0 k [(l.length : Int) % 256] (by omega) (by omega) (by simp only [List.length_cons, List.length_nil]; omega)
    simp only [octet_Texts, wrap8, textsOf, decide_eq_false (show ¬ (l.length : Int) > 255 by omega), cond_false]
    exact h
  · simp only [octet_Texts, textsOf, decide_eq_true (show (l.length : Int) > 255 by omega), cond_true]
theorem textsGo_zero : ∀ (l : List Str) (out : List Int), ((textsGo out l).2 != 0) = false → (∀ s ∈ l, s.length ≤ 255) ∧ textsGo out l = (out ++ packed l, 0)
  | [], out, h => ⟨fun s hs => absurd hs List.not_mem_nil, by simp only [textsGo, packed, List.flatMap_nil, List.append_nil]⟩
  | s :: l, out, h => by
    rw [textsGo] at h ⊢
    by_cases hs : s.length ≤ 255
    · rw [textOf_ok hs] at h ⊢
      simp only [bne_self_eq_false, cond_false] at h ⊢
      obtain ⟨h1, h2⟩ := textsGo_zero l _ h
      refine ⟨fun t ht => ?_, ?_⟩
      · rcases List.mem_cons.1 ht with rfl | ht
        · exact hs
        · exact h1 t ht
      · rw [h2]
        unfold packed
        rw [List.flatMap_cons, List.append_assoc]
    · rw [textOf_bad hs] at h
      simp at h
theorem texts_zero {l : List Str} (h : ((textsOf l).2 != 0) = false) : l.length ≤ 255 ∧ (∀ s ∈ l, s.length ≤ 255) ∧ textsOf l = ((l.length : Int) :: packed l, 0) := by
  unfold textsOf at h ⊢
  by_cases hn : l.length ≤ 255
  · rw [decide_eq_false (show ¬ (l.length : Int) > 255 by omega), cond_false] at h ⊢
    obtain ⟨h1, h2⟩ := textsGo_zero l _ h
    refine ⟨hn, h1, ?_⟩
    rw [h2, Int.emod_eq_of_lt (by omega) (by omega)]
    rfl
  · rw [decide_eq_true (show (l.length : Int) > 255 by omega)] at h
    simp at h
theorem packed_len : ∀ l : List Str, (∀ s ∈ l, s.length ≤ 255) → (packed l).length ≤ l.length * 256
  | [], _ => Nat.le_refl 0
  | s :: l, h => by
    have h1 := packed_len l (fun t ht => h t (List.mem_cons_of_mem _ ht))
    have h2 := h s List.mem_cons_self
    unfold packed at h1 ⊢
    rw [List.flatMap_cons, List.length_append, List.length_cons, List.length_cons, bytesB_len]
    omega
def smallOf (n : Int) : List Int × Int := bif decide (n < 0) || decide (n > 255) then ([], 2) else ([n % 256], 0)
theorem octet_Small_ok {k : Nat} (hk : 1 ≤ k) (n : Int) : octet_Small k n = some (smallOf n) := by
  obtain ⟨k, rfl⟩ : ∃ q, k = q + 1 := ⟨k - 1, by omega⟩
  simp only [octet_Small, smallOf, wrap8]
  cases decide (n < 0) <;> cases decide (n > 255) <;> rfl
theorem newReader_ok {k : Nat} (hk : 3 ≤ k) {l : List Int} (hl : l.length ≤ 1000000) : octet_NewReader k l = some (rdr l) := by
  obtain ⟨k, rfl⟩ : ∃ q, k = q + 2 := ⟨k - 2, by omega⟩
  have e : slices_Clone_byte (k + 1) l = some l := by
    cases l with
    | nil => rfl
    | cons x l =>
      have h : app ([] : List Int) (x :: l) = some ([] ++ (x :: l)) := app_ok (by simp only [maxList, List.length_nil]; omega)
      show slices_Clone_byte_c (k + 1) x l = _
      simp only [slices_Clone_byte_c, h, Option.bind_some, List.nil_append]
  rw [show k + 2 = (k + 1) + 1 from rfl]
  simp only [octet_NewReader, e, Option.bind_some]
  rfl
theorem law_law01_OctetBack (a : T_arr2_Int) (l : List Str) (more : List Int) (ha : wf_T_arr2_Int a) (hl : wfL wfS l) (hm : wfL (wfI .u8) more) : ∃ k, law01_OctetBack k a l more = some true := by
  obtain ⟨k, hk1⟩ : ∃ k, maxLen + 59 ≤ k := ⟨_, Nat.le_refl _⟩
  have hk2 : 100000000 ≤ k := by have := maxLen_eq; omega
  refine ⟨k + 1, ?_⟩
  have h5 := first01 (k := k) (by omega)
  simp only [law01_OctetBack, h5, octet_Small_ok (show 1 ≤ k by omega), octet_Number_ok (show 1 ≤ k by omega), octet_Texts_any (show 1000 ≤ k by omega), large01_ok (show maxLen + 2 ≤ k by omega) hl.1, Option.bind_some]
  cases g1 : (smallOf a.e0).2 != 0 with
  | true => rfl
  | false =>
  cases g2 : (numOf a.e1).2 != 0 with
  | true => rfl
  | false =>
  cases g3 : (textsOf l).2 != 0 with
  | true => rfl
  | false =>
  cases g4 : largeL l with
  | true => rfl
  | false =>
  cases g5 : decide ((more.length : Int) > 1000) with
  | true => rfl
  | false =>
  have hmore : more.length ≤ 1000 := by rw [decide_eq_false_iff_not] at g5; omega
  obtain ⟨t1, t2, t3⟩ := texts_zero g3
  have hs : 0 ≤ a.e0 ∧ a.e0 ≤ 255 ∧ smallOf a.e0 = ([a.e0], 0) := by
    unfold smallOf at g1 ⊢
    by_cases c0 : a.e0 < 0
    · rw [decide_eq_true c0] at g1; simp at g1
    · by_cases c1 : a.e0 > 255
      · rw [decide_eq_true c1, Bool.or_true] at g1; simp at g1
      · rw [decide_eq_false c0, decide_eq_false c1, Int.emod_eq_of_lt (by omega) (by omega)]
        exact ⟨by omega, by omega, rfl⟩
  have hn : 0 ≤ a.e1 ∧ a.e1 ≤ 4294967295 ∧ numOf a.e1 = ([a.e1 / 16777216 % 256, a.e1 / 65536 % 256, a.e1 / 256 % 256, a.e1 % 256], 0) := by
    unfold numOf at g2 ⊢
    by_cases c0 : a.e1 < 0
    · rw [decide_eq_true c0] at g2; simp at g2
    · by_cases c1 : a.e1 > 4294967295
      · rw [decide_eq_true c1, Bool.or_true] at g2; simp at g2
      · rw [decide_eq_false c0, decide_eq_false c1]
        exact ⟨by omega, by omega, rfl⟩
  obtain ⟨s0, s1, s2⟩ := hs
  obtain ⟨n0, n1, n2⟩ := hn
  have hb : ∀ z : Int, isByte (z % 256) := fun z => ⟨Int.emod_nonneg _ (by omega), by have := Int.emod_lt_of_pos z (show (0 : Int) < 256 by omega); omega⟩
  have hpl := packed_len l t2
  have hpl2 : l.length * 256 ≤ 255 * 256 := Nat.mul_le_mul_right _ t1
  have e1 : ∀ z : List Int, z.length ≤ 1000 → app ([] : List Int) z = some z := fun z hz => by rw [app_ok (by simp only [maxList, List.length_nil]; omega), List.nil_append]
  have e2 : app [a.e0] [a.e1 / 16777216 % 256, a.e1 / 65536 % 256, a.e1 / 256 % 256, a.e1 % 256] = some (a.e0 :: [a.e1 / 16777216 % 256, a.e1 / 65536 % 256, a.e1 / 256 % 256, a.e1 % 256]) := rfl
  have e3 : app (a.e0 :: [a.e1 / 16777216 % 256, a.e1 / 65536 % 256, a.e1 / 256 % 256, a.e1 % 256]) ((l.length : Int) :: packed l) = some (a.e0 :: [a.e1 / 16777216 % 256, a.e1 / 65536 % 256, a.e1 / 256 % 256, a.e1 % 256] ++ ((l.length : Int) :: packed l)) := app_ok (by simp only [maxList, List.length_cons, List.length_nil]; omega)
  have e4 : app (a.e0 :: [a.e1 / 16777216 % 256, a.e1 / 65536 % 256, a.e1 / 256 % 256, a.e1 % 256] ++ ((l.length : Int) :: packed l)) more = some (a.e0 :: a.e1 / 16777216 % 256 :: a.e1 / 65536 % 256 :: a.e1 / 256 % 256 :: a.e1 % 256 :: (l.length : Int) :: (packed l ++ more)) := by
    rw [app_ok (by simp only [maxList, List.length_append, List.length_cons, List.length_nil]; omega)]
    simp only [List.cons_append, List.nil_append]
  have r1 := newReader_ok (k := k) (by omega) (l := a.e0 :: a.e1 / 16777216 % 256 :: a.e1 / 65536 % 256 :: a.e1 / 256 % 256 :: a.e1 % 256 :: (l.length : Int) :: (packed l ++ more)) (by simp only [List.length_append, List.length_cons]; omega)
  have r2 := small_take (k := k) (by omega) (x := a.e0) ⟨s0, s1⟩ (a.e1 / 16777216 % 256 :: a.e1 / 65536 % 256 :: a.e1 / 256 % 256 :: a.e1 % 256 :: (l.length : Int) :: (packed l ++ more))
  have r3 := number_take (k := k) (by omega) (hb (a.e1 / 16777216)) (hb (a.e1 / 65536)) (hb (a.e1 / 256)) (hb a.e1) ((l.length : Int) :: (packed l ++ more))
  have r4 := texts_take (k := k) (by omega) t1 t2 more
  have r5 : octet_Reader_Left k (rdr more) = some (more.length : Int) := by
    obtain ⟨k, rfl⟩ : ∃ q, k = q + 2 := ⟨k - 2, by omega⟩
    rfl
  have hval : ((a.e1 / 16777216 % 256 * 256 + a.e1 / 65536 % 256) * 256 + a.e1 / 256 % 256) * 256 + a.e1 % 256 = a.e1 := by omega
  rw [hval] at r3
  simp only [s2, n2, t3, cond_false, Option.bind_some, e1 [a.e0] (by simp), e2, e3, e4, r1, r2, r3, r4, r5, beq_self_eq_true, cond_true, sameTexts_refl (show l.length + 2 ≤ k by omega) hl.1]
end Go.Sh

