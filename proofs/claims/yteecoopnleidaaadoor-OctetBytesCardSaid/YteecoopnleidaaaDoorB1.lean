/- The functions as functions on lists, and what they come to: no program in sight. Conditions: those that each theorem names. -/
import Derived.Test.YteecoopnleidaaaDoorA3
import Derived.IntWalk
namespace Go.Sh
open Go.AE (idx idxS cut cat app upTo inB sameLen revInt wfI wfS wfL wfT mkN repS repL joinS cmpB idxB quoI remE shlI shrI andI orI xorI catL bytesB itoa1 repAbs)
set_option linter.unusedVariables false
abbrev Str := List UInt8
structure T_arr2_Int where
  e0 : Int
  e1 : Int
  deriving DecidableEq
def wf_T_arr2_Int (a : T_arr2_Int) : Prop := (wfI .i64) a.e0 ∧ (wfI .i64) a.e1 ∧ wfT ()
def law01_Large_L1 (a0 : (List Str))  (K0 : Int → Option Bool) : Nat → Int → Option Bool
  | 0, _ => none
  | m + 1, x3 =>
    (bif (decide (x3 < (a0.length : Int))) then (((idx a0 x3).bind fun v4 => (some ((decide ((v4.length : Int) > 300))))).bind fun o5 =>
          (bif o5 then (some true) else
          (law01_Large_L1 a0 K0 m (Go.IntKind.wrap .i64 (x3 + 1))))) else
        (K0 x3))
def law01_Large : Nat → ((List Str)) → Option Bool
  | 0, _ => none
  | k + 1, a0 =>
    (law01_Large_L1 a0 (fun y6 =>
      (some (decide ((a0.length : Int) > 300)))) k 0)
def octet_Text : Nat → (Str) → Option ((List Int) × Int)
  | 0, _ => none
  | k + 1, a0 =>
    (bif (decide ((a0.length : Int) > 255)) then (some (([] : List Int), 2)) else
      (((app ([(Go.IntKind.wrap .u8 (a0.length : Int))] : List Int) (bytesB a0)).bind fun v1 => (some (v1, 0))).bind fun o2 =>
        (some (o2.1, o2.2))))
def octet_Number : Nat → (Int) → Option ((List Int) × Int)
  | 0, _ => none
  | k + 1, a0 =>
    ((bif (decide (a0 < 0)) then (some (true)) else (some ((decide (a0 > 4294967295))))).bind fun o1 =>
      (bif o1 then (some (([] : List Int), 2)) else
      (((shrI .i64 a0 24).bind fun v2 => ((shrI .i64 a0 16).bind fun v3 => ((shrI .i64 a0 8).bind fun v4 => (some (([(Go.IntKind.wrap .u8 v2), (Go.IntKind.wrap .u8 v3), (Go.IntKind.wrap .u8 v4), (Go.IntKind.wrap .u8 a0)] : List Int), 0))))).bind fun o5 =>
        (some (o5.1, o5.2)))))
def strconv_Itoa : Nat → Int → Option Str
  | 0, _ => none
  | _ + 1, n => itoa1 n
def strings_Repeat : Nat → Str → Int → Option Str
  | 0, _, _ => none
  | _ + 1, s, n => repS s n
def octet_Digits : Nat → (Int) → (Int) → Option (Str × Int)
  | 0, _, _ => none
  | k + 1, a0, a1 =>
    ((strconv_Itoa k a0).bind fun o2 =>
      ((bif (decide (a0 < 0)) then (some (true)) else (bif (decide (a1 < 1)) then (some (true)) else (bif (decide (a1 > 9)) then (some (true)) else (some ((decide ((o2.length : Int) > a1))))))).bind fun o3 =>
      (bif o3 then (some (([] : Str), 2)) else
      (((strings_Repeat k ([48] : Str) (Go.IntKind.wrap .i64 (a1 - (o2.length : Int)))).bind fun v4 => ((cat v4 o2).bind fun v5 => (some (v5, 0)))).bind fun o6 =>
        (some (o6.1, o6.2))))))
def octet_Pad : Nat → (Str) → (Int) → Option (Str × Int)
  | 0, _, _ => none
  | k + 1, a0, a1 =>
    ((bif (decide (a1 < (a0.length : Int))) then (some (true)) else (some ((decide (a1 > 255))))).bind fun o1 =>
      (bif o1 then (some (([] : Str), 2)) else
      (((strings_Repeat k ([32] : Str) (Go.IntKind.wrap .i64 (a1 - (a0.length : Int)))).bind fun v2 => ((cat a0 v2).bind fun v3 => (some (v3, 0)))).bind fun o4 =>
        (some (o4.1, o4.2)))))
def strings_ReplaceAll : Nat → Str → Str → Str → Option Str
  | 0, _, _, _ => none
  | _ + 1, s, o, n => repAbs s o n
def octet_Key_L1 (k : Nat) (a0 : (List Str))  (K0 : (List Int) → Int → Option (List Int)) : Nat → (List Int) → Int → Option (List Int)
  | 0, _, _ => none
  | m + 1, x8, x9 =>
    (bif (decide (x9 < (a0.length : Int))) then ((idx a0 x9).bind fun o11 =>
          (((strings_ReplaceAll k o11 ([0] : Str) ([0, 255] : Str)).bind fun v12 => (app x8 (bytesB v12))).bind fun o14 =>
          ((app o14 ([0, 1] : List Int)).bind fun o16 =>
          (octet_Key_L1 k a0 K0 m o16 (Go.IntKind.wrap .i64 (x9 + 1)))))) else
        (K0 x8 x9))
def octet_Key : Nat → ((List Str)) → Option (List Int)
  | 0, _ => none
  | k + 1, a0 =>
    (octet_Key_L1 k a0 (fun y17 y18 =>
      (some y17)) k ([] : List Int) 0)
def law01_First : Nat → Option Bool
  | _ + 5 => some true
  | _ => none
def octet_Small : Nat → (Int) → Option ((List Int) × Int)
  | 0, _ => none
  | k + 1, a0 =>
    ((bif (decide (a0 < 0)) then (some (true)) else (some ((decide (a0 > 255))))).bind fun o1 =>
      (bif o1 then (some (([] : List Int), 2)) else
      (some (([(Go.IntKind.wrap .u8 a0)] : List Int), 0))))
def ref01_Small : Nat → (Int) → Option ((List Int) × Int)
  | 0, _ => none
  | k + 1, a0 =>
    ((bif (decide (a0 < 0)) then (some (true)) else (some ((decide (a0 > 255))))).bind fun o1 =>
      (bif o1 then (some (([] : List Int), 2)) else
      (some (([(Go.IntKind.wrap .u8 a0)] : List Int), 0))))
def ref01_number : Nat → (Int) → Option (List Int)
  | 0, _ => none
  | k + 1, a0 =>
    (((quoI .i64 a0 16777216).bind fun v1 => ((quoI .i64 a0 65536).bind fun v2 => ((remE v2 256).bind fun v3 => ((quoI .i64 a0 256).bind fun v4 => ((remE v4 256).bind fun v5 => ((remE a0 256).bind fun v6 => (some (([(Go.IntKind.wrap .u8 v1), (Go.IntKind.wrap .u8 v3), (Go.IntKind.wrap .u8 v5), (Go.IntKind.wrap .u8 v6)] : List Int))))))))).bind fun o7 =>
      (some o7))
def ref01_Number : Nat → (Int) → Option ((List Int) × Int)
  | 0, _ => none
  | k + 1, a0 =>
    ((bif (decide (a0 < 0)) then (some (true)) else (some ((decide (a0 > 4294967295))))).bind fun o1 =>
      (bif o1 then (some (([] : List Int), 2)) else
      (((ref01_number k a0).bind fun v2 => (some (v2, 0))).bind fun o3 =>
        (some (o3.1, o3.2)))))
def ref01_Text : Nat → (Str) → Option ((List Int) × Int)
  | 0, _ => none
  | k + 1, a0 =>
    (bif (decide ((a0.length : Int) > 255)) then (some (([] : List Int), 2)) else
      (((app ([(Go.IntKind.wrap .u8 (a0.length : Int))] : List Int) (bytesB a0)).bind fun v1 => (some (v1, 0))).bind fun o2 =>
        (some (o2.1, o2.2))))
def octet_Texts_L1 (k : Nat) (a0 : (List Str))  (K0 : (List Int) → Int → Option ((List Int) × Int)) : Nat → (List Int) → Int → Option ((List Int) × Int)
  | 0, _, _ => none
  | m + 1, x7, x8 =>
    (bif (decide (x8 < (a0.length : Int))) then ((idx a0 x8).bind fun o10 =>
          (((octet_Text k o10).bind fun v11 => (some (v11.1, v11.2))).bind fun o12 =>
          (bif (o12.2 != 0) then (some (([] : List Int), o12.2)) else
          ((app x7 o12.1).bind fun o14 =>
            (octet_Texts_L1 k a0 K0 m o14 (Go.IntKind.wrap .i64 (x8 + 1))))))) else
        (K0 x7 x8))
def octet_Texts : Nat → ((List Str)) → Option ((List Int) × Int)
  | 0, _ => none
  | k + 1, a0 =>
    (bif (decide ((a0.length : Int) > 255)) then (some (([] : List Int), 2)) else
      (octet_Texts_L1 k a0 (fun y15 y16 =>
        (some (y15, 0))) k ([(Go.IntKind.wrap .u8 (a0.length : Int))] : List Int) 0))
def ref01_Texts_L1 (k : Nat) (a0 : (List Str))  (K0 : (List Int) → Int → Option ((List Int) × Int)) : Nat → (List Int) → Int → Option ((List Int) × Int)
  | 0, _, _ => none
  | m + 1, x6, x7 =>
    (bif (decide (x7 < (a0.length : Int))) then (((idx a0 x7).bind fun v8 => ((ref01_Text k v8).bind fun v9 => (some (v9.1, v9.2)))).bind fun o10 =>
          (bif (o10.2 != 0) then (some (([] : List Int), o10.2)) else
          ((app x6 o10.1).bind fun o12 =>
            (ref01_Texts_L1 k a0 K0 m o12 (Go.IntKind.wrap .i64 (x7 + 1)))))) else
        (K0 x6 x7))
def ref01_Texts : Nat → ((List Str)) → Option ((List Int) × Int)
  | 0, _ => none
  | k + 1, a0 =>
    (bif (decide ((a0.length : Int) > 255)) then (some (([] : List Int), 2)) else
      (ref01_Texts_L1 k a0 (fun y13 y14 =>
        (some (y13, 0))) k ([(Go.IntKind.wrap .u8 (a0.length : Int))] : List Int) 0))
def law01_OctetBytes : Nat → (T_arr2_Int) → (Str) → ((List Str)) → Option Bool
  | 0, _, _, _ => none
  | k + 1, a0, a1, a2 =>
    (((law01_Large k a2).bind fun v1 => (bif v1 then (some (true)) else (some ((decide ((a1.length : Int) > 300)))))).bind fun o2 =>
      (bif o2 then ((law01_First k).bind fun o4 =>
        (some o4)) else
      (((octet_Small k a0.e0).bind fun v5 => (some (v5.1, v5.2))).bind fun o6 =>
        (((ref01_Small k a0.e0).bind fun v7 => (some (v7.1, v7.2))).bind fun o8 =>
        ((bif (!((Go.AE.strB o6.1) == (Go.AE.strB o8.1))) then (some (true)) else (some ((o6.2 != o8.2)))).bind fun o9 =>
        (bif o9 then (some false) else
        (((octet_Number k a0.e1).bind fun v10 => (some (v10.1, v10.2))).bind fun o11 =>
          (((ref01_Number k a0.e1).bind fun v12 => (some (v12.1, v12.2))).bind fun o13 =>
          ((bif (!((Go.AE.strB o11.1) == (Go.AE.strB o13.1))) then (some (true)) else (some ((o11.2 != o13.2)))).bind fun o14 =>
          (bif o14 then (some false) else
          (((octet_Text k a1).bind fun v15 => (some (v15.1, v15.2))).bind fun o16 =>
            (((ref01_Text k a1).bind fun v17 => (some (v17.1, v17.2))).bind fun o18 =>
            ((bif (!((Go.AE.strB o16.1) == (Go.AE.strB o18.1))) then (some (true)) else (some ((o16.2 != o18.2)))).bind fun o19 =>
            (bif o19 then (some false) else
            (((octet_Texts k a2).bind fun v20 => (some (v20.1, v20.2))).bind fun o21 =>
              (((ref01_Texts k a2).bind fun v22 => (some (v22.1, v22.2))).bind fun o23 =>
              ((bif ((Go.AE.strB o21.1) == (Go.AE.strB o23.1)) then (bif (o21.2 == o23.2) then (law01_First k) else (some (false))) else (some (false))).bind fun o25 =>
              (some o25))))))))))))))))))
end Go.Sh
namespace Go.Sh
open Go.AE
set_option linter.unusedVariables false
theorem maxLen_eq : maxLen = 9223372036854775807 := rfl
theorem wrap_in {x : Int} (h : -9223372036854775808 ≤ x) (h' : x ≤ 9223372036854775807) : Go.IntKind.wrap .i64 x = x := IntWalk.i64_in x ⟨h, h'⟩
theorem wrap_next {i n : Nat} (h : i < n) (hn : n ≤ maxLen) : Go.IntKind.wrap .i64 ((i : Int) + 1) = ((i + 1 : Nat) : Int) := by
  rw [wrap_in] <;> (try rw [maxLen_eq] at hn) <;> omega
theorem idx_at {α : Type} {l : List α} {i : Nat} (h : i < l.length) : idx l (i : Int) = some l[i] := by
  unfold idx
  rw [if_pos (by omega), Int.toNat_natCast, List.getElem?_eq_getElem h]
theorem app_ok {α : Type} {l m : List α} (h : l.length + m.length ≤ maxList) : app l m = some (l ++ m) := by
  unfold app; rw [if_pos h]
end Go.Sh

namespace Go.Sh
open Go.AE
set_option linter.unusedVariables false
set_option linter.unusedSimpArgs false
theorem wrap8 (n : Int) : Go.IntKind.wrap .u8 n = n % 256 := by
  unfold Go.IntKind.wrap
  rfl
def largeL (l : List Str) : Bool := l.any (fun s => decide ((s.length : Int) > 300)) || decide ((l.length : Int) > 300)
theorem large01_ok {k : Nat} {l : List Str} (hk : maxLen + 2 ≤ k) (hl : l.length ≤ maxLen) : law01_Large k l = some (largeL l) := by
  obtain ⟨k, rfl⟩ : ∃ q, k = q + 1 := ⟨k - 1, by omega⟩
  have main : ∀ d i m : Nat, i + d = l.length → d < m → law01_Large_L1 l (fun _ => some (decide ((l.length : Int) > 300))) m (i : Int) = some ((l.drop i).any (fun s => decide ((s.length : Int) > 300)) || decide ((l.length : Int) > 300)) := by
    intro d
    induction d with
    | zero =>
      intro i m hd hm
      obtain ⟨m, rfl⟩ : ∃ q, m = q + 1 := ⟨m - 1, by omega⟩
      obtain rfl : i = l.length := by omega
      simp only [law01_Large_L1, show decide ((l.length : Int) < (l.length : Int)) = false by simp, cond_false, List.drop_length, List.any_nil, Bool.false_or]
    | succ d ih =>
      intro i m hd hm
      obtain ⟨m, rfl⟩ : ∃ q, m = q + 1 := ⟨m - 1, by omega⟩
      have hi : i < l.length := by omega
      simp only [law01_Large_L1, show decide ((i : Int) < (l.length : Int)) = true by simp; exact hi, cond_true, idx_at hi, Option.bind_some, wrap_next hi hl]
      rw [ih (i + 1) m (by omega) (by omega), List.drop_eq_getElem_cons hi, List.any_cons]
      cases decide ((l[i].length : Int) > 300) <;> rfl
  exact main l.length 0 k (by omega) (by omega)
theorem large_bounds {l : List Str} (h : largeL l = false) : l.length ≤ 300 ∧ ∀ s ∈ l, s.length ≤ 300 := by
  unfold largeL at h
  rw [Bool.or_eq_false_iff, List.any_eq_false] at h
  obtain ⟨h1, h2⟩ := h
  rw [decide_eq_false_iff_not] at h2
  exact ⟨by omega, fun s hs => by have := h1 s hs; simp at this; omega⟩
def textOf (s : Str) : List Int × Int := bif decide ((s.length : Int) > 255) then ([], 2) else ((s.length : Int) % 256 :: bytesB s, 0)
theorem bytesB_len (s : Str) : (bytesB s).length = s.length := by
  unfold bytesB
  rw [List.length_map]
theorem octet_Text_ok {k : Nat} {s : Str} (hk : 1 ≤ k) (hs : s.length ≤ 300) : octet_Text k s = some (textOf s) := by
  obtain ⟨k, rfl⟩ : ∃ q, k = q + 1 := ⟨k - 1, by omega⟩
  have e : app ([(s.length : Int) % 256] : List Int) (bytesB s) = some ([(s.length : Int) % 256] ++ bytesB s) := app_ok (by rw [bytesB_len]; simp only [List.length_cons, List.length_nil, maxList]; omega)
  simp only [octet_Text, wrap8, e, Option.bind_some, textOf]
  cases decide ((s.length : Int) > 255) <;> rfl
theorem ref01_Text_ok {k : Nat} {s : Str} (hk : 1 ≤ k) (hs : s.length ≤ 300) : ref01_Text k s = some (textOf s) := by
  obtain ⟨k, rfl⟩ : ∃ q, k = q + 1 := ⟨k - 1, by omega⟩
  have e : app ([(s.length : Int) % 256] : List Int) (bytesB s) = some ([(s.length : Int) % 256] ++ bytesB s) := app_ok (by rw [bytesB_len]; simp only [List.length_cons, List.length_nil, maxList]; omega)
  simp only [ref01_Text, wrap8, e, Option.bind_some, textOf]
  cases decide ((s.length : Int) > 255) <;> rfl
def textsGo : List Int → List Str → List Int × Int
  | out, [] => (out, 0)
  | out, s :: r => bif (textOf s).2 != 0 then ([], (textOf s).2) else textsGo (out ++ (textOf s).1) r
def textsOf (l : List Str) : List Int × Int := bif decide ((l.length : Int) > 255) then ([], 2) else textsGo [(l.length : Int) % 256] l
theorem textOf_len (s : Str) (hs : s.length ≤ 300) : (textOf s).1.length ≤ 301 := by
  unfold textOf
  cases decide ((s.length : Int) > 255)
  · simp only [cond_false, List.length_cons, bytesB_len]; omega
  · simp only [cond_true, List.length_nil]; omega
theorem octet_Texts_L1_ok {k : Nat} {l : List Str} (hk : 1 ≤ k) (hn : l.length ≤ 300) (hl : ∀ s ∈ l, s.length ≤ 300) : ∀ (d i m : Nat) (out : List Int), i + d = l.length → d < m → out.length ≤ 1000 + i * 301 → octet_Texts_L1 k l (fun y15 _ => some (y15, 0)) m out (i : Int) = some (textsGo out (l.drop i))
  | 0, i, m, out, hd, hm, ho => by
    obtain ⟨m, rfl⟩ : ∃ q, m = q + 1 := ⟨m - 1, by omega⟩
    obtain rfl : i = l.length := by omega
    simp only [octet_Texts_L1, show decide ((l.length : Int) < (l.length : Int)) = false by simp, cond_false, List.drop_length, textsGo]
  | d + 1, i, m, out, hd, hm, ho => by
    obtain ⟨m, rfl⟩ : ∃ q, m = q + 1 := ⟨m - 1, by omega⟩
    have hi : i < l.length := by omega
    have hs := hl l[i] (List.getElem_mem hi)
    have h1 := textOf_len l[i] hs
    have e : app out (textOf l[i]).1 = some (out ++ (textOf l[i]).1) := app_ok (by simp only [maxList]; omega)
    simp only [octet_Texts_L1, show decide ((i : Int) < (l.length : Int)) = true by simp; exact hi, cond_true, idx_at hi, octet_Text_ok hk hs, e, Option.bind_some, wrap_next hi (show l.length ≤ maxLen by have := maxLen_eq; omega)]
    rw [octet_Texts_L1_ok hk hn hl d (i + 1) m _ (by omega) (by omega) (by rw [List.length_append, Nat.add_mul]; omega), List.drop_eq_getElem_cons hi, textsGo]
    cases (textOf l[i]).2 != 0 <;> rfl
theorem octet_Texts_ok {k : Nat} {l : List Str} (hk : 1000 ≤ k) (hn : l.length ≤ 300) (hl : ∀ s ∈ l, s.length ≤ 300) : octet_Texts k l = some (textsOf l) := by
  obtain ⟨k, rfl⟩ : ∃ q, k = q + 1 := ⟨k - 1, by omega⟩
  have h := octet_Texts_L1_ok (k := k) (by omega) hn hl l.length 0 k [(l.length : Int) % 256] (by omega) (by omega) (by simp only [List.length_cons, List.length_nil]; omega)
  simp only [octet_Texts, wrap8, textsOf]
  cases decide ((l.length : Int) > 255)
  · exact h
  · rfl
theorem ref01_Texts_L1_eq (k : Nat) (hk : 1 ≤ k) (l : List Str) (hl : ∀ s ∈ l, s.length ≤ 300) (K : List Int → Int → Option (List Int × Int)) : ∀ m out x, ref01_Texts_L1 k l K m out x = octet_Texts_L1 k l K m out x
  | 0, _, _ => rfl
  | m + 1, out, x => by
    simp only [ref01_Texts_L1, octet_Texts_L1]
    cases hx : idx l x with
    | none => rfl
    | some s =>
      have hs : s.length ≤ 300 := by
        unfold idx at hx
        split at hx
        · exact hl s (List.mem_of_getElem? hx)
        · cases hx
      simp only [Option.bind_some, octet_Text_ok hk hs, ref01_Text_ok hk hs, ref01_Texts_L1_eq k hk l hl K m]
theorem ref01_Texts_ok {k : Nat} {l : List Str} (hk : 1000 ≤ k) (hn : l.length ≤ 300) (hl : ∀ s ∈ l, s.length ≤ 300) : ref01_Texts k l = some (textsOf l) := by
  obtain ⟨k, rfl⟩ : ∃ q, k = q + 1 := ⟨k - 1, by omega⟩
  rw [← octet_Texts_ok hk hn hl]
  simp only [ref01_Texts, octet_Texts, ref01_Texts_L1_eq k (by omega) l hl]
theorem small_eq (k : Nat) (n : Int) : ref01_Small k n = octet_Small k n := by
  cases k <;> rfl
theorem small_total (k : Nat) (n : Int) : ∃ r, octet_Small (k + 1) n = some r := by
  simp only [octet_Small]
  cases decide (n < 0) <;> cases decide (n > 255) <;> exact ⟨_, rfl⟩
def numOf (n : Int) : List Int × Int := bif decide (n < 0) || decide (n > 4294967295) then ([], 2) else ([n / 16777216 % 256, n / 65536 % 256, n / 256 % 256, n % 256], 0)
theorem octet_Number_ok {k : Nat} (hk : 1 ≤ k) (n : Int) : octet_Number k n = some (numOf n) := by
  obtain ⟨k, rfl⟩ : ∃ q, k = q + 1 := ⟨k - 1, by omega⟩
  have e1 : shrI .i64 n 24 = some (n / 16777216) := by
    unfold shrI
    rw [if_neg (by omega)]
    exact congrArg some (Int.fdiv_eq_ediv_of_nonneg n (by decide))
  have e2 : shrI .i64 n 16 = some (n / 65536) := by
    unfold shrI
    rw [if_neg (by omega)]
    exact congrArg some (Int.fdiv_eq_ediv_of_nonneg n (by decide))
  have e3 : shrI .i64 n 8 = some (n / 256) := by
    unfold shrI
    rw [if_neg (by omega)]
    exact congrArg some (Int.fdiv_eq_ediv_of_nonneg n (by decide))
  simp only [octet_Number, wrap8, e1, e2, e3, Option.bind_some, numOf]
  cases decide (n < 0) <;> cases decide (n > 4294967295) <;> rfl
theorem quo_pos {n c : Int} (h0 : 0 ≤ n) (h1 : n ≤ 4294967295) (hc : 1 ≤ c) : quoI .i64 n c = some (n / c) := by
  have hd : 0 ≤ n / c := Int.ediv_nonneg h0 (by omega)
  have hd2 : n / c ≤ n := Int.ediv_le_self c h0
  unfold quoI
  rw [if_neg (by omega), Int.tdiv_eq_ediv_of_nonneg h0, wrap_in (by omega) (by omega)]
theorem rem_pos {n : Int} (h0 : 0 ≤ n) : remE n 256 = some (n % 256) := by
  unfold remE
  rw [if_neg (by omega), Int.tmod_eq_emod_of_nonneg h0]
theorem ref01_Number_ok {k : Nat} (hk : 2 ≤ k) (n : Int) : ref01_Number k n = some (numOf n) := by
  obtain ⟨k, rfl⟩ : ∃ q, k = q + 2 := ⟨k - 2, by omega⟩
  unfold numOf
  by_cases h0 : n < 0
  · simp only [ref01_Number, decide_eq_true h0, cond_true, Option.bind_some, Bool.true_or]
  by_cases h1 : n > 4294967295
  · simp only [ref01_Number, decide_eq_false h0, decide_eq_true h1, cond_true, cond_false, Option.bind_some, Bool.or_true]
  have g0 : 0 ≤ n := by omega
  have g1 : n ≤ 4294967295 := by omega
  simp only [ref01_Number, ref01_number, decide_eq_false h0, decide_eq_false h1, cond_false, Option.bind_some, Bool.or_false, quo_pos g0 g1 (show (1 : Int) ≤ 16777216 by omega), quo_pos g0 g1 (show (1 : Int) ≤ 65536 by omega), quo_pos g0 g1 (show (1 : Int) ≤ 256 by omega), rem_pos (Int.ediv_nonneg g0 (show (0 : Int) ≤ 65536 by omega)), rem_pos (Int.ediv_nonneg g0 (show (0 : Int) ≤ 256 by omega)), rem_pos g0, wrap8, Int.emod_emod]
theorem first01 {k : Nat} (hk : 20 ≤ k) : law01_First k = some true := by
  obtain ⟨k, rfl⟩ : ∃ q, k = q + 20 := ⟨k - 20, by omega⟩
  rfl
theorem law_law01_OctetBytes (a : T_arr2_Int) (s : Str) (l : List Str) (ha : wf_T_arr2_Int a) (hs : wfS s) (hl : wfL wfS l) : ∃ k, law01_OctetBytes k a s l = some true := by
  obtain ⟨k, hk, hk2⟩ : ∃ k, maxLen + 59 ≤ k ∧ 1000 ≤ k := ⟨maxLen + 59, Nat.le_refl _, by have := maxLen_eq; omega⟩
  refine ⟨k + 1, ?_⟩
  have h5 := first01 (k := k) (by omega)
  simp only [law01_OctetBytes, h5, large01_ok (show maxLen + 2 ≤ k by omega) hl.1, Option.bind_some]
  cases h : largeL l with
  | true => rfl
  | false =>
    obtain ⟨l1, l2⟩ := large_bounds h
    cases h2 : decide ((s.length : Int) > 300) with
    | true => rfl
    | false =>
      have s1 : s.length ≤ 300 := by rw [decide_eq_false_iff_not] at h2; omega
      obtain ⟨r, hr⟩ := small_total (k - 1) a.e0
      rw [show k - 1 + 1 = k by omega] at hr
      simp only [cond_false, cond_true, small_eq, hr, octet_Number_ok (show 1 ≤ k by omega), ref01_Number_ok (show 2 ≤ k by omega), octet_Text_ok (show 1 ≤ k by omega) s1, ref01_Text_ok (show 1 ≤ k by omega) s1, octet_Texts_ok (show 1000 ≤ k by omega) l1 l2, ref01_Texts_ok (show 1000 ≤ k by omega) l1 l2, Option.bind_some, beq_self_eq_true, bne_self_eq_false, Bool.not_true]
end Go.Sh

