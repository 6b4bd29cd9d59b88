/- The functions as functions on lists, and what they come to: no program in sight. Conditions: those that each theorem names. -/
import Derived.Test.YteecoopnleidaaaDoorA3
import Derived.IntWalk
namespace Go.Sh
open Go.AE (idx idxS cut cat app upTo inB sameLen revInt wfI wfS wfL wfT mkN repS repL joinS cmpB idxB quoI remE shlI shrI andI orI xorI catL bytesB itoaA repG trimR fdS runeS)
set_option linter.unusedVariables false
abbrev Str := List UInt8
structure T_arr3_Int where
  e0 : Int
  e1 : Int
  e2 : Int
  deriving DecidableEq
def wf_T_arr3_Int (a : T_arr3_Int) : Prop := (wfI .i64) a.e0 ∧ (wfI .i64) a.e1 ∧ (wfI .i64) a.e2 ∧ wfT ()
def octet_Text : Nat → (Str) → Option ((List Int) × Int)
  | 0, _ => none
  | k + 1, a0 =>
    (bif (decide ((a0.length : Int) > 255)) then (some (([] : List Int), 2)) else
      (((app ([(Go.IntKind.wrap .u8 (a0.length : Int))] : List Int) (bytesB a0)).bind fun v1 => (some (v1, 0))).bind fun o2 =>
        (some (o2.1, o2.2))))
def octet_Number : Nat → (Int) → Option ((List Int) × Int)
  | 0, _ => none
  | k + 1, a0 =>
    ((bif (decide (a0 < 0)) then (some (true)) else (some ((decide (a0 > 4294967295))))).bind fun o1 =>
      (bif o1 then (some (([] : List Int), 2)) else
      (((shrI .i64 a0 24).bind fun v2 => ((shrI .i64 a0 16).bind fun v3 => ((shrI .i64 a0 8).bind fun v4 => (some (([(Go.IntKind.wrap .u8 v2), (Go.IntKind.wrap .u8 v3), (Go.IntKind.wrap .u8 v4), (Go.IntKind.wrap .u8 a0)] : List Int), 0))))).bind fun o5 =>
        (some (o5.1, o5.2)))))
def strconv_Itoa : Nat → Int → Option Str
  | 0, _ => none
  | _ + 1, n => itoaA n
def strings_Repeat : Nat → Str → Int → Option Str
  | 0, _, _ => none
  | _ + 1, s, n => repS s n
def octet_Digits : Nat → (Int) → (Int) → Option (Str × Int)
  | 0, _, _ => none
  | k + 1, a0, a1 =>
    ((strconv_Itoa k a0).bind fun o2 =>
      ((bif (decide (a0 < 0)) then (some (true)) else (bif (decide (a1 < 1)) then (some (true)) else (bif (decide (a1 > 9)) then (some (true)) else (some ((decide ((o2.length : Int) > a1))))))).bind fun o3 =>
      (bif o3 then (some (([] : Str), 2)) else
      (((strings_Repeat k ([48] : Str) (Go.IntKind.wrap .i64 (a1 - (o2.length : Int)))).bind fun v4 => ((cat v4 o2).bind fun v5 => (some (v5, 0)))).bind fun o6 =>
        (some (o6.1, o6.2))))))
def octet_Pad : Nat → (Str) → (Int) → Option (Str × Int)
  | 0, _, _ => none
  | k + 1, a0, a1 =>
    ((bif (decide (a1 < (a0.length : Int))) then (some (true)) else (some ((decide (a1 > 255))))).bind fun o1 =>
      (bif o1 then (some (([] : Str), 2)) else
      (((strings_Repeat k ([32] : Str) (Go.IntKind.wrap .i64 (a1 - (a0.length : Int)))).bind fun v2 => ((cat a0 v2).bind fun v3 => (some (v3, 0)))).bind fun o4 =>
        (some (o4.1, o4.2)))))
def strings_ReplaceAll : Nat → Str → Str → Str → Option Str
  | 0, _, _, _ => none
  | _ + 1, s, o, n => repG s o n
def octet_Key_L1 (k : Nat) (a0 : (List Str))  (K0 : (List Int) → Int → Option (List Int)) : Nat → (List Int) → Int → Option (List Int)
  | 0, _, _ => none
  | m + 1, x8, x9 =>
    (bif (decide (x9 < (a0.length : Int))) then ((idx a0 x9).bind fun o11 =>
          (((strings_ReplaceAll k o11 ([0] : Str) ([0, 255] : Str)).bind fun v12 => (app x8 (bytesB v12))).bind fun o14 =>
          ((app o14 ([0, 1] : List Int)).bind fun o16 =>
          (octet_Key_L1 k a0 K0 m o16 (Go.IntKind.wrap .i64 (x9 + 1)))))) else
        (K0 x8 x9))
def octet_Key : Nat → ((List Str)) → Option (List Int)
  | 0, _ => none
  | k + 1, a0 =>
    (octet_Key_L1 k a0 (fun y17 y18 =>
      (some y17)) k ([] : List Int) 0)
def law01_First : Nat → Option Bool
  | _ + 5 => some true
  | _ => none
def ref01_Pad_L1 (a1 : Int)  (K0 : Str → Option (Str × Int)) : Nat → Str → Option (Str × Int)
  | 0, _ => none
  | m + 1, x4 =>
    (bif (decide ((x4.length : Int) < a1)) then ((cat x4 ([32] : Str)).bind fun o6 =>
          (ref01_Pad_L1 a1 K0 m o6)) else
        (K0 x4))
def ref01_Pad : Nat → (Str) → (Int) → Option (Str × Int)
  | 0, _, _ => none
  | k + 1, a0, a1 =>
    ((bif (decide (a1 < 0)) then (some (true)) else (bif (decide (a1 > 255)) then (some (true)) else (some ((decide ((a0.length : Int) > a1)))))).bind fun o1 =>
      (bif o1 then (some (([] : Str), 2)) else
      (ref01_Pad_L1 a1 (fun y7 =>
        (some (y7, 0))) k a0)))
def strings_TrimRight : Nat → Str → Str → Option Str
  | 0, _, _ => none
  | _ + 1, s, n => trimR s n
def octet_Trim : Nat → (Str) → Option Str
  | 0, _ => none
  | k + 1, a0 =>
    ((strings_TrimRight k a0 ([32] : Str)).bind fun o2 =>
      (some o2))
def ref01_Trim_L1   (K0 : Str → Option Str) : Nat → Str → Option Str
  | 0, _ => none
  | m + 1, x5 =>
    ((bif (decide ((x5.length : Int) > 0)) then ((idxS x5 (Go.IntKind.wrap .i64 ((x5.length : Int) - 1))).bind fun v6 => (some ((v6 == 32)))) else (some (false))).bind fun o7 =>
        (bif o7 then ((cut x5 0 (Go.IntKind.wrap .i64 ((x5.length : Int) - 1))).bind fun o9 =>
          (ref01_Trim_L1 K0 m o9)) else
        (K0 x5)))
def ref01_Trim : Nat → (Str) → Option Str
  | 0, _ => none
  | k + 1, a0 =>
    (ref01_Trim_L1 (fun y10 =>
      (some y10)) k a0)
def octet_FromDigits : Nat → Str → Option (Int × Int)
  | 0, _ => none
  | _ + 1, s => some (fdS s)
def ref01_FromDigits_L1 (a0 : Str)  (K0 : Int → Int → Option (Int × Int)) : Nat → Int → Int → Option (Int × Int)
  | 0, _, _ => none
  | m + 1, x7, x8 =>
    (bif (decide (x8 < (a0.length : Int))) then (((idxS a0 x8).bind fun v9 => (bif (decide (v9 < 48)) then (some (true)) else ((idxS a0 x8).bind fun v10 => (some ((decide (v10 > 57))))))).bind fun o11 =>
          (bif o11 then (some (0, 3)) else
          (((idxS a0 x8).bind fun v12 => (some ((Go.IntKind.wrap .i64 ((Go.IntKind.wrap .i64 (10 * x7)) + (Go.IntKind.wrap .i64 (Go.IntKind.wrap .u8 (v12 - 48)))))))).bind fun o13 =>
            (ref01_FromDigits_L1 a0 K0 m o13 (Go.IntKind.wrap .i64 (x8 + 1)))))) else
        (K0 x7 x8))
def ref01_FromDigits : Nat → (Str) → Option (Int × Int)
  | 0, _ => none
  | k + 1, a0 =>
    ((bif (decide ((a0.length : Int) < 1)) then (some (true)) else (some ((decide ((a0.length : Int) > 9))))).bind fun o1 =>
      (bif o1 then (some (0, 3)) else
      (ref01_FromDigits_L1 a0 (fun y14 y15 =>
        (some (y14, 0))) k 0 0)))
def ref01_Dec : Nat → (Int) → Option Str
  | 0, _ => none
  | k + 1, a0 =>
    ((bif (decide (a0 < 0)) then (some ((decide (a0 > (-10))))) else (some (false))).bind fun o1 =>
      (bif o1 then (((ref01_Dec k (Go.IntKind.wrap .i64 (0 - a0))).bind fun v2 => (cat ([45] : Str) v2)).bind fun o4 =>
        (some o4)) else
      (bif (decide (a0 < 0)) then (((quoI .i64 a0 10).bind fun v5 => ((ref01_Dec k v5).bind fun v6 => ((remE a0 10).bind fun v7 => ((ref01_Dec k (Go.IntKind.wrap .i64 (0 - v7))).bind fun v8 => (cat v6 v8))))).bind fun o10 =>
          (some o10)) else
        (bif (decide (a0 < 10)) then ((runeS (Go.IntKind.wrap .i32 (Go.IntKind.wrap .i64 (48 + a0)))).bind fun o12 =>
            (some o12)) else
          (((quoI .i64 a0 10).bind fun v13 => ((ref01_Dec k v13).bind fun v14 => ((remE a0 10).bind fun v15 => ((runeS (Go.IntKind.wrap .i32 (Go.IntKind.wrap .i64 (48 + v15)))).bind fun v16 => (cat v14 v16))))).bind fun o18 =>
            (some o18))))))
def ref01_Digits_L1 (a1 : Int)  (K0 : Str → Option (Str × Int)) : Nat → Str → Option (Str × Int)
  | 0, _ => none
  | m + 1, x7 =>
    (bif (decide ((x7.length : Int) < a1)) then ((cat ([48] : Str) x7).bind fun o9 =>
          (ref01_Digits_L1 a1 K0 m o9)) else
        (K0 x7))
def ref01_Digits : Nat → (Int) → (Int) → Option (Str × Int)
  | 0, _, _ => none
  | k + 1, a0, a1 =>
    ((bif (decide (a0 < 0)) then (some (true)) else (bif (decide (a1 < 1)) then (some (true)) else (bif (decide (a1 > 9)) then (some (true)) else ((ref01_Dec k a0).bind fun v1 => (some ((decide ((v1.length : Int) > a1)))))))).bind fun o2 =>
      (bif o2 then (some (([] : Str), 2)) else
      ((ref01_Dec k a0).bind fun o4 =>
        (ref01_Digits_L1 a1 (fun y10 =>
        (some (y10, 0))) k o4))))
def law01_OctetDigits : Nat → (Str) → (T_arr3_Int) → Option Bool
  | 0, _, _ => none
  | k + 1, a0, a1 =>
    (bif (decide ((a0.length : Int) > 300)) then ((law01_First k).bind fun o2 =>
        (some o2)) else
      (((octet_Pad k a0 a1.e0).bind fun v3 => (some (v3.1, v3.2))).bind fun o4 =>
        (((ref01_Pad k a0 a1.e0).bind fun v5 => (some (v5.1, v5.2))).bind fun o6 =>
        ((bif (!(o4.1 == o6.1)) then (some (true)) else (bif (o4.2 != o6.2) then (some (true)) else (bif (o4.2 == 0) then ((octet_Trim k o4.1).bind fun v7 => ((octet_Trim k a0).bind fun v8 => (bif (!(v7 == v8)) then (some (true)) else ((octet_Trim k a0).bind fun v9 => ((ref01_Trim k a0).bind fun v10 => (some ((!(v9 == v10))))))))) else ((octet_Trim k a0).bind fun v11 => ((ref01_Trim k a0).bind fun v12 => (some ((!(v11 == v12))))))))).bind fun o13 =>
        (bif o13 then (some false) else
        (((octet_FromDigits k a0).bind fun v14 => (some (v14.2, v14.1))).bind fun o15 =>
          (((ref01_FromDigits k a0).bind fun v16 => (some (v16.2, v16.1))).bind fun o17 =>
          ((bif (o15.2 != o17.2) then (some (true)) else (some ((o15.1 != o17.1)))).bind fun o18 =>
          (bif o18 then (some false) else
          (((octet_Digits k a1.e1 a1.e2).bind fun v19 => (some (v19.1, v19.2))).bind fun o20 =>
            (((ref01_Digits k a1.e1 a1.e2).bind fun v21 => (some (v21.1, v21.2))).bind fun o22 =>
            ((bif (!(o20.1 == o22.1)) then (some (true)) else (some ((o20.2 != o22.2)))).bind fun o23 =>
            (bif o23 then (some false) else
            (bif (o20.2 == 0) then (((octet_FromDigits k o20.1).bind fun v24 => (some (v24.1, v24.2))).bind fun o25 =>
                ((bif (o25.2 != 0) then (some (true)) else (some ((o25.1 != a1.e1)))).bind fun o26 =>
                (bif o26 then (some false) else
                ((law01_First k).bind fun o28 =>
                  (some o28))))) else
              ((law01_First k).bind fun o30 =>
                (some o30))))))))))))))))
end Go.Sh
namespace Go.Sh
open Go.AE
set_option linter.unusedVariables false
theorem wrap_in {x : Int} (h : -9223372036854775808 ≤ x) (h' : x ≤ 9223372036854775807) : Go.IntKind.wrap .i64 x = x := IntWalk.i64_in x ⟨h, h'⟩
theorem wfI_in {n : Int} (h : wfI .i64 n) : -9223372036854775808 ≤ n ∧ n ≤ 9223372036854775807 := by
  unfold wfI Lit.wf at h
  simp only [Bool.and_eq_true, decide_eq_true_eq] at h
  have e1 : IntKind.i64.min = -9223372036854775808 := by decide
  have e2 : IntKind.i64.max = 9223372036854775807 := by decide
  rw [e1, e2] at h
  exact h
theorem idxS_at {l : List UInt8} {i : Nat} (h : i < l.length) : idxS l (i : Int) = some (l[i].toNat : Int) := by
  unfold idxS
  rw [if_pos (by omega), Int.toNat_natCast, List.getElem?_eq_getElem h]
  rfl
def scan {β : Type} (g : Nat → Bool) (r : Nat → β) (z : β) : Nat → Nat → β
  | 0, _ => z
  | d + 1, i => bif g i then r i else scan g r z d (i + 1)
/-- Places of a list. -/
def at' {α : Type} (l : List α) (p : α → Bool) (i : Nat) : Bool := match l[i]? with | some x => p x | none => false
/-- The first place where it holds, or -1. -/
def pos {α : Type} (l : List α) (p : α → Bool) : Int := scan (at' l p) (fun i => (i : Int)) (-1) l.length 0
end Go.Sh

namespace Go.Sh
open Go.AE
set_option linter.unusedVariables false
set_option linter.unusedSimpArgs false
theorem first01 {k : Nat} (hk : 20 ≤ k) : law01_First k = some true := by
  obtain ⟨k, rfl⟩ : ∃ q, k = q + 20 := ⟨k - 20, by omega⟩
  rfl
end Go.Sh

namespace Go.Sh
open Go.AE
set_option linter.unusedVariables false
set_option linter.unusedSimpArgs false
theorem cat_ok6 {a b : Str} (h : a.length + b.length ≤ maxList) : cat a b = some (a ++ b) := by
  unfold cat; rw [if_pos h]
theorem repS_one6 {n : Int} (h0 : 0 ≤ n) (h : n ≤ 1000000) (c : UInt8) : repS [c] n = some (List.replicate n.toNat c) := by
  unfold repS
  rw [if_pos ⟨h0, h, by simp⟩]
  congr 1
  generalize n.toNat = m
  induction m with
  | zero => rfl
  | succ m ih => rw [List.replicate_succ, List.replicate_succ, List.flatten_cons, ih]; rfl
theorem trimB_last (l : Str) (c b : UInt8) : Go.Lib.trimRightB (l ++ [b]) c = if b = c then Go.Lib.trimRightB l c else l ++ [b] := by
  unfold Go.Lib.trimRightB
  rw [List.reverse_append, List.reverse_singleton, List.singleton_append, List.dropWhile_cons]
  by_cases h : b = c
  · rw [if_pos h, if_pos (by simp [h])]
  · rw [if_neg h, if_neg (by simp [h]), List.reverse_cons, List.reverse_reverse]
theorem trimB_rep (l : Str) (c : UInt8) : ∀ n : Nat, Go.Lib.trimRightB (l ++ List.replicate n c) c = Go.Lib.trimRightB l c
  | 0 => by rw [List.replicate_zero, List.append_nil]
  | n + 1 => by rw [List.replicate_succ', ← List.append_assoc, trimB_last, if_pos rfl, trimB_rep l c n]
theorem idxS_last (l : Str) (b : UInt8) : idxS (l ++ [b]) (l.length : Int) = some (b.toNat : Int) := by
  unfold idxS
  rw [if_pos (by omega), Int.toNat_natCast, List.getElem?_append_right (Nat.le_refl _), Nat.sub_self]
  rfl
theorem cut_init (l : Str) (b : UInt8) : cut (l ++ [b]) 0 (l.length : Int) = some l := by
  unfold cut
  rw [if_pos ⟨by omega, by omega, by rw [List.length_append]; omega⟩, Int.toNat_natCast, List.take_left]
  rfl
theorem byte32 (b : UInt8) : (((b.toNat : Int)) == 32) = decide (b = 32) := by
  by_cases h : b = 32
  · subst h; rfl
  · rw [decide_eq_false h]
    refine beq_eq_false_iff_ne.2 fun hq => h ?_
    apply UInt8.toNat_inj.1
    have : ((32 : UInt8).toNat : Int) = 32 := rfl
    omega
theorem refTrim_L1 {K : Str → Option Str} : ∀ (d : Nat) (s : Str) (m : Nat), s.length = d → d < m → d ≤ 1000000 → ref01_Trim_L1 K m s = K (Go.Lib.trimRightB s 32)
  | 0, s, m, hs, hm, hd => by
    obtain ⟨m, rfl⟩ : ∃ q, m = q + 1 := ⟨m - 1, by omega⟩
    obtain rfl := List.eq_nil_of_length_eq_zero hs
    rfl
  | d + 1, s, m, hs, hm, hd => by
    obtain ⟨m, rfl⟩ : ∃ q, m = q + 1 := ⟨m - 1, by omega⟩
    obtain ⟨l, b, rfl⟩ : ∃ l b, s = l ++ [b] := by
      rcases List.eq_nil_or_concat s with rfl | ⟨l, b, rfl⟩
      · simp at hs
      · exact ⟨l, b, List.concat_eq_append⟩
    simp only [List.length_append, List.length_cons, List.length_nil] at hs
    have hl : ((l ++ [b]).length : Int) = (l.length : Int) + 1 := by simp only [List.length_append, List.length_cons, List.length_nil]; omega
    have hw : Go.IntKind.wrap .i64 (((l ++ [b]).length : Int) - 1) = (l.length : Int) := by rw [wrap_in (by omega) (by omega)]; omega
    simp only [ref01_Trim_L1, hw, decide_eq_true (show ((l ++ [b]).length : Int) > 0 by omega), cond_true, idxS_last, Option.bind_some, byte32, trimB_last]
    by_cases h : b = 32
    · rw [if_pos h, decide_eq_true h]
      simp only [cond_true, cut_init, Option.bind_some]
      exact refTrim_L1 d l m (by omega) (by omega) (by omega)
    · rw [if_neg h, decide_eq_false h]
      rfl
theorem refTrim_ok {k : Nat} {s : Str} (hk : 1000002 ≤ k) (hs : s.length ≤ 1000000) : ref01_Trim k s = some (Go.Lib.trimRightB s 32) := by
  obtain ⟨k, rfl⟩ : ∃ q, k = q + 1 := ⟨k - 1, by omega⟩
  simp only [ref01_Trim]
  exact refTrim_L1 s.length s k rfl (by omega) hs
theorem octTrim_ok {k : Nat} {s : Str} (hk : 2 ≤ k) (hs : s.length ≤ 1000000) : octet_Trim k s = some (Go.Lib.trimRightB s 32) := by
  obtain ⟨k, rfl⟩ : ∃ q, k = q + 1 := ⟨k - 1, by omega⟩
  obtain ⟨k, rfl⟩ : ∃ q, k = q + 1 := ⟨k - 1, by omega⟩
  have h : trimR s [32] = some (Go.Lib.trimRightB s 32) := by
    show (if (32 : UInt8).toNat < 128 ∧ s.length ≤ 1000000 then some (Go.Lib.trimRightB s 32) else none) = _
    rw [if_pos ⟨by decide, hs⟩]
  simp only [octet_Trim, strings_TrimRight, h, Option.bind_some]
def padOf (s : Str) (n : Int) : Str × Int := if n < (s.length : Int) ∨ 255 < n then ([], 2) else (s ++ List.replicate (n - (s.length : Int)).toNat 32, 0)
theorem octPad_ok {k : Nat} {s : Str} {n : Int} (hk : 2 ≤ k) (hs : s.length ≤ 300) : octet_Pad k s n = some (padOf s n) := by
  obtain ⟨k, rfl⟩ : ∃ q, k = q + 1 := ⟨k - 1, by omega⟩
  obtain ⟨k, rfl⟩ : ∃ q, k = q + 1 := ⟨k - 1, by omega⟩
  unfold padOf
  by_cases h1 : n < (s.length : Int)
  · rw [if_pos (Or.inl h1)]
    simp only [octet_Pad, decide_eq_true h1, cond_true, Option.bind_some]
  · by_cases h2 : n > 255
    · rw [if_pos (Or.inr h2)]
      simp only [octet_Pad, decide_eq_false h1, decide_eq_true h2, cond_true, cond_false, Option.bind_some]
    · rw [if_neg (by omega)]
      have hw : Go.IntKind.wrap .i64 (n - (s.length : Int)) = n - (s.length : Int) := wrap_in (by omega) (by omega)
      have hr := repS_one6 (n := n - (s.length : Int)) (by omega) (by omega) 32
      have hc : cat s (List.replicate (n - (s.length : Int)).toNat 32) = some (s ++ List.replicate (n - (s.length : Int)).toNat 32) := cat_ok6 (by rw [List.length_replicate]; unfold maxList; omega)
      simp only [octet_Pad, decide_eq_false h1, decide_eq_false h2, cond_false, Option.bind_some, strings_Repeat, hw, hr, hc]
theorem refPad_L1 {n : Int} {K : Str → Option (Str × Int)} (hn : n ≤ 255) : ∀ (d : Nat) (s : Str) (m : Nat), n - (s.length : Int) = (d : Int) → d < m → ref01_Pad_L1 n K m s = K (s ++ List.replicate d 32)
  | 0, s, m, hs, hm => by
    obtain ⟨m, rfl⟩ : ∃ q, m = q + 1 := ⟨m - 1, by omega⟩
    simp only [ref01_Pad_L1, decide_eq_false (show ¬ (s.length : Int) < n by omega), cond_false, List.replicate_zero, List.append_nil]
  | d + 1, s, m, hs, hm => by
    obtain ⟨m, rfl⟩ : ∃ q, m = q + 1 := ⟨m - 1, by omega⟩
    have hc : cat s [32] = some (s ++ [32]) := cat_ok6 (by simp only [List.length_cons, List.length_nil]; unfold maxList; omega)
    simp only [ref01_Pad_L1, decide_eq_true (show (s.length : Int) < n by omega), cond_true, hc, Option.bind_some]
    rw [refPad_L1 hn d (s ++ [32]) m (by simp only [List.length_append, List.length_cons, List.length_nil]; omega) (by omega), List.append_assoc, List.replicate_succ]
    rfl
theorem refPad_ok {k : Nat} {s : Str} {n : Int} (hk : 1000 ≤ k) (hs : s.length ≤ 300) : ref01_Pad k s n = some (padOf s n) := by
  obtain ⟨k, rfl⟩ : ∃ q, k = q + 1 := ⟨k - 1, by omega⟩
  unfold padOf
  by_cases h0 : n < 0
  · rw [if_pos (Or.inl (by omega))]
    simp only [ref01_Pad, decide_eq_true h0, cond_true, Option.bind_some]
  · by_cases h2 : n > 255
    · rw [if_pos (Or.inr h2)]
      simp only [ref01_Pad, decide_eq_false h0, decide_eq_true h2, cond_true, cond_false, Option.bind_some]
    · by_cases h1 : (s.length : Int) > n
      · rw [if_pos (Or.inl (by omega))]
        simp only [ref01_Pad, decide_eq_false h0, decide_eq_false h2, decide_eq_true h1, cond_true, cond_false, Option.bind_some]
      · rw [if_neg (by omega)]
        simp only [ref01_Pad, decide_eq_false h0, decide_eq_false h2, decide_eq_false h1, cond_false, Option.bind_some]
        exact refPad_L1 (by omega) (n - (s.length : Int)).toNat s k (by omega) (by omega)
theorem fd_L1 {s : Str} (hl : s.length ≤ 9) : ∀ (d i m : Nat) (n : Int), i + d = s.length → d < m → 0 ≤ n → n < 10 ^ i → ref01_FromDigits_L1 s (fun y14 _ => some (y14, 0)) m n (i : Int) = some (fdGo (s.drop i) n)
  | 0, i, m, n, hi, hm, n0, n1 => by
    obtain ⟨m, rfl⟩ : ∃ q, m = q + 1 := ⟨m - 1, by omega⟩
    simp only [ref01_FromDigits_L1, decide_eq_false (show ¬ (i : Int) < (s.length : Int) by omega), cond_false]
    rw [List.drop_of_length_le (by omega)]
    rfl
  | d + 1, i, m, n, hi, hm, n0, n1 => by
    obtain ⟨m, rfl⟩ : ∃ q, m = q + 1 := ⟨m - 1, by omega⟩
    have hi' : i < s.length := by omega
    rw [List.drop_eq_getElem_cons hi', fdGo]
    have hb := s[i].toNat_lt
    have h9 : (10 : Int) ^ i ≤ 10 ^ 8 := by
      have := Nat.pow_le_pow_right (n := 10) (by omega) (show i ≤ 8 by omega)
      have e1 : ((10 ^ i : Nat) : Int) = 10 ^ i := Int.natCast_pow 10 i
      have e2 : ((10 ^ 8 : Nat) : Int) = 10 ^ 8 := Int.natCast_pow 10 8
      rw [← e1, ← e2]
      exact Int.ofNat_le.2 this
    have h8 : (10 : Int) ^ 8 = 100000000 := by decide
    have hp : (10 : Int) ^ (i + 1) = 10 ^ i * 10 := by rw [Int.pow_succ]
    have hw : Go.IntKind.wrap .i64 ((i : Int) + 1) = ((i + 1 : Nat) : Int) := by rw [wrap_in (by omega) (by omega)]; omega
    simp only [ref01_FromDigits_L1, decide_eq_true (show (i : Int) < (s.length : Int) by omega), cond_true, idxS_at hi', Option.bind_some, hw]
    by_cases h1 : s[i].toNat < 48
    · rw [if_pos (Or.inl h1), decide_eq_true (show (s[i].toNat : Int) < 48 by omega)]
      rfl
    · rw [decide_eq_false (show ¬ (s[i].toNat : Int) < 48 by omega)]
      by_cases h2 : 57 < s[i].toNat
      · rw [if_pos (Or.inr h2), decide_eq_true (show (s[i].toNat : Int) > 57 by omega)]
        rfl
      · rw [if_neg (by omega), decide_eq_false (show ¬ (s[i].toNat : Int) > 57 by omega)]
        have w1 : Go.IntKind.wrap .i64 (10 * n) = 10 * n := wrap_in (by omega) (by omega)
        have w2 : Go.IntKind.wrap .u8 ((s[i].toNat : Int) - 48) = (s[i].toNat : Int) - 48 := by
          show ((s[i].toNat : Int) - 48) % 256 = _
          exact Int.emod_eq_of_lt (by omega) (by omega)
        have w3 : Go.IntKind.wrap .i64 ((s[i].toNat : Int) - 48) = (s[i].toNat : Int) - 48 := wrap_in (by omega) (by omega)
        have w4 : Go.IntKind.wrap .i64 (10 * n + ((s[i].toNat : Int) - 48)) = 10 * n + ((s[i].toNat : Int) - 48) := wrap_in (by omega) (by omega)
        simp only [cond_false, Option.bind_some, w1, w2, w3, w4]
        exact fd_L1 hl d (i + 1) m _ (by omega) (by omega) (by omega) (by rw [hp]; omega)
theorem refFd_ok {k : Nat} {s : Str} (hk : 20 ≤ k) : ref01_FromDigits k s = some (fdS s) := by
  obtain ⟨k, rfl⟩ : ∃ q, k = q + 1 := ⟨k - 1, by omega⟩
  unfold fdS
  by_cases h1 : s.length < 1
  · rw [if_pos (Or.inl h1)]
    simp only [ref01_FromDigits, decide_eq_true (show (s.length : Int) < 1 by omega), cond_true, Option.bind_some]
  · by_cases h2 : 9 < s.length
    · rw [if_pos (Or.inr h2)]
      simp only [ref01_FromDigits, decide_eq_false (show ¬ (s.length : Int) < 1 by omega), decide_eq_true (show (s.length : Int) > 9 by omega), cond_true, cond_false, Option.bind_some]
    · rw [if_neg (by omega)]
      simp only [ref01_FromDigits, decide_eq_false (show ¬ (s.length : Int) < 1 by omega), decide_eq_false (show ¬ (s.length : Int) > 9 by omega), cond_false, Option.bind_some]
      exact fd_L1 (by omega) s.length 0 k 0 (by omega) (by omega) (by omega) (by decide)
theorem dec_small {u : Nat} (h : u < 10) : Go.Lib.decDigits u = [UInt8.ofNat (48 + u)] := by
  unfold Go.Lib.decDigits
  rw [dif_pos h]
theorem dec_large {u : Nat} (h : ¬ u < 10) : Go.Lib.decDigits u = Go.Lib.decDigits (u / 10) ++ [UInt8.ofNat (48 + u % 10)] := by
  rw [Go.Lib.decDigits, dif_neg h]
theorem rune_digit {d : Nat} (h : d < 10) : runeS (Go.IntKind.wrap .i32 (Go.IntKind.wrap .i64 (48 + (d : Int)))) = some [UInt8.ofNat (48 + d)] := by
  have w1 : Go.IntKind.wrap .i64 (48 + (d : Int)) = ((48 + d : Nat) : Int) := by rw [wrap_in (by omega) (by omega)]; omega
  have w2 : Go.IntKind.wrap .i32 ((48 + d : Nat) : Int) = ((48 + d : Nat) : Int) := by
    have : ((48 + d : Nat) : Int) % 4294967296 = ((48 + d : Nat) : Int) := by omega
    unfold Go.IntKind.wrap
    simp [Go.IntKind.bits, Go.IntKind.signed, this]
    omega
  rw [w1, w2]
  unfold runeS
  rw [if_pos ⟨by omega, by omega⟩, Int.toNat_natCast]
theorem dec_ok : ∀ (j k u : Nat), u < 10 ^ (j + 1) → j ≤ 19 → j + 1 ≤ k → u < 9223372036854775808 → ref01_Dec k (u : Int) = some (Go.Lib.decDigits u) ∧ (Go.Lib.decDigits u).length ≤ j + 1
  | 0, k, u, hu, hj, hk, hb => by
    obtain ⟨k, rfl⟩ : ∃ q, k = q + 1 := ⟨k - 1, by omega⟩
    have hu : u < 10 := by simpa using hu
    rw [dec_small hu]
    refine ⟨?_, by simp⟩
    simp only [ref01_Dec, decide_eq_false (show ¬ (u : Int) < 0 by omega), decide_eq_true (show (u : Int) < 10 by omega), cond_true, cond_false, Option.bind_some, rune_digit hu]
  | j + 1, k, u, hu, hj, hk, hb => by
    obtain ⟨k, rfl⟩ : ∃ q, k = q + 1 := ⟨k - 1, by omega⟩
    by_cases h : u < 10
    · rw [dec_small h]
      refine ⟨?_, by simp⟩
      simp only [ref01_Dec, decide_eq_false (show ¬ (u : Int) < 0 by omega), decide_eq_true (show (u : Int) < 10 by omega), cond_true, cond_false, Option.bind_some, rune_digit h]
    · have hd : u / 10 < 10 ^ (j + 1) := by
        rw [Nat.pow_succ] at hu
        omega
      obtain ⟨h1, h2⟩ := dec_ok j k (u / 10) hd (by omega) (by omega) (by omega)
      have q1 : quoI .i64 (u : Int) 10 = some ((u / 10 : Nat) : Int) := by
        unfold quoI
        rw [if_neg (by omega)]
        show some (Go.IntKind.wrap .i64 ((u : Int).tdiv 10)) = _
        rw [Int.tdiv_eq_ediv_of_nonneg (by omega), wrap_in (by omega) (by omega)]
        rfl
      have r1 : remE (u : Int) 10 = some ((u % 10 : Nat) : Int) := by
        unfold remE
        rw [if_neg (by omega)]
        show some ((u : Int).tmod 10) = _
        rw [Int.tmod_eq_emod_of_nonneg (by omega)]
        rfl
      have hc : cat (Go.Lib.decDigits (u / 10)) [UInt8.ofNat (48 + u % 10)] = some (Go.Lib.decDigits (u / 10) ++ [UInt8.ofNat (48 + u % 10)]) := cat_ok6 (by simp only [List.length_cons, List.length_nil]; unfold maxList; omega)
      rw [dec_large h]
      refine ⟨?_, by rw [List.length_append]; simp only [List.length_cons, List.length_nil]; omega⟩
      simp only [ref01_Dec, decide_eq_false (show ¬ (u : Int) < 0 by omega), decide_eq_false (show ¬ (u : Int) < 10 by omega), cond_false, Option.bind_some, q1, r1, h1, rune_digit (Nat.mod_lt u (show 10 > 0 by omega)), hc]
def digOf (n w : Int) : Str × Int := if n < 0 ∨ w < 1 ∨ 9 < w ∨ w < ((Go.Lib.decDigits n.toNat).length : Int) then ([], 2) else (List.replicate (w - ((Go.Lib.decDigits n.toNat).length : Int)).toNat 48 ++ Go.Lib.decDigits n.toNat, 0)
theorem itoaA_nonneg {n : Int} (h0 : 0 ≤ n) (h1 : n ≤ 9223372036854775807) : itoaA n = some (Go.Lib.decDigits n.toNat) := by
  unfold itoaA
  by_cases h : n < 10
  · rw [if_pos ⟨h0, h⟩, dec_small (by omega)]
  · rw [if_neg (by omega), if_pos ⟨by omega, h1⟩]
    unfold Go.Lib.itoa
    rw [if_neg (by omega)]
theorem itoaA_some {n : Int} (h0 : -9223372036854775808 ≤ n) (h1 : n ≤ 9223372036854775807) : ∃ s, itoaA n = some s := by
  unfold itoaA
  split
  · exact ⟨_, rfl⟩
  · rw [if_pos ⟨h0, h1⟩]; exact ⟨_, rfl⟩
theorem octDig_ok {k : Nat} {n w : Int} (hk : 2 ≤ k) (h0 : -9223372036854775808 ≤ n) (h1 : n ≤ 9223372036854775807) : octet_Digits k n w = some (digOf n w) := by
  obtain ⟨k, rfl⟩ : ∃ q, k = q + 1 := ⟨k - 1, by omega⟩
  obtain ⟨k, rfl⟩ : ∃ q, k = q + 1 := ⟨k - 1, by omega⟩
  unfold digOf
  obtain ⟨s, hs⟩ := itoaA_some h0 h1
  by_cases c1 : n < 0
  · rw [if_pos (Or.inl c1)]
    simp only [octet_Digits, strconv_Itoa, hs, Option.bind_some, decide_eq_true c1, cond_true]
  · have hs' := itoaA_nonneg (n := n) (by omega) h1
    by_cases c2 : w < 1
    · rw [if_pos (Or.inr (Or.inl c2))]
      simp only [octet_Digits, strconv_Itoa, hs, Option.bind_some, decide_eq_false c1, decide_eq_true c2, cond_true, cond_false]
    · by_cases c3 : w > 9
      · rw [if_pos (Or.inr (Or.inr (Or.inl c3)))]
        simp only [octet_Digits, strconv_Itoa, hs, Option.bind_some, decide_eq_false c1, decide_eq_false c2, decide_eq_true c3, cond_true, cond_false]
      · by_cases c4 : ((Go.Lib.decDigits n.toNat).length : Int) > w
        · rw [if_pos (Or.inr (Or.inr (Or.inr c4)))]
          simp only [octet_Digits, strconv_Itoa, hs', Option.bind_some, decide_eq_false c1, decide_eq_false c2, decide_eq_false c3, decide_eq_true c4, cond_true, cond_false]
        · rw [if_neg (by omega)]
          have hw : Go.IntKind.wrap .i64 (w - ((Go.Lib.decDigits n.toNat).length : Int)) = w - ((Go.Lib.decDigits n.toNat).length : Int) := wrap_in (by omega) (by omega)
          have hr := repS_one6 (n := w - ((Go.Lib.decDigits n.toNat).length : Int)) (by omega) (by omega) 48
          have hc : cat (List.replicate (w - ((Go.Lib.decDigits n.toNat).length : Int)).toNat 48) (Go.Lib.decDigits n.toNat) = some (List.replicate (w - ((Go.Lib.decDigits n.toNat).length : Int)).toNat 48 ++ Go.Lib.decDigits n.toNat) := cat_ok6 (by rw [List.length_replicate]; unfold maxList; omega)
          simp only [octet_Digits, strconv_Itoa, hs', Option.bind_some, decide_eq_false c1, decide_eq_false c2, decide_eq_false c3, decide_eq_false c4, cond_false, strings_Repeat, hw, hr, hc]
theorem refDig_L1 {w : Int} {K : Str → Option (Str × Int)} (hw : w ≤ 9) : ∀ (d : Nat) (s : Str) (m : Nat), w - (s.length : Int) = (d : Int) → d < m → ref01_Digits_L1 w K m s = K (List.replicate d 48 ++ s)
  | 0, s, m, hs, hm => by
    obtain ⟨m, rfl⟩ : ∃ q, m = q + 1 := ⟨m - 1, by omega⟩
    simp only [ref01_Digits_L1, decide_eq_false (show ¬ (s.length : Int) < w by omega), cond_false, List.replicate_zero, List.nil_append]
  | d + 1, s, m, hs, hm => by
    obtain ⟨m, rfl⟩ : ∃ q, m = q + 1 := ⟨m - 1, by omega⟩
    have hc : cat [48] s = some (48 :: s) := cat_ok6 (by simp only [List.length_cons, List.length_nil]; unfold maxList; omega)
    simp only [ref01_Digits_L1, decide_eq_true (show (s.length : Int) < w by omega), cond_true, hc, Option.bind_some]
    rw [refDig_L1 hw d (48 :: s) m (by simp only [List.length_cons]; omega) (by omega), List.replicate_succ', List.append_assoc]
    rfl
theorem refDig_ok {k : Nat} {n w : Int} (hk : 100 ≤ k) (h0 : -9223372036854775808 ≤ n) (h1 : n ≤ 9223372036854775807) : ref01_Digits k n w = some (digOf n w) := by
  obtain ⟨k, rfl⟩ : ∃ q, k = q + 1 := ⟨k - 1, by omega⟩
  unfold digOf
  by_cases c1 : n < 0
  · rw [if_pos (Or.inl c1)]
    simp only [ref01_Digits, Option.bind_some, decide_eq_true c1, cond_true]
  · obtain ⟨u, rfl⟩ : ∃ u : Nat, n = (u : Int) := ⟨n.toNat, by omega⟩
    have hd := (dec_ok 19 k u (by have : (10 : Nat) ^ 20 = 100000000000000000000 := by decide
                                  omega) (by omega) (by omega) (by omega)).1
    rw [Int.toNat_natCast]
    by_cases c2 : w < 1
    · rw [if_pos (Or.inr (Or.inl c2))]
      simp only [ref01_Digits, Option.bind_some, decide_eq_false c1, decide_eq_true c2, cond_true, cond_false]
    · by_cases c3 : w > 9
      · rw [if_pos (Or.inr (Or.inr (Or.inl c3)))]
        simp only [ref01_Digits, Option.bind_some, decide_eq_false c1, decide_eq_false c2, decide_eq_true c3, cond_true, cond_false]
      · by_cases c4 : ((Go.Lib.decDigits u).length : Int) > w
        · rw [if_pos (Or.inr (Or.inr (Or.inr c4)))]
          simp only [ref01_Digits, hd, Option.bind_some, decide_eq_false c1, decide_eq_false c2, decide_eq_false c3, decide_eq_true c4, cond_true, cond_false]
        · rw [if_neg (by omega)]
          simp only [ref01_Digits, hd, Option.bind_some, decide_eq_false c1, decide_eq_false c2, decide_eq_false c3, decide_eq_false c4, cond_false]
          exact refDig_L1 (by omega) (w - ((Go.Lib.decDigits u).length : Int)).toNat _ k (by omega) (by omega)
theorem fdGo_append : ∀ (l r : Str) (n : Int), (fdGo l n).2 = 0 → fdGo (l ++ r) n = fdGo r (fdGo l n).1
  | [], r, n, _ => rfl
  | c :: l, r, n, h => by
    rw [List.cons_append, fdGo, fdGo]
    rw [fdGo] at h
    by_cases hc : c.toNat < 48 ∨ 57 < c.toNat
    · rw [if_pos hc] at h
      cases h
    · rw [if_neg hc] at h ⊢
      rw [if_neg hc]
      exact fdGo_append l r _ h
theorem fdGo_digit {d : Nat} (h : d < 10) (n : Int) : fdGo [UInt8.ofNat (48 + d)] n = (10 * n + (d : Int), 0) := by
  have hb : (UInt8.ofNat (48 + d)).toNat = 48 + d := by
    rw [UInt8.toNat_ofNat']
    omega
  rw [fdGo, if_neg (by omega), fdGo, hb]
  congr 1
  omega
theorem fdGo_dec (u : Nat) : fdGo (Go.Lib.decDigits u) 0 = ((u : Int), 0) := by
  induction u using Nat.strongRecOn with
  | ind u ih =>
    by_cases h : u < 10
    · rw [dec_small h, fdGo_digit h]
      congr 1
      omega
    · rw [dec_large h]
      have h1 := ih (u / 10) (by omega)
      rw [fdGo_append _ _ _ (by rw [h1]), h1, fdGo_digit (Nat.mod_lt u (by omega))]
      congr 1
      show 10 * ((u / 10 : Nat) : Int) + ((u % 10 : Nat) : Int) = (u : Int)
      omega
theorem fdGo_zeros (l : Str) : ∀ z : Nat, fdGo (List.replicate z 48 ++ l) 0 = fdGo l 0
  | 0 => rfl
  | z + 1 => by
    rw [List.replicate_succ, List.cons_append, fdGo, if_neg (by decide)]
    exact fdGo_zeros l z
theorem fdS_digOf {n w : Int} (h : (digOf n w).2 = 0) : fdS (digOf n w).1 = (n, 0) := by
  unfold digOf at h ⊢
  by_cases hc : n < 0 ∨ w < 1 ∨ 9 < w ∨ w < ((Go.Lib.decDigits n.toNat).length : Int)
  · rw [if_pos hc] at h
    cases h
  · rw [if_neg hc]
    unfold fdS
    rw [if_neg (by simp only [List.length_append, List.length_replicate]; omega), fdGo_zeros, fdGo_dec]
    congr 1
    omega
theorem law_law01_OctetDigits (s : Str) (a : T_arr3_Int) (hs : wfS s) (ha : wf_T_arr3_Int a) : ∃ k, law01_OctetDigits k s a = some true := by
  obtain ⟨k, hk2⟩ : ∃ k, 100000000 ≤ k := ⟨_, Nat.le_refl _⟩
  refine ⟨k + 1, ?_⟩
  obtain ⟨w0, w1, w2, _⟩ := ha
  have b1 := wfI_in w1
  have h5 := first01 (k := k) (by omega)
  cases g1 : decide ((s.length : Int) > 300) with
  | true => simp only [law01_OctetDigits, g1, cond_true, h5, Option.bind_some]
  | false =>
  have hl : s.length ≤ 300 := by rw [decide_eq_false_iff_not] at g1; omega
  have p1 := octPad_ok (k := k) (n := a.e0) (by omega) hl
  have p2 := refPad_ok (k := k) (n := a.e0) (by omega) hl
  have t1 := octTrim_ok (k := k) (s := s) (by omega) (by omega)
  have t2 := refTrim_ok (k := k) (s := s) (by omega) (by omega)
  have f1 : octet_FromDigits k s = some (fdS s) := by
    obtain ⟨k, rfl⟩ : ∃ q, k = q + 1 := ⟨k - 1, by omega⟩
    rfl
  have f2 := refFd_ok (k := k) (s := s) (by omega)
  have d1 := octDig_ok (k := k) (n := a.e1) (w := a.e2) (by omega) b1.1 b1.2
  have d2 := refDig_ok (k := k) (n := a.e1) (w := a.e2) (by omega) b1.1 b1.2
  have f3 : octet_FromDigits k (digOf a.e1 a.e2).1 = some (fdS (digOf a.e1 a.e2).1) := by
    obtain ⟨k, rfl⟩ : ∃ q, k = q + 1 := ⟨k - 1, by omega⟩
    rfl
  have t3 : (padOf s a.e0).2 = 0 → octet_Trim k (padOf s a.e0).1 = some (Go.Lib.trimRightB s 32) := by
    intro hz
    unfold padOf at hz ⊢
    by_cases hc : a.e0 < (s.length : Int) ∨ 255 < a.e0
    · rw [if_pos hc] at hz
      cases hz
    · rw [if_neg hc]
      rw [octTrim_ok (by omega) (by simp only [List.length_append, List.length_replicate]; omega), trimB_rep]
  have hpad : (bif ((padOf s a.e0).2 == 0) then ((octet_Trim k (padOf s a.e0).1).bind fun v7 => ((octet_Trim k s).bind fun v8 => (bif (!(v7 == v8)) then (some (true)) else ((octet_Trim k s).bind fun v9 => ((ref01_Trim k s).bind fun v10 => (some ((!(v9 == v10))))))))) else ((octet_Trim k s).bind fun v11 => ((ref01_Trim k s).bind fun v12 => (some ((!(v11 == v12))))))) = some false := by
    cases hz : (padOf s a.e0).2 == 0 with
    | true => simp only [cond_true, t3 (by simpa using hz), t1, t2, Option.bind_some, beq_self_eq_true, Bool.not_true, cond_false]
    | false => simp only [cond_false, t1, t2, Option.bind_some, beq_self_eq_true, Bool.not_true]
  simp only [law01_OctetDigits, g1, cond_false, h5, Option.bind_some, p1, p2, beq_self_eq_true, bne_self_eq_false, Bool.not_true, hpad, f1, f2, d1, d2]
  cases hz : (digOf a.e1 a.e2).2 == 0 with
  | true => simp only [cond_true, f3, Option.bind_some, fdS_digOf (show (digOf a.e1 a.e2).2 = 0 by simpa using hz), bne_self_eq_false, cond_false]
  | false => simp only [cond_false]
end Go.Sh

