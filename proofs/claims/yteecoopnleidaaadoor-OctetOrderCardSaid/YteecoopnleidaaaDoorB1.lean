/- The functions as functions on lists, and what they come to: no program in sight. Conditions: those that each theorem names. -/
import Derived.Test.YteecoopnleidaaaDoorA3
import Derived.IntWalk
import Derived.Lib.SplitLaws
namespace Go.Sh
open Go.AE (idx idxS cut cat app upTo inB sameLen revInt wfI wfS wfL wfT mkN repS repL joinS cmpB idxB quoI remE shlI shrI andI orI xorI catL bytesB itoa1 repG)
set_option linter.unusedVariables false
abbrev Str := List UInt8
def law01_Large_L1 (a0 : (List Str))  (K0 : Int → Option Bool) : Nat → Int → Option Bool
  | 0, _ => none
  | m + 1, x3 =>
    (bif (decide (x3 < (a0.length : Int))) then (((idx a0 x3).bind fun v4 => (some ((decide ((v4.length : Int) > 300))))).bind fun o5 =>
          (bif o5 then (some true) else
          (law01_Large_L1 a0 K0 m (Go.IntKind.wrap .i64 (x3 + 1))))) else
        (K0 x3))
def law01_Large : Nat → ((List Str)) → Option Bool
  | 0, _ => none
  | k + 1, a0 =>
    (law01_Large_L1 a0 (fun y6 =>
      (some (decide ((a0.length : Int) > 300)))) k 0)
def octet_Text : Nat → (Str) → Option ((List Int) × Int)
  | 0, _ => none
  | k + 1, a0 =>
    (bif (decide ((a0.length : Int) > 255)) then (some (([] : List Int), 2)) else
      (((app ([(Go.IntKind.wrap .u8 (a0.length : Int))] : List Int) (bytesB a0)).bind fun v1 => (some (v1, 0))).bind fun o2 =>
        (some (o2.1, o2.2))))
def octet_Number : Nat → (Int) → Option ((List Int) × Int)
  | 0, _ => none
  | k + 1, a0 =>
    ((bif (decide (a0 < 0)) then (some (true)) else (some ((decide (a0 > 4294967295))))).bind fun o1 =>
      (bif o1 then (some (([] : List Int), 2)) else
      (((shrI .i64 a0 24).bind fun v2 => ((shrI .i64 a0 16).bind fun v3 => ((shrI .i64 a0 8).bind fun v4 => (some (([(Go.IntKind.wrap .u8 v2), (Go.IntKind.wrap .u8 v3), (Go.IntKind.wrap .u8 v4), (Go.IntKind.wrap .u8 a0)] : List Int), 0))))).bind fun o5 =>
        (some (o5.1, o5.2)))))
def strconv_Itoa : Nat → Int → Option Str
  | 0, _ => none
  | _ + 1, n => itoa1 n
def strings_Repeat : Nat → Str → Int → Option Str
  | 0, _, _ => none
  | _ + 1, s, n => repS s n
def octet_Digits : Nat → (Int) → (Int) → Option (Str × Int)
  | 0, _, _ => none
  | k + 1, a0, a1 =>
    ((strconv_Itoa k a0).bind fun o2 =>
      ((bif (decide (a0 < 0)) then (some (true)) else (bif (decide (a1 < 1)) then (some (true)) else (bif (decide (a1 > 9)) then (some (true)) else (some ((decide ((o2.length : Int) > a1))))))).bind fun o3 =>
      (bif o3 then (some (([] : Str), 2)) else
      (((strings_Repeat k ([48] : Str) (Go.IntKind.wrap .i64 (a1 - (o2.length : Int)))).bind fun v4 => ((cat v4 o2).bind fun v5 => (some (v5, 0)))).bind fun o6 =>
        (some (o6.1, o6.2))))))
def octet_Pad : Nat → (Str) → (Int) → Option (Str × Int)
  | 0, _, _ => none
  | k + 1, a0, a1 =>
    ((bif (decide (a1 < (a0.length : Int))) then (some (true)) else (some ((decide (a1 > 255))))).bind fun o1 =>
      (bif o1 then (some (([] : Str), 2)) else
      (((strings_Repeat k ([32] : Str) (Go.IntKind.wrap .i64 (a1 - (a0.length : Int)))).bind fun v2 => ((cat a0 v2).bind fun v3 => (some (v3, 0)))).bind fun o4 =>
        (some (o4.1, o4.2)))))
def strings_ReplaceAll : Nat → Str → Str → Str → Option Str
  | 0, _, _, _ => none
  | _ + 1, s, o, n => repG s o n
def octet_Key_L1 (k : Nat) (a0 : (List Str))  (K0 : (List Int) → Int → Option (List Int)) : Nat → (List Int) → Int → Option (List Int)
  | 0, _, _ => none
  | m + 1, x8, x9 =>
    (bif (decide (x9 < (a0.length : Int))) then ((idx a0 x9).bind fun o11 =>
          (((strings_ReplaceAll k o11 ([0] : Str) ([0, 255] : Str)).bind fun v12 => (app x8 (bytesB v12))).bind fun o14 =>
          ((app o14 ([0, 1] : List Int)).bind fun o16 =>
          (octet_Key_L1 k a0 K0 m o16 (Go.IntKind.wrap .i64 (x9 + 1)))))) else
        (K0 x8 x9))
def octet_Key : Nat → ((List Str)) → Option (List Int)
  | 0, _ => none
  | k + 1, a0 =>
    (octet_Key_L1 k a0 (fun y17 y18 =>
      (some y17)) k ([] : List Int) 0)
def law01_First : Nat → Option Bool
  | _ + 5 => some true
  | _ => none
def ref01_Compare_L1 (a0 : (List Int)) (a1 : (List Int))  (K0 : Int → Option Int) : Nat → Int → Option Int
  | 0, _ => none
  | m + 1, x8 =>
    ((bif (decide (x8 < (a0.length : Int))) then (some ((decide (x8 < (a1.length : Int))))) else (some (false))).bind fun o9 =>
        (bif o9 then (((idx a0 x8).bind fun v10 => ((idx a1 x8).bind fun v11 => (some ((v10 != v11))))).bind fun o12 =>
          (bif o12 then (((idx a0 x8).bind fun v13 => ((idx a1 x8).bind fun v14 => (some ((decide (v13 < v14)))))).bind fun o15 =>
            (bif o15 then (some (-1)) else
            (some 1))) else
          (ref01_Compare_L1 a0 a1 K0 m (Go.IntKind.wrap .i64 (x8 + 1))))) else
        (K0 x8)))
def ref01_Compare : Nat → ((List Int)) → ((List Int)) → Option Int
  | 0, _, _ => none
  | k + 1, a0, a1 =>
    (ref01_Compare_L1 a0 a1 (fun y16 =>
      (bif (decide ((a0.length : Int) < (a1.length : Int))) then (some (-1)) else
        (bif (decide ((a0.length : Int) > (a1.length : Int))) then (some 1) else
          (some 0)))) k 0)
def bytes_Compare : Nat → List Int → List Int → Option Int
  | 0, _, _ => none
  | _ + 1, a, b => some (cmpB (Go.AE.strB a) (Go.AE.strB b))
def octet_Compare : Nat → ((List Int)) → ((List Int)) → Option Int
  | 0, _, _ => none
  | k + 1, a0, a1 =>
    ((bytes_Compare k a0 a1).bind fun o2 =>
      (some o2))
def law01_OctetOrder_L1 (k : Nat) (a0 : (List Str)) (a1 : (List Str))  (K0 : Int → Int → Option Bool) : Nat → Int → Int → Option Bool
  | 0, _, _ => none
  | m + 1, x15, x16 =>
    ((bif (decide (x16 < (a0.length : Int))) then (bif (decide (x16 < (a1.length : Int))) then (some ((x15 == 0))) else (some (false))) else (some (false))).bind fun o17 =>
        (bif o17 then (((idx a0 x16).bind fun v18 => ((idx a1 x16).bind fun v19 => (ref01_Compare k (Go.AE.bytesB v18) (Go.AE.bytesB v19)))).bind fun o21 =>
          (((idx a0 x16).bind fun v22 => ((idx a1 x16).bind fun v23 => ((octet_Compare k (Go.AE.bytesB v22) (Go.AE.bytesB v23)).bind fun v24 => (some ((v24 != o21)))))).bind fun o25 =>
          (bif o25 then (some false) else
          (law01_OctetOrder_L1 k a0 a1 K0 m o21 (Go.IntKind.wrap .i64 (x16 + 1)))))) else
        (K0 x15 x16)))
def law01_OctetOrder : Nat → ((List Str)) → ((List Str)) → Option Bool
  | 0, _, _ => none
  | k + 1, a0, a1 =>
    (((law01_Large k a0).bind fun v1 => (bif v1 then (some (true)) else (law01_Large k a1))).bind fun o3 =>
      (bif o3 then ((law01_First k).bind fun o5 =>
        (some o5)) else
      (law01_OctetOrder_L1 k a0 a1 (fun y26 y27 =>
        ((bif (y26 == 0) then (some ((decide ((a0.length : Int) < (a1.length : Int))))) else (some (false))).bind fun o28 =>
          (bif o28 then ((bif (((-1) : Int) == 0) then (some ((decide ((a0.length : Int) > (a1.length : Int))))) else (some (false))).bind fun o29 =>
            (bif o29 then (((octet_Key k a0).bind fun v30 => ((octet_Key k a1).bind fun v31 => ((octet_Compare k v30 v31).bind fun v32 => (bif (v32 == 1) then (law01_First k) else (some (false)))))).bind fun o34 =>
              (some o34)) else
            (((octet_Key k a0).bind fun v35 => ((octet_Key k a1).bind fun v36 => ((octet_Compare k v35 v36).bind fun v37 => (bif (v37 == (-1)) then (law01_First k) else (some (false)))))).bind fun o39 =>
              (some o39)))) else
          ((bif (y26 == 0) then (some ((decide ((a0.length : Int) > (a1.length : Int))))) else (some (false))).bind fun o40 =>
            (bif o40 then (((octet_Key k a0).bind fun v30 => ((octet_Key k a1).bind fun v31 => ((octet_Compare k v30 v31).bind fun v32 => (bif (v32 == 1) then (law01_First k) else (some (false)))))).bind fun o41 =>
              (some o41)) else
            (((octet_Key k a0).bind fun v42 => ((octet_Key k a1).bind fun v43 => ((octet_Compare k v42 v43).bind fun v44 => (bif (v44 == y26) then (law01_First k) else (some (false)))))).bind fun o46 =>
              (some o46))))))) k 0 0)))
end Go.Sh
namespace Go.Sh
open Go.AE
set_option linter.unusedVariables false
theorem maxLen_eq : maxLen = 9223372036854775807 := rfl
theorem wrap_in {x : Int} (h : -9223372036854775808 ≤ x) (h' : x ≤ 9223372036854775807) : Go.IntKind.wrap .i64 x = x := IntWalk.i64_in x ⟨h, h'⟩
theorem wrap_next {i n : Nat} (h : i < n) (hn : n ≤ maxLen) : Go.IntKind.wrap .i64 ((i : Int) + 1) = ((i + 1 : Nat) : Int) := by
  rw [wrap_in] <;> (try rw [maxLen_eq] at hn) <;> omega
theorem idx_at {α : Type} {l : List α} {i : Nat} (h : i < l.length) : idx l (i : Int) = some l[i] := by
  unfold idx
  rw [if_pos (by omega), Int.toNat_natCast, List.getElem?_eq_getElem h]
theorem app_ok {α : Type} {l m : List α} (h : l.length + m.length ≤ maxList) : app l m = some (l ++ m) := by
  unfold app; rw [if_pos h]
end Go.Sh

namespace Go.Sh
open Go.AE
set_option linter.unusedVariables false
set_option linter.unusedSimpArgs false
def largeL (l : List Str) : Bool := l.any (fun s => decide ((s.length : Int) > 300)) || decide ((l.length : Int) > 300)
theorem large01_ok {k : Nat} {l : List Str} (hk : maxLen + 2 ≤ k) (hl : l.length ≤ maxLen) : law01_Large k l = some (largeL l) := by
  obtain ⟨k, rfl⟩ : ∃ q, k = q + 1 := ⟨k - 1, by omega⟩
  have main : ∀ d i m : Nat, i + d = l.length → d < m → law01_Large_L1 l (fun _ => some (decide ((l.length : Int) > 300))) m (i : Int) = some ((l.drop i).any (fun s => decide ((s.length : Int) > 300)) || decide ((l.length : Int) > 300)) := by
    intro d
    induction d with
    | zero =>
      intro i m hd hm
      obtain ⟨m, rfl⟩ : ∃ q, m = q + 1 := ⟨m - 1, by omega⟩
      obtain rfl : i = l.length := by omega
      simp only [law01_Large_L1, show decide ((l.length : Int) < (l.length : Int)) = false by simp, cond_false, List.drop_length, List.any_nil, Bool.false_or]
    | succ d ih =>
      intro i m hd hm
      obtain ⟨m, rfl⟩ : ∃ q, m = q + 1 := ⟨m - 1, by omega⟩
      have hi : i < l.length := by omega
      simp only [law01_Large_L1, show decide ((i : Int) < (l.length : Int)) = true by simp; exact hi, cond_true, idx_at hi, Option.bind_some, wrap_next hi hl]
      rw [ih (i + 1) m (by omega) (by omega), List.drop_eq_getElem_cons hi, List.any_cons]
      cases decide ((l[i].length : Int) > 300) <;> rfl
  exact main l.length 0 k (by omega) (by omega)
theorem large_bounds {l : List Str} (h : largeL l = false) : l.length ≤ 300 ∧ ∀ s ∈ l, s.length ≤ 300 := by
  unfold largeL at h
  rw [Bool.or_eq_false_iff, List.any_eq_false] at h
  obtain ⟨h1, h2⟩ := h
  rw [decide_eq_false_iff_not] at h2
  exact ⟨by omega, fun s hs => by have := h1 s hs; simp at this; omega⟩
theorem bytesB_len (s : Str) : (bytesB s).length = s.length := by
  unfold bytesB
  rw [List.length_map]
theorem first01 {k : Nat} (hk : 20 ≤ k) : law01_First k = some true := by
  obtain ⟨k, rfl⟩ : ∃ q, k = q + 20 := ⟨k - 20, by omega⟩
  rfl
end Go.Sh

namespace Go.Sh
open Go.AE
set_option linter.unusedVariables false
set_option linter.unusedSimpArgs false
def escI (l : List Int) : List Int := l.flatMap fun c => if c = 0 then [0, 255] else [c]
def keyOf (l : List Str) : List Int := l.flatMap fun s => escI (bytesB s) ++ [0, 1]
/-- A byte, replaced. -/
def subst1 (c : UInt8) (n : Str) (s : Str) : Str := s.flatMap fun x => if x = c then n else [x]
theorem subst1_none {c : UInt8} {n : Str} : ∀ {s : Str}, c ∉ s → subst1 c n s = s
  | [], _ => rfl
  | x :: s, h => by
    have h1 : x ≠ c := fun e => h (by rw [e]; exact List.mem_cons_self)
    have h2 : c ∉ s := fun e => h (List.mem_cons_of_mem _ e)
    unfold subst1
    rw [List.flatMap_cons, if_neg h1]
    exact congrArg (x :: ·) (subst1_none h2)
theorem index_one (c : UInt8) : ∀ s : Str, (Go.Lib.index s [c] = -1 ∧ c ∉ s) ∨ ∃ i : Nat, Go.Lib.index s [c] = (i : Int) ∧ c ∉ s.take i ∧ s = s.take i ++ c :: s.drop (i + 1)
  | [] => .inl ⟨rfl, List.not_mem_nil⟩
  | x :: s => by
    unfold Go.Lib.index
    by_cases h : x = c
    · subst h
      rw [if_pos (by simp [List.isPrefixOf])]
      exact .inr ⟨0, rfl, List.not_mem_nil, rfl⟩
    · rw [if_neg (by simp [List.isPrefixOf]; exact fun e => h e.symm)]
      rcases index_one c s with ⟨h1, h2⟩ | ⟨i, h1, h2, h3⟩
      · rw [h1]
        refine .inl ⟨rfl, fun hm => ?_⟩
        rcases List.mem_cons.1 hm with e | e
        · exact h e.symm
        · exact h2 e
      · rw [h1, if_neg (by simp)]
        refine .inr ⟨i + 1, by omega, ?_, ?_⟩
        · rw [List.take_succ_cons]
          intro hm
          rcases List.mem_cons.1 hm with e | e
          · exact h e.symm
          · exact h2 e
        · rw [List.take_succ_cons, List.drop_succ_cons, List.cons_append, ← h3]
theorem replaceK_one (c : UInt8) (n : Str) : ∀ (k : Nat) (s : Str), s.count c ≤ k → Go.Lib.replaceK [c] n k s = subst1 c n s
  | 0, s, h => by
    rw [Go.Lib.replaceK, subst1_none]
    exact List.count_eq_zero.1 (by omega)
  | k + 1, s, h => by
    rw [Go.Lib.replaceK]
    rcases index_one c s with ⟨h1, h2⟩ | ⟨i, h1, h2, h3⟩
    · rw [h1, if_pos (beq_self_eq_true _), subst1_none h2]
    · rw [h1, if_neg (by simp)]
      have hc : (s.drop (i + 1)).count c ≤ k := by
        rw [h3, List.count_append, List.count_cons_self] at h
        omega
      show s.take i ++ n ++ Go.Lib.replaceK [c] n k (s.drop (i + 1)) = _
      rw [replaceK_one c n k _ hc]
      have hs : subst1 c n s = subst1 c n (s.take i ++ c :: s.drop (i + 1)) := by rw [← h3]
      rw [hs]
      have e : ∀ a b : Str, subst1 c n (a ++ c :: b) = subst1 c n a ++ (n ++ subst1 c n b) := fun a b => by
        unfold subst1
        rw [List.flatMap_append, List.flatMap_cons, if_pos rfl]
      rw [e, subst1_none h2, List.append_assoc]
theorem replaceAll_one (s : Str) : Go.Lib.replaceAll s [0] [0, 255] = subst1 0 [0, 255] s := by
  unfold Go.Lib.replaceAll Go.Lib.replace
  rw [if_neg (by decide)]
  refine replaceK_one 0 _ _ s ?_
  unfold Go.Lib.replaceNum
  rw [if_pos (.inl (by decide)), Go.Lib.count_one]
  exact Nat.le_refl _
theorem bytes_subst : ∀ s : Str, bytesB (subst1 0 [0, 255] s) = escI (bytesB s)
  | [] => rfl
  | x :: s => by
    have ih := bytes_subst s
    unfold subst1 escI bytesB at ih ⊢
    rw [List.flatMap_cons, List.map_append, ih, List.map_cons, List.flatMap_cons]
    congr 1
    by_cases h : x = 0
    · subst h; rfl
    · rw [if_neg h, if_neg (fun e => h (UInt8.toNat_inj.1 (by simpa using e)))]
      rfl
theorem escI_len : ∀ l : List Int, (escI l).length ≤ 2 * l.length
  | [] => Nat.le_refl 0
  | x :: l => by
    have ih := escI_len l
    unfold escI at ih ⊢
    rw [List.flatMap_cons, List.length_append, List.length_cons]
    split <;> simp only [List.length_cons, List.length_nil] <;> omega
theorem octet_Key_L1_ok {k : Nat} {l : List Str} (hk : 1 ≤ k) (hn : l.length ≤ 5000) (hl : ∀ s ∈ l, s.length ≤ 5000) : ∀ (d i m : Nat) (out : List Int), i + d = l.length → d < m → out.length ≤ i * 10002 → octet_Key_L1 k l (fun y17 _ => some y17) m out (i : Int) = some (out ++ keyOf (l.drop i))
  | 0, i, m, out, hd, hm, ho => by
    obtain ⟨m, rfl⟩ : ∃ q, m = q + 1 := ⟨m - 1, by omega⟩
    obtain rfl : i = l.length := by omega
    simp only [octet_Key_L1, show decide ((l.length : Int) < (l.length : Int)) = false by simp, cond_false, List.drop_length, keyOf, List.flatMap_nil, List.append_nil]
  | d + 1, i, m, out, hd, hm, ho => by
    obtain ⟨m, rfl⟩ : ∃ q, m = q + 1 := ⟨m - 1, by omega⟩
    obtain ⟨k, rfl⟩ : ∃ q, k = q + 1 := ⟨k - 1, by omega⟩
    have hi : i < l.length := by omega
    have hs := hl l[i] (List.getElem_mem hi)
    have hr : strings_ReplaceAll (k + 1) l[i] [0] [0, 255] = some (subst1 0 [0, 255] l[i]) := by
      show repG _ _ _ = _
      unfold repG
      rw [if_pos ⟨by omega, by decide, by decide⟩, replaceAll_one]
    have hlen : (escI (bytesB l[i])).length ≤ 10000 := by have := escI_len (bytesB l[i]); rw [bytesB_len] at this; omega
    have hi5 : i * 10002 ≤ 5000 * 10002 := Nat.mul_le_mul_right _ (by omega)
    have e1 : app out (escI (bytesB l[i])) = some (out ++ escI (bytesB l[i])) := app_ok (by simp only [maxList]; omega)
    have e2 : app (out ++ escI (bytesB l[i])) [0, 1] = some (out ++ escI (bytesB l[i]) ++ [0, 1]) := app_ok (by simp only [maxList, List.length_append, List.length_cons, List.length_nil]; omega)
    simp only [octet_Key_L1, show decide ((i : Int) < (l.length : Int)) = true by simp; exact hi, cond_true, idx_at hi, hr, bytes_subst, e1, e2, Option.bind_some, wrap_next hi (show l.length ≤ maxLen by have := maxLen_eq; omega)]
    rw [octet_Key_L1_ok (by omega) hn hl d (i + 1) m _ (by omega) (by omega) (by simp only [List.length_append, List.length_cons, List.length_nil]; omega), List.drop_eq_getElem_cons hi]
    unfold keyOf
    rw [List.flatMap_cons]
    simp only [List.append_assoc]
theorem octet_Key_ok {k : Nat} {l : List Str} (hk : 6000 ≤ k) (hn : l.length ≤ 5000) (hl : ∀ s ∈ l, s.length ≤ 5000) : octet_Key k l = some (keyOf l) := by
  obtain ⟨k, rfl⟩ : ∃ q, k = q + 1 := ⟨k - 1, by omega⟩
  exact octet_Key_L1_ok (k := k) (by omega) hn hl l.length 0 k [] (by omega) (by omega) (by simp)
theorem strB_bytesB (s : Str) : strB (bytesB s) = s := by
  unfold strB bytesB
  rw [List.map_map]
  refine (List.map_congr_left (fun x _ => ?_)).trans (List.map_id s)
  simp
theorem keyOf_cons (s : Str) (l : List Str) : keyOf (s :: l) = escI (bytesB s) ++ [0, 1] ++ keyOf l := by
  unfold keyOf
  rw [List.flatMap_cons]
end Go.Sh

namespace Go.Sh
open Go.AE
set_option linter.unusedVariables false
set_option linter.unusedSimpArgs false
theorem lt_nat {x y : UInt8} : x < y ↔ x.toNat < y.toNat := UInt8.lt_iff_toNat_lt
theorem cmp_self (x : UInt8) (a b : Str) : cmpB (x :: a) (x :: b) = cmpB a b := by
  rw [cmpB, if_neg (by rw [lt_nat]; omega), if_neg (by rw [lt_nat]; omega)]
theorem cmp_less {x y : UInt8} (a b : Str) (h : x < y) : cmpB (x :: a) (y :: b) = -1 := by
  rw [cmpB, if_pos h]
theorem cmp_more {x y : UInt8} (a b : Str) (h : y < x) : cmpB (x :: a) (y :: b) = 1 := by
  have h' : ¬ x < y := by rw [lt_nat] at h ⊢; omega
  rw [cmpB, if_neg h', if_pos h]
theorem three (x y : UInt8) : x = y ∨ x < y ∨ y < x := by
  rcases Nat.lt_trichotomy x.toNat y.toNat with h | h | h
  · exact .inr (.inl (lt_nat.2 h))
  · exact .inl (UInt8.toNat_inj.1 h)
  · exact .inr (.inr (lt_nat.2 h))
theorem bytesB_at {s : Str} {i : Nat} (h : i < s.length) : idx (bytesB s) (i : Int) = some ((s[i].toNat : Nat) : Int) := by
  rw [idx_at (by rw [bytesB_len]; exact h)]
  unfold bytesB
  rw [List.getElem_map]
theorem ref01_Compare_ok {k : Nat} {s t : Str} (hk : 1000 ≤ k) (hs : s.length ≤ 300) (ht : t.length ≤ 300) : ref01_Compare k (bytesB s) (bytesB t) = some (cmpB s t) := by
  obtain ⟨k, rfl⟩ : ∃ q, k = q + 1 := ⟨k - 1, by omega⟩
  have ls := bytesB_len s
  have lt := bytesB_len t
  have main : ∀ d i m : Nat, i + d = s.length → i ≤ t.length → d < m → ref01_Compare_L1 (bytesB s) (bytesB t) (fun _ => bif decide (((bytesB s).length : Int) < ((bytesB t).length : Int)) then some (-1) else bif decide (((bytesB s).length : Int) > ((bytesB t).length : Int)) then some 1 else some 0) m (i : Int) = some (cmpB (s.drop i) (t.drop i)) := by
    intro d
    induction d with
    | zero =>
      intro i m hd hi hm
      obtain ⟨m, rfl⟩ : ∃ q, m = q + 1 := ⟨m - 1, by omega⟩
      obtain rfl : i = s.length := by omega
      simp only [ref01_Compare_L1, ls, lt, show decide ((s.length : Int) < (s.length : Int)) = false by simp, cond_false, Option.bind_some, List.drop_length]
      by_cases h : s.length = t.length
      · rw [h, List.drop_length, show decide ((t.length : Int) < (t.length : Int)) = false by simp]
        rfl
      · rw [decide_eq_true (show (s.length : Int) < (t.length : Int) by omega), cond_true, List.drop_eq_getElem_cons (show s.length < t.length by omega)]
        rfl
    | succ d ih =>
      intro i m hd hi hm
      obtain ⟨m, rfl⟩ : ∃ q, m = q + 1 := ⟨m - 1, by omega⟩
      have his : i < s.length := by omega
      rw [List.drop_eq_getElem_cons his]
      by_cases hit : i < t.length
      · simp only [ref01_Compare_L1, ls, lt, decide_eq_true (show (i : Int) < (s.length : Int) by omega), decide_eq_true (show (i : Int) < (t.length : Int) by omega), cond_true, Option.bind_some, bytesB_at his, bytesB_at hit, wrap_next his (show s.length ≤ maxLen by have := maxLen_eq; omega)]
        rw [List.drop_eq_getElem_cons hit]
        rcases three s[i] t[i] with h | h | h
        · rw [h, bne_self_eq_false, cond_false, cmp_self]
          have := ih (i + 1) m (by omega) (by omega) (by omega)
          rw [ls, lt] at this
          exact this
        · rw [cmp_less _ _ h]
          rw [lt_nat] at h
          rw [bne_iff_ne.2 (show ((s[i].toNat : Nat) : Int) ≠ ((t[i].toNat : Nat) : Int) by omega), cond_true, decide_eq_true (show ((s[i].toNat : Nat) : Int) < ((t[i].toNat : Nat) : Int) by omega)]
          rfl
        · rw [cmp_more _ _ h]
          rw [lt_nat] at h
          rw [bne_iff_ne.2 (show ((s[i].toNat : Nat) : Int) ≠ ((t[i].toNat : Nat) : Int) by omega), cond_true, decide_eq_false (show ¬ ((s[i].toNat : Nat) : Int) < ((t[i].toNat : Nat) : Int) by omega)]
          rfl
      · simp only [ref01_Compare_L1, ls, lt, decide_eq_true (show (i : Int) < (s.length : Int) by omega), decide_eq_false (show ¬ (i : Int) < (t.length : Int) by omega), cond_true, cond_false, Option.bind_some, decide_eq_false (show ¬ (s.length : Int) < (t.length : Int) by omega), decide_eq_true (show (s.length : Int) > (t.length : Int) by omega)]
        rw [List.drop_eq_nil_of_le (show t.length ≤ i by omega)]
        rfl
  have := main s.length 0 k (by omega) (by omega) (by omega)
  rw [List.drop_zero, List.drop_zero] at this
  exact this
theorem octet_Compare_ok {k : Nat} (hk : 2 ≤ k) (a b : List Int) : octet_Compare k a b = some (cmpB (strB a) (strB b)) := by
  obtain ⟨k, rfl⟩ : ∃ q, k = q + 2 := ⟨k - 2, by omega⟩
  rfl
def keyS (l : List Str) : Str := l.flatMap fun s => subst1 0 [0, 255] s ++ [0, 1]
theorem bytesB_append (a b : Str) : bytesB (a ++ b) = bytesB a ++ bytesB b := by
  unfold bytesB
  rw [List.map_append]
theorem keyS_cons (s : Str) (l : List Str) : keyS (s :: l) = subst1 0 [0, 255] s ++ 0 :: 1 :: keyS l := by
  unfold keyS
  rw [List.flatMap_cons]
  simp only [List.append_assoc, List.cons_append, List.nil_append]
theorem keyS_bytes : ∀ l : List Str, bytesB (keyS l) = keyOf l
  | [] => rfl
  | s :: l => by
    rw [keyS_cons, keyOf_cons, bytesB_append, bytes_subst, ← keyS_bytes l]
    simp [bytesB]
theorem strB_key (l : List Str) : strB (keyOf l) = keyS l := by
  rw [← keyS_bytes, strB_bytesB]
theorem subst1_cons (x : UInt8) (s : Str) : subst1 0 [0, 255] (x :: s) = (if x = 0 then [0, 255] else [x]) ++ subst1 0 [0, 255] s := by
  unfold subst1
  rw [List.flatMap_cons]
theorem pos_of_ne {x : UInt8} (h : x ≠ 0) : 0 < x := by
  rw [lt_nat]
  have : x.toNat ≠ 0 := fun e => h (UInt8.toNat_inj.1 e)
  show (0 : Nat) < x.toNat
  omega
theorem cmp_text : ∀ (a b A B : Str), cmpB (subst1 0 [0, 255] a ++ 0 :: 1 :: A) (subst1 0 [0, 255] b ++ 0 :: 1 :: B) = if cmpB a b = 0 then cmpB A B else cmpB a b
  | [], [], A, B => by
    show cmpB (0 :: 1 :: A) (0 :: 1 :: B) = _
    rw [cmp_self, cmp_self]
    rfl
  | [], y :: b, A, B => by
    show cmpB (0 :: 1 :: A) _ = -1
    rw [subst1_cons]
    by_cases h : y = 0
    · rw [if_pos h]
      show cmpB (0 :: 1 :: A) (0 :: 255 :: _) = -1
      rw [cmp_self, cmp_less _ _ (by decide)]
    · rw [if_neg h]
      show cmpB (0 :: 1 :: A) (y :: _) = -1
      exact cmp_less _ _ (pos_of_ne h)
  | x :: a, [], A, B => by
    show cmpB _ (0 :: 1 :: B) = 1
    rw [subst1_cons]
    by_cases h : x = 0
    · rw [if_pos h]
      show cmpB (0 :: 255 :: _) (0 :: 1 :: B) = 1
      rw [cmp_self, cmp_more _ _ (by decide)]
    · rw [if_neg h]
      show cmpB (x :: _) (0 :: 1 :: B) = 1
      exact cmp_more _ _ (pos_of_ne h)
  | x :: a, y :: b, A, B => by
    have ih := cmp_text a b A B
    rw [subst1_cons, subst1_cons]
    rcases three x y with h | h | h
    · subst h
      rw [cmp_self, ← ih]
      by_cases h0 : x = 0
      · rw [if_pos h0]
        show cmpB (0 :: 255 :: _) (0 :: 255 :: _) = _
        rw [cmp_self, cmp_self]
        rfl
      · rw [if_neg h0]
        show cmpB (x :: _) (x :: _) = _
        rw [cmp_self]
        rfl
    · have hy : y ≠ 0 := fun e => by subst e; rw [lt_nat] at h; exact absurd h (Nat.not_lt_zero _)
      rw [cmp_less a b h, if_neg hy, if_neg (show ¬ (-1 : Int) = 0 by decide)]
      by_cases h0 : x = 0
      · rw [if_pos h0]
        show cmpB (0 :: 255 :: _) (y :: _) = _
        exact cmp_less _ _ (pos_of_ne hy)
      · rw [if_neg h0]
        show cmpB (x :: _) (y :: _) = _
        exact cmp_less _ _ h
    · have hx : x ≠ 0 := fun e => by subst e; rw [lt_nat] at h; exact absurd h (Nat.not_lt_zero _)
      rw [cmp_more a b h, if_neg hx, if_neg (show ¬ (1 : Int) = 0 by decide)]
      by_cases h0 : y = 0
      · rw [if_pos h0]
        show cmpB (x :: _) (0 :: 255 :: _) = _
        exact cmp_more _ _ (pos_of_ne hx)
      · rw [if_neg h0]
        show cmpB (x :: _) (y :: _) = _
        exact cmp_more _ _ h
/-- Lists, text by text. -/
def cmpL : List Str → List Str → Int
  | [], [] => 0
  | [], _ :: _ => -1
  | _ :: _, [] => 1
  | s :: l, t :: m => if cmpB s t = 0 then cmpL l m else cmpB s t
theorem cmp_nil_left (a b : Str) : cmpB [] (a ++ 0 :: b) = -1 := by cases a <;> rfl
theorem cmp_nil_right (a b : Str) : cmpB (a ++ 0 :: b) [] = 1 := by cases a <;> rfl
theorem cmp_keys : ∀ l m : List Str, cmpB (keyS l) (keyS m) = cmpL l m
  | [], [] => rfl
  | [], t :: m => by
    rw [keyS_cons]
    exact cmp_nil_left _ _
  | s :: l, [] => by
    rw [keyS_cons]
    exact cmp_nil_right _ _
  | s :: l, t :: m => by
    rw [keyS_cons, keyS_cons, cmp_text, cmp_keys l m]
    rfl
theorem order_L1 {k : Nat} {l m : List Str} {K : Int → Option Bool} (hk : 1000 ≤ k) (hl : l.length ≤ 300) (h1 : ∀ s ∈ l, s.length ≤ 300) (h2 : ∀ s ∈ m, s.length ≤ 300) : ∀ (d i f : Nat), i + d = l.length → i ≤ m.length → d + 1 < f →
    ∃ w, law01_OctetOrder_L1 k l m (fun y26 _ => K y26) f 0 (i : Int) = K w ∧ cmpL (l.drop i) (m.drop i) = if w = 0 then (if l.length < m.length then -1 else if l.length > m.length then 1 else 0) else w
  | 0, i, f, hd, hi, hf => by
    obtain ⟨f, rfl⟩ : ∃ q, f = q + 1 := ⟨f - 1, by omega⟩
    obtain rfl : i = l.length := by omega
    refine ⟨0, ?_, ?_⟩
    · simp only [law01_OctetOrder_L1, show decide ((l.length : Int) < (l.length : Int)) = false by simp, cond_false, Option.bind_some]
    · rw [if_pos rfl, List.drop_length]
      by_cases h : l.length = m.length
      · rw [h, List.drop_length, if_neg (by omega), if_neg (by omega)]; rfl
      · rw [if_pos (by omega), List.drop_eq_getElem_cons (show l.length < m.length by omega)]; rfl
  | d + 1, i, f, hd, hi, hf => by
    obtain ⟨f, rfl⟩ : ∃ q, f = q + 1 := ⟨f - 1, by omega⟩
    have hil : i < l.length := by omega
    by_cases him : i < m.length
    · have g1 := h1 l[i] (List.getElem_mem hil)
      have g2 := h2 m[i] (List.getElem_mem him)
      have e : law01_OctetOrder_L1 k l m (fun y26 _ => K y26) (f + 1) 0 (i : Int) = law01_OctetOrder_L1 k l m (fun y26 _ => K y26) f (cmpB l[i] m[i]) ((i + 1 : Nat) : Int) := by
        simp only [law01_OctetOrder_L1, decide_eq_true (show (i : Int) < (l.length : Int) by omega), decide_eq_true (show (i : Int) < (m.length : Int) by omega), cond_true, beq_self_eq_true, Option.bind_some, idx_at hil, idx_at him, ref01_Compare_ok hk g1 g2, octet_Compare_ok (show 2 ≤ k by omega), strB_bytesB, bne_self_eq_false, cond_false, wrap_next hil (show l.length ≤ maxLen by have := maxLen_eq; omega)]
      rw [e, List.drop_eq_getElem_cons hil, List.drop_eq_getElem_cons him, cmpL]
      by_cases hc : cmpB l[i] m[i] = 0
      · rw [hc, if_pos rfl]
        exact order_L1 hk hl h1 h2 d (i + 1) f (by omega) (by omega) (by omega)
      · refine ⟨cmpB l[i] m[i], ?_, by rw [if_neg hc, if_neg hc]⟩
        obtain ⟨f, rfl⟩ : ∃ q, f = q + 1 := ⟨f - 1, by omega⟩
        simp only [law01_OctetOrder_L1, beq_eq_false_iff_ne.2 hc]
        cases decide (((i + 1 : Nat) : Int) < (l.length : Int)) <;> cases decide (((i + 1 : Nat) : Int) < (m.length : Int)) <;> rfl
    · refine ⟨0, ?_, ?_⟩
      · simp only [law01_OctetOrder_L1, decide_eq_true (show (i : Int) < (l.length : Int) by omega), decide_eq_false (show ¬ (i : Int) < (m.length : Int) by omega), cond_true, cond_false, Option.bind_some]
      · rw [if_pos rfl, List.drop_eq_nil_of_le (show m.length ≤ i by omega), List.drop_eq_getElem_cons hil, if_neg (by omega), if_pos (by omega)]
        rfl
theorem law_law01_OctetOrder (l m : List Str) (hl : wfL wfS l) (hm : wfL wfS m) : ∃ k, law01_OctetOrder k l m = some true := by
  obtain ⟨k, hk1⟩ : ∃ k, maxLen + 59 ≤ k := ⟨_, Nat.le_refl _⟩
  have hk2 : 100000000 ≤ k := by have := maxLen_eq; omega
  refine ⟨k + 1, ?_⟩
  have h5 := first01 (k := k) (by omega)
  simp only [law01_OctetOrder, h5, large01_ok (show maxLen + 2 ≤ k by omega) hl.1, large01_ok (show maxLen + 2 ≤ k by omega) hm.1, Option.bind_some]
  cases h : largeL l with
  | true => rfl
  | false =>
    cases h' : largeL m with
    | true => rfl
    | false =>
      obtain ⟨l1, l2⟩ := large_bounds h
      obtain ⟨m1, m2⟩ := large_bounds h'
      simp only [cond_false, Option.bind_some, octet_Key_ok (show 6000 ≤ k by omega) (show l.length ≤ 5000 by omega) (fun s hs => by have := l2 s hs; omega), octet_Key_ok (show 6000 ≤ k by omega) (show m.length ≤ 5000 by omega) (fun s hs => by have := m2 s hs; omega), octet_Compare_ok (show 2 ≤ k by omega), strB_key, cmp_keys]
      obtain ⟨w, e1, e2⟩ := order_L1 (k := k) (l := l) (m := m) (K := fun y26 => _) (by omega) l1 l2 m2 l.length 0 k (by omega) (by omega) (by omega)
      refine Eq.trans e1 ?_
      rw [List.drop_zero, List.drop_zero] at e2
      rw [e2]
      by_cases hw : w = 0
      · subst hw
        by_cases g1 : l.length < m.length
        · simp only [if_pos g1, decide_eq_true (show (l.length : Int) < (m.length : Int) by omega)]
          rfl
        · by_cases g2 : l.length > m.length
          · simp only [if_neg g1, if_pos g2, decide_eq_false (show ¬ (l.length : Int) < (m.length : Int) by omega), decide_eq_true (show (l.length : Int) > (m.length : Int) by omega)]
            rfl
          · simp only [if_neg g1, if_neg g2, decide_eq_false (show ¬ (l.length : Int) < (m.length : Int) by omega), decide_eq_false (show ¬ (l.length : Int) > (m.length : Int) by omega)]
            rfl
      · simp only [if_neg hw, beq_eq_false_iff_ne.2 hw, cond_false, Option.bind_some, beq_self_eq_true, cond_true]
end Go.Sh

