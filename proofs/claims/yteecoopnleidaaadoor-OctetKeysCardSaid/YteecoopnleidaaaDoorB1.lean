/- The functions as functions on lists, and what they come to: no program in sight. Conditions: those that each theorem names. -/
import Derived.Test.YteecoopnleidaaaDoorA3
import Derived.IntWalk
import Derived.Lib.SplitLaws
namespace Go.Sh
open Go.AE (idx idxS cut cat app upTo inB sameLen revInt wfI wfS wfL wfT mkN repS repL joinS cmpB idxB quoI remE shlI shrI andI orI xorI catL bytesB itoa1 repG)
set_option linter.unusedVariables false
abbrev Str := List UInt8
def law01_Large_L1 (a0 : (List Str))  (K0 : Int → Option Bool) : Nat → Int → Option Bool
  | 0, _ => none
  | m + 1, x3 =>
    (bif (decide (x3 < (a0.length : Int))) then (((idx a0 x3).bind fun v4 => (some ((decide ((v4.length : Int) > 300))))).bind fun o5 =>
          (bif o5 then (some true) else
          (law01_Large_L1 a0 K0 m (Go.IntKind.wrap .i64 (x3 + 1))))) else
        (K0 x3))
def law01_Large : Nat → ((List Str)) → Option Bool
  | 0, _ => none
  | k + 1, a0 =>
    (law01_Large_L1 a0 (fun y6 =>
      (some (decide ((a0.length : Int) > 300)))) k 0)
def octet_Text : Nat → (Str) → Option ((List Int) × Int)
  | 0, _ => none
  | k + 1, a0 =>
    (bif (decide ((a0.length : Int) > 255)) then (some (([] : List Int), 2)) else
      (((app ([(Go.IntKind.wrap .u8 (a0.length : Int))] : List Int) (bytesB a0)).bind fun v1 => (some (v1, 0))).bind fun o2 =>
        (some (o2.1, o2.2))))
def octet_Number : Nat → (Int) → Option ((List Int) × Int)
  | 0, _ => none
  | k + 1, a0 =>
    ((bif (decide (a0 < 0)) then (some (true)) else (some ((decide (a0 > 4294967295))))).bind fun o1 =>
      (bif o1 then (some (([] : List Int), 2)) else
      (((shrI .i64 a0 24).bind fun v2 => ((shrI .i64 a0 16).bind fun v3 => ((shrI .i64 a0 8).bind fun v4 => (some (([(Go.IntKind.wrap .u8 v2), (Go.IntKind.wrap .u8 v3), (Go.IntKind.wrap .u8 v4), (Go.IntKind.wrap .u8 a0)] : List Int), 0))))).bind fun o5 =>
        (some (o5.1, o5.2)))))
def strconv_Itoa : Nat → Int → Option Str
  | 0, _ => none
  | _ + 1, n => itoa1 n
def strings_Repeat : Nat → Str → Int → Option Str
  | 0, _, _ => none
  | _ + 1, s, n => repS s n
def octet_Digits : Nat → (Int) → (Int) → Option (Str × Int)
  | 0, _, _ => none
  | k + 1, a0, a1 =>
    ((strconv_Itoa k a0).bind fun o2 =>
      ((bif (decide (a0 < 0)) then (some (true)) else (bif (decide (a1 < 1)) then (some (true)) else (bif (decide (a1 > 9)) then (some (true)) else (some ((decide ((o2.length : Int) > a1))))))).bind fun o3 =>
      (bif o3 then (some (([] : Str), 2)) else
      (((strings_Repeat k ([48] : Str) (Go.IntKind.wrap .i64 (a1 - (o2.length : Int)))).bind fun v4 => ((cat v4 o2).bind fun v5 => (some (v5, 0)))).bind fun o6 =>
        (some (o6.1, o6.2))))))
def octet_Pad : Nat → (Str) → (Int) → Option (Str × Int)
  | 0, _, _ => none
  | k + 1, a0, a1 =>
    ((bif (decide (a1 < (a0.length : Int))) then (some (true)) else (some ((decide (a1 > 255))))).bind fun o1 =>
      (bif o1 then (some (([] : Str), 2)) else
      (((strings_Repeat k ([32] : Str) (Go.IntKind.wrap .i64 (a1 - (a0.length : Int)))).bind fun v2 => ((cat a0 v2).bind fun v3 => (some (v3, 0)))).bind fun o4 =>
        (some (o4.1, o4.2)))))
def strings_ReplaceAll : Nat → Str → Str → Str → Option Str
  | 0, _, _, _ => none
  | _ + 1, s, o, n => repG s o n
def octet_Key_L1 (k : Nat) (a0 : (List Str))  (K0 : (List Int) → Int → Option (List Int)) : Nat → (List Int) → Int → Option (List Int)
  | 0, _, _ => none
  | m + 1, x8, x9 =>
    (bif (decide (x9 < (a0.length : Int))) then ((idx a0 x9).bind fun o11 =>
          (((strings_ReplaceAll k o11 ([0] : Str) ([0, 255] : Str)).bind fun v12 => (app x8 (bytesB v12))).bind fun o14 =>
          ((app o14 ([0, 1] : List Int)).bind fun o16 =>
          (octet_Key_L1 k a0 K0 m o16 (Go.IntKind.wrap .i64 (x9 + 1)))))) else
        (K0 x8 x9))
def octet_Key : Nat → ((List Str)) → Option (List Int)
  | 0, _ => none
  | k + 1, a0 =>
    (octet_Key_L1 k a0 (fun y17 y18 =>
      (some y17)) k ([] : List Int) 0)
def law01_First : Nat → Option Bool
  | _ + 5 => some true
  | _ => none
def octet_Parts_L1 (a0 : (List Int))  (K0 : (List Str) → (List Int) → Bool → Int → Option ((List Str) × Int)) : Nat → (List Int) → Bool → Int → (List Str) → Option ((List Str) × Int)
  | 0, _, _, _, _ => none
  | m + 1, x12, x13, x14, x15 =>
    (bif (decide (x14 < (a0.length : Int))) then (((idx a0 x14).bind fun v16 => (some ((v16 != 0)))).bind fun o17 =>
          (bif o17 then (((idx a0 x14).bind fun v18 => ((app x12 ([v18] : List Int)).bind fun v19 => (some (v19, true)))).bind fun o20 =>
            (octet_Parts_L1 a0 K0 m o20.1 o20.2 (Go.IntKind.wrap .i64 (x14 + 1)) x15)) else
          (bif ((Go.IntKind.wrap .i64 (x14 + 1)) == (a0.length : Int)) then (some (([] : List Str), 3)) else
            ((idx a0 (Go.IntKind.wrap .i64 (x14 + 1))).bind fun o22 =>
              (bif (o22 == 255) then (((app x12 ([0] : List Int)).bind fun v23 => (some (v23, true))).bind fun o24 =>
                (octet_Parts_L1 a0 K0 m o24.1 o24.2 (Go.IntKind.wrap .i64 ((Go.IntKind.wrap .i64 (x14 + 1)) + 1)) x15)) else
              (bif (o22 == 1) then ((app x15 ([(Go.AE.strB x12)] : List Str)).bind fun o26 =>
                  (octet_Parts_L1 a0 K0 m ([] : List Int) false (Go.IntKind.wrap .i64 ((Go.IntKind.wrap .i64 (x14 + 1)) + 1)) o26)) else
                (some (([] : List Str), 3)))))))) else
        (K0 x15 x12 x13 x14))
def octet_Parts : Nat → ((List Int)) → Option ((List Str) × Int)
  | 0, _ => none
  | k + 1, a0 =>
    (octet_Parts_L1 a0 (fun y27 y28 y29 y30 =>
      (bif y29 then (some (([] : List Str), 3)) else
        (some (y27, 0)))) k ([] : List Int) false 0 ([] : List Str))
def ref01_Parts_L1 (a0 : (List Int))  (K0 : (List Str) → (List Int) → Bool → Int → Option ((List Str) × Int)) : Nat → (List Int) → Bool → Int → (List Str) → Option ((List Str) × Int)
  | 0, _, _, _, _ => none
  | m + 1, x15, x16, x17, x18 =>
    (bif (decide (x17 < (a0.length : Int))) then (((idx a0 x17).bind fun v19 => (some ((v19 != 0)))).bind fun o20 =>
          (bif o20 then (((idx a0 x17).bind fun v21 => (app x15 ([v21] : List Int))).bind fun o23 =>
            (ref01_Parts_L1 a0 K0 m o23 true (Go.IntKind.wrap .i64 (x17 + 1)) x18)) else
          ((bif ((Go.IntKind.wrap .i64 (x17 + 1)) == (a0.length : Int)) then (some (true)) else ((idx a0 (Go.IntKind.wrap .i64 (x17 + 1))).bind fun v24 => (bif (v24 != 255) then ((idx a0 (Go.IntKind.wrap .i64 (x17 + 1))).bind fun v25 => (some ((v25 != 1)))) else (some (false))))).bind fun o26 =>
            (bif o26 then (some (([] : List Str), 3)) else
            (((idx a0 (Go.IntKind.wrap .i64 (x17 + 1))).bind fun v27 => (some ((v27 == 255)))).bind fun o28 =>
              (bif o28 then ((app x15 ([0] : List Int)).bind fun o30 =>
                (ref01_Parts_L1 a0 K0 m o30 true (Go.IntKind.wrap .i64 ((Go.IntKind.wrap .i64 (x17 + 1)) + 1)) x18)) else
              ((app x18 ([(Go.AE.strB x15)] : List Str)).bind fun o32 =>
                (ref01_Parts_L1 a0 K0 m ([] : List Int) false (Go.IntKind.wrap .i64 ((Go.IntKind.wrap .i64 (x17 + 1)) + 1)) o32)))))))) else
        (K0 x18 x15 x16 x17))
def ref01_Parts : Nat → ((List Int)) → Option ((List Str) × Int)
  | 0, _ => none
  | k + 1, a0 =>
    (ref01_Parts_L1 a0 (fun y33 y34 y35 y36 =>
      (bif y35 then (some (([] : List Str), 3)) else
        (some (y33, 0)))) k ([] : List Int) false 0 ([] : List Str))
def ref01_Key_L2 (a0 : (List Str)) (x30 : Int)  (K0 : (List Int) → Int → Option (List Int)) : Nat → (List Int) → Int → Option (List Int)
  | 0, _, _ => none
  | m + 1, x42, x43 =>
    (((idx a0 x30).bind fun v44 => (some ((decide (x43 < (v44.length : Int)))))).bind fun o45 =>
        (bif o45 then (((idx a0 x30).bind fun v46 => ((idxS v46 x43).bind fun v47 => (app x42 ([v47] : List Int)))).bind fun o49 =>
          (((idx a0 x30).bind fun v50 => ((idxS v50 x43).bind fun v51 => (some ((v51 == 0))))).bind fun o52 =>
          (bif o52 then ((app o49 ([255] : List Int)).bind fun o54 =>
            (ref01_Key_L2 a0 x30 K0 m o54 (Go.IntKind.wrap .i64 (x43 + 1)))) else
          (ref01_Key_L2 a0 x30 K0 m o49 (Go.IntKind.wrap .i64 (x43 + 1)))))) else
        (K0 x42 x43)))
def ref01_Key_L1 (k : Nat) (a0 : (List Str))  (K0 : (List Int) → Int → Option (List Int)) : Nat → (List Int) → Int → Option (List Int)
  | 0, _, _ => none
  | m + 1, x29, x30 =>
    (bif (decide (x30 < (a0.length : Int))) then (ref01_Key_L2 a0 x30 (fun y55 y56 =>
          ((app y55 ([0, 1] : List Int)).bind fun o58 =>
            (ref01_Key_L1 k a0 K0 m o58 (Go.IntKind.wrap .i64 (x30 + 1))))) k x29 0) else
        (K0 x29 x30))
def ref01_Key : Nat → ((List Str)) → Option (List Int)
  | 0, _ => none
  | k + 1, a0 =>
    (ref01_Key_L1 k a0 (fun y59 y60 =>
      (some y59)) k ([] : List Int) 0)
def ref01_SameTexts_L1 (a0 : (List Str)) (a1 : (List Str))  (K0 : Int → Option Bool) : Nat → Int → Option Bool
  | 0, _ => none
  | m + 1, x4 =>
    (bif (decide (x4 < (a0.length : Int))) then (((idx a0 x4).bind fun v5 => ((idx a1 x4).bind fun v6 => (some ((!(v5 == v6)))))).bind fun o7 =>
          (bif o7 then (some false) else
          (ref01_SameTexts_L1 a0 a1 K0 m (Go.IntKind.wrap .i64 (x4 + 1))))) else
        (K0 x4))
def ref01_SameTexts : Nat → ((List Str)) → ((List Str)) → Option Bool
  | 0, _, _ => none
  | k + 1, a0, a1 =>
    (bif ((a0.length : Int) != (a1.length : Int)) then (some false) else
      (ref01_SameTexts_L1 a0 a1 (fun y8 =>
        (some true)) k 0))
def law01_OctetKeys : Nat → ((List Str)) → ((List Int)) → Option Bool
  | 0, _, _ => none
  | k + 1, a0, a1 =>
    (((law01_Large k a0).bind fun v1 => (bif v1 then (some (true)) else (some ((decide ((a1.length : Int) > 2000)))))).bind fun o2 =>
      (bif o2 then ((law01_First k).bind fun o4 =>
        (some o4)) else
      ((octet_Key k a0).bind fun o6 =>
        (((octet_Parts k o6).bind fun v7 => (some (v7.1, v7.2))).bind fun o8 =>
        (((octet_Parts k a1).bind fun v9 => (some (v9.1, v9.2))).bind fun o10 =>
        (((ref01_Parts k a1).bind fun v11 => (some (v11.1, v11.2))).bind fun o12 =>
        (((ref01_Key k a0).bind fun v13 => (bif (!((Go.AE.strB o6) == (Go.AE.strB v13))) then (some (true)) else (bif (o8.2 != 0) then (some (true)) else ((ref01_SameTexts k o8.1 a0).bind fun v14 => (bif (!v14) then (some (true)) else ((ref01_SameTexts k o10.1 o12.1).bind fun v15 => (bif (!v15) then (some (true)) else (some ((o10.2 != o12.2)))))))))).bind fun o16 =>
        (bif o16 then (some false) else
        ((bif (o10.2 != 0) then (law01_First k) else ((octet_Key k o10.1).bind fun v18 => (bif ((Go.AE.strB v18) == (Go.AE.strB a1)) then (law01_First k) else (some (false))))).bind fun o20 =>
          (some o20))))))))))
end Go.Sh
namespace Go.Sh
open Go.AE
set_option linter.unusedVariables false
theorem maxLen_eq : maxLen = 9223372036854775807 := rfl
theorem wrap_in {x : Int} (h : -9223372036854775808 ≤ x) (h' : x ≤ 9223372036854775807) : Go.IntKind.wrap .i64 x = x := IntWalk.i64_in x ⟨h, h'⟩
theorem wrap_next {i n : Nat} (h : i < n) (hn : n ≤ maxLen) : Go.IntKind.wrap .i64 ((i : Int) + 1) = ((i + 1 : Nat) : Int) := by
  rw [wrap_in] <;> (try rw [maxLen_eq] at hn) <;> omega
theorem idx_at {α : Type} {l : List α} {i : Nat} (h : i < l.length) : idx l (i : Int) = some l[i] := by
  unfold idx
  rw [if_pos (by omega), Int.toNat_natCast, List.getElem?_eq_getElem h]
theorem idxS_at {l : List UInt8} {i : Nat} (h : i < l.length) : idxS l (i : Int) = some (l[i].toNat : Int) := by
  unfold idxS
  rw [if_pos (by omega), Int.toNat_natCast, List.getElem?_eq_getElem h]
  rfl
theorem app_ok {α : Type} {l m : List α} (h : l.length + m.length ≤ maxList) : app l m = some (l ++ m) := by
  unfold app; rw [if_pos h]
end Go.Sh

namespace Go.Sh
open Go.AE
set_option linter.unusedVariables false
set_option linter.unusedSimpArgs false
def largeL (l : List Str) : Bool := l.any (fun s => decide ((s.length : Int) > 300)) || decide ((l.length : Int) > 300)
theorem large01_ok {k : Nat} {l : List Str} (hk : maxLen + 2 ≤ k) (hl : l.length ≤ maxLen) : law01_Large k l = some (largeL l) := by
  obtain ⟨k, rfl⟩ : ∃ q, k = q + 1 := ⟨k - 1, by omega⟩
  have main : ∀ d i m : Nat, i + d = l.length → d < m → law01_Large_L1 l (fun _ => some (decide ((l.length : Int) > 300))) m (i : Int) = some ((l.drop i).any (fun s => decide ((s.length : Int) > 300)) || decide ((l.length : Int) > 300)) := by
    intro d
    induction d with
    | zero =>
      intro i m hd hm
      obtain ⟨m, rfl⟩ : ∃ q, m = q + 1 := ⟨m - 1, by omega⟩
      obtain rfl : i = l.length := by omega
      simp only [law01_Large_L1, show decide ((l.length : Int) < (l.length : Int)) = false by simp, cond_false, List.drop_length, List.any_nil, Bool.false_or]
    | succ d ih =>
      intro i m hd hm
      obtain ⟨m, rfl⟩ : ∃ q, m = q + 1 := ⟨m - 1, by omega⟩
      have hi : i < l.length := by omega
      simp only [law01_Large_L1, show decide ((i : Int) < (l.length : Int)) = true by simp; exact hi, cond_true, idx_at hi, Option.bind_some, wrap_next hi hl]
      rw [ih (i + 1) m (by omega) (by omega), List.drop_eq_getElem_cons hi, List.any_cons]
      cases decide ((l[i].length : Int) > 300) <;> rfl
  exact main l.length 0 k (by omega) (by omega)
theorem large_bounds {l : List Str} (h : largeL l = false) : l.length ≤ 300 ∧ ∀ s ∈ l, s.length ≤ 300 := by
  unfold largeL at h
  rw [Bool.or_eq_false_iff, List.any_eq_false] at h
  obtain ⟨h1, h2⟩ := h
  rw [decide_eq_false_iff_not] at h2
  exact ⟨by omega, fun s hs => by have := h1 s hs; simp at this; omega⟩
theorem bytesB_len (s : Str) : (bytesB s).length = s.length := by
  unfold bytesB
  rw [List.length_map]
theorem first01 {k : Nat} (hk : 20 ≤ k) : law01_First k = some true := by
  obtain ⟨k, rfl⟩ : ∃ q, k = q + 20 := ⟨k - 20, by omega⟩
  rfl
end Go.Sh

namespace Go.Sh
open Go.AE
set_option linter.unusedVariables false
set_option linter.unusedSimpArgs false
def escI (l : List Int) : List Int := l.flatMap fun c => if c = 0 then [0, 255] else [c]
def keyOf (l : List Str) : List Int := l.flatMap fun s => escI (bytesB s) ++ [0, 1]
/-- A byte, replaced. -/
def subst1 (c : UInt8) (n : Str) (s : Str) : Str := s.flatMap fun x => if x = c then n else [x]
theorem subst1_none {c : UInt8} {n : Str} : ∀ {s : Str}, c ∉ s → subst1 c n s = s
  | [], _ => rfl
  | x :: s, h => by
    have h1 : x ≠ c := fun e => h (by rw [e]; exact List.mem_cons_self)
    have h2 : c ∉ s := fun e => h (List.mem_cons_of_mem _ e)
    unfold subst1
    rw [List.flatMap_cons, if_neg h1]
    exact congrArg (x :: ·) (subst1_none h2)
theorem index_one (c : UInt8) : ∀ s : Str, (Go.Lib.index s [c] = -1 ∧ c ∉ s) ∨ ∃ i : Nat, Go.Lib.index s [c] = (i : Int) ∧ c ∉ s.take i ∧ s = s.take i ++ c :: s.drop (i + 1)
  | [] => .inl ⟨rfl, List.not_mem_nil⟩
  | x :: s => by
    unfold Go.Lib.index
    by_cases h : x = c
    · subst h
      rw [if_pos (by simp [List.isPrefixOf])]
      exact .inr ⟨0, rfl, List.not_mem_nil, rfl⟩
    · rw [if_neg (by simp [List.isPrefixOf]; exact fun e => h e.symm)]
      rcases index_one c s with ⟨h1, h2⟩ | ⟨i, h1, h2, h3⟩
      · rw [h1]
        refine .inl ⟨rfl, fun hm => ?_⟩
        rcases List.mem_cons.1 hm with e | e
        · exact h e.symm
        · exact h2 e
      · rw [h1, if_neg (by simp)]
        refine .inr ⟨i + 1, by omega, ?_, ?_⟩
        · rw [List.take_succ_cons]
          intro hm
          rcases List.mem_cons.1 hm with e | e
          · exact h e.symm
          · exact h2 e
        · rw [List.take_succ_cons, List.drop_succ_cons, List.cons_append, ← h3]
theorem replaceK_one (c : UInt8) (n : Str) : ∀ (k : Nat) (s : Str), s.count c ≤ k → Go.Lib.replaceK [c] n k s = subst1 c n s
  | 0, s, h => by
    rw [Go.Lib.replaceK, subst1_none]
    exact List.count_eq_zero.1 (by omega)
  | k + 1, s, h => by
    rw [Go.Lib.replaceK]
    rcases index_one c s with ⟨h1, h2⟩ | ⟨i, h1, h2, h3⟩
    · rw [h1, if_pos (beq_self_eq_true _), subst1_none h2]
    · rw [h1, if_neg (by simp)]
      have hc : (s.drop (i + 1)).count c ≤ k := by
        rw [h3, List.count_append, List.count_cons_self] at h
        omega
      show s.take i ++ n ++ Go.Lib.replaceK [c] n k (s.drop (i + 1)) = _
      rw [replaceK_one c n k _ hc]
      have hs : subst1 c n s = subst1 c n (s.take i ++ c :: s.drop (i + 1)) := by rw [← h3]
      rw [hs]
      have e : ∀ a b : Str, subst1 c n (a ++ c :: b) = subst1 c n a ++ (n ++ subst1 c n b) := fun a b => by
        unfold subst1
        rw [List.flatMap_append, List.flatMap_cons, if_pos rfl]
      rw [e, subst1_none h2, List.append_assoc]
theorem replaceAll_one (s : Str) : Go.Lib.replaceAll s [0] [0, 255] = subst1 0 [0, 255] s := by
  unfold Go.Lib.replaceAll Go.Lib.replace
  rw [if_neg (by decide)]
  refine replaceK_one 0 _ _ s ?_
  unfold Go.Lib.replaceNum
  rw [if_pos (.inl (by decide)), Go.Lib.count_one]
  exact Nat.le_refl _
theorem bytes_subst : ∀ s : Str, bytesB (subst1 0 [0, 255] s) = escI (bytesB s)
  | [] => rfl
  | x :: s => by
    have ih := bytes_subst s
    unfold subst1 escI bytesB at ih ⊢
    rw [List.flatMap_cons, List.map_append, ih, List.map_cons, List.flatMap_cons]
    congr 1
    by_cases h : x = 0
    · subst h; rfl
    · rw [if_neg h, if_neg (fun e => h (UInt8.toNat_inj.1 (by simpa using e)))]
      rfl
theorem escI_len : ∀ l : List Int, (escI l).length ≤ 2 * l.length
  | [] => Nat.le_refl 0
  | x :: l => by
    have ih := escI_len l
    unfold escI at ih ⊢
    rw [List.flatMap_cons, List.length_append, List.length_cons]
    split <;> simp only [List.length_cons, List.length_nil] <;> omega
theorem octet_Key_L1_ok {k : Nat} {l : List Str} (hk : 1 ≤ k) (hn : l.length ≤ 5000) (hl : ∀ s ∈ l, s.length ≤ 5000) : ∀ (d i m : Nat) (out : List Int), i + d = l.length → d < m → out.length ≤ i * 10002 → octet_Key_L1 k l (fun y17 _ => some y17) m out (i : Int) = some (out ++ keyOf (l.drop i))
  | 0, i, m, out, hd, hm, ho => by
    obtain ⟨m, rfl⟩ : ∃ q, m = q + 1 := ⟨m - 1, by omega⟩
    obtain rfl : i = l.length := by omega
    simp only [octet_Key_L1, show decide ((l.length : Int) < (l.length : Int)) = false by simp, cond_false, List.drop_length, keyOf, List.flatMap_nil, List.append_nil]
  | d + 1, i, m, out, hd, hm, ho => by
    obtain ⟨m, rfl⟩ : ∃ q, m = q + 1 := ⟨m - 1, by omega⟩
    obtain ⟨k, rfl⟩ : ∃ q, k = q + 1 := ⟨k - 1, by omega⟩
    have hi : i < l.length := by omega
    have hs := hl l[i] (List.getElem_mem hi)
    have hr : strings_ReplaceAll (k + 1) l[i] [0] [0, 255] = some (subst1 0 [0, 255] l[i]) := by
      show repG _ _ _ = _
      unfold repG
      rw [if_pos ⟨by omega, by decide, by decide⟩, replaceAll_one]
    have hlen : (escI (bytesB l[i])).length ≤ 10000 := by have := escI_len (bytesB l[i]); rw [bytesB_len] at this; omega
    have hi5 : i * 10002 ≤ 5000 * 10002 := Nat.mul_le_mul_right _ (by omega)
    have e1 : app out (escI (bytesB l[i])) = some (out ++ escI (bytesB l[i])) := app_ok (by simp only [maxList]; omega)
    have e2 : app (out ++ escI (bytesB l[i])) [0, 1] = some (out ++ escI (bytesB l[i]) ++ [0, 1]) := app_ok (by simp only [maxList, List.length_append, List.length_cons, List.length_nil]; omega)
    simp only [octet_Key_L1, show decide ((i : Int) < (l.length : Int)) = true by simp; exact hi, cond_true, idx_at hi, hr, bytes_subst, e1, e2, Option.bind_some, wrap_next hi (show l.length ≤ maxLen by have := maxLen_eq; omega)]
    rw [octet_Key_L1_ok (by omega) hn hl d (i + 1) m _ (by omega) (by omega) (by simp only [List.length_append, List.length_cons, List.length_nil]; omega), List.drop_eq_getElem_cons hi]
    unfold keyOf
    rw [List.flatMap_cons]
    simp only [List.append_assoc]
theorem octet_Key_ok {k : Nat} {l : List Str} (hk : 6000 ≤ k) (hn : l.length ≤ 5000) (hl : ∀ s ∈ l, s.length ≤ 5000) : octet_Key k l = some (keyOf l) := by
  obtain ⟨k, rfl⟩ : ∃ q, k = q + 1 := ⟨k - 1, by omega⟩
  exact octet_Key_L1_ok (k := k) (by omega) hn hl l.length 0 k [] (by omega) (by omega) (by simp)
theorem ref01_Key_L2_ok {l : List Str} {i : Nat} {K : List Int → Option (List Int)} (hi : i < l.length) (hs : (l[i]).length ≤ 5000) : ∀ (d j m : Nat) (out : List Int), j + d = (l[i]).length → d < m → out.length ≤ 100000000 + 2 * j → ref01_Key_L2 l (i : Int) (fun y55 _ => K y55) m out (j : Int) = K (out ++ escI (bytesB ((l[i]).drop j)))
  | 0, j, m, out, hd, hm, ho => by
    obtain ⟨m, rfl⟩ : ∃ q, m = q + 1 := ⟨m - 1, by omega⟩
    obtain rfl : j = (l[i]).length := by omega
    simp only [ref01_Key_L2, idx_at hi, Option.bind_some, show decide (((l[i]).length : Int) < ((l[i]).length : Int)) = false by simp, cond_false, List.drop_length, bytesB, List.map_nil, escI, List.flatMap_nil, List.append_nil]
  | d + 1, j, m, out, hd, hm, ho => by
    obtain ⟨m, rfl⟩ : ∃ q, m = q + 1 := ⟨m - 1, by omega⟩
    have hj : j < (l[i]).length := by omega
    have e1 : app out [(((l[i])[j].toNat : Nat) : Int)] = some (out ++ [(((l[i])[j].toNat : Nat) : Int)]) := app_ok (by simp only [maxList, List.length_cons, List.length_nil]; omega)
    have e2 : app (out ++ [(((l[i])[j].toNat : Nat) : Int)]) [255] = some (out ++ [(((l[i])[j].toNat : Nat) : Int)] ++ [255]) := app_ok (by simp only [maxList, List.length_append, List.length_cons, List.length_nil]; omega)
    simp only [ref01_Key_L2, idx_at hi, Option.bind_some, show decide ((j : Int) < ((l[i]).length : Int)) = true by simp; exact hj, cond_true, idxS_at hj, e1, e2, wrap_next hj (show (l[i]).length ≤ maxLen by have := maxLen_eq; omega)]
    have hd2 : escI (bytesB ((l[i]).drop j)) = (if (((l[i])[j].toNat : Nat) : Int) = 0 then [0, 255] else [(((l[i])[j].toNat : Nat) : Int)]) ++ escI (bytesB ((l[i]).drop (j + 1))) := by
      rw [List.drop_eq_getElem_cons hj]
      unfold escI bytesB
      rw [List.map_cons, List.flatMap_cons]
    rw [hd2]
    by_cases h0 : (((l[i])[j].toNat : Nat) : Int) = 0
    · rw [beq_iff_eq.2 h0, if_pos h0, cond_true, ref01_Key_L2_ok hi hs d (j + 1) m _ (by omega) (by omega) (by simp only [List.length_append, List.length_cons, List.length_nil]; omega), h0]
      simp only [List.append_assoc, List.cons_append, List.nil_append]
    · rw [beq_eq_false_iff_ne.2 h0, if_neg h0, cond_false, ref01_Key_L2_ok hi hs d (j + 1) m _ (by omega) (by omega) (by simp only [List.length_append, List.length_cons, List.length_nil]; omega)]
      simp only [List.append_assoc]
theorem ref01_Key_L1_ok {k : Nat} {l : List Str} (hk : 6000 ≤ k) (hn : l.length ≤ 5000) (hl : ∀ s ∈ l, s.length ≤ 5000) : ∀ (d i m : Nat) (out : List Int), i + d = l.length → d < m → out.length ≤ i * 10002 → ref01_Key_L1 k l (fun y59 _ => some y59) m out (i : Int) = some (out ++ keyOf (l.drop i))
  | 0, i, m, out, hd, hm, ho => by
    obtain ⟨m, rfl⟩ : ∃ q, m = q + 1 := ⟨m - 1, by omega⟩
    obtain rfl : i = l.length := by omega
    simp only [ref01_Key_L1, show decide ((l.length : Int) < (l.length : Int)) = false by simp, cond_false, List.drop_length, keyOf, List.flatMap_nil, List.append_nil]
  | d + 1, i, m, out, hd, hm, ho => by
    obtain ⟨m, rfl⟩ : ∃ q, m = q + 1 := ⟨m - 1, by omega⟩
    have hi : i < l.length := by omega
    have hs := hl l[i] (List.getElem_mem hi)
    have hlen : (escI (bytesB l[i])).length ≤ 10000 := by have := escI_len (bytesB l[i]); rw [bytesB_len] at this; omega
    have hi5 : i * 10002 ≤ 5000 * 10002 := Nat.mul_le_mul_right _ (by omega)
    have e2 : app (out ++ escI (bytesB l[i])) [0, 1] = some (out ++ escI (bytesB l[i]) ++ [0, 1]) := app_ok (by simp only [maxList, List.length_append, List.length_cons, List.length_nil]; omega)
    simp only [ref01_Key_L1, show decide ((i : Int) < (l.length : Int)) = true by simp; exact hi, cond_true]
    refine Eq.trans (ref01_Key_L2_ok (K := fun y => (app y [0, 1]).bind fun o58 => ref01_Key_L1 k l (fun y59 _ => some y59) m o58 (Go.IntKind.wrap .i64 ((i : Int) + 1))) hi hs (l[i]).length 0 k out (by omega) (by omega) (by omega)) ?_
    rw [List.drop_zero, e2, Option.bind_some, wrap_next hi (show l.length ≤ maxLen by have := maxLen_eq; omega)]
    rw [ref01_Key_L1_ok hk hn hl d (i + 1) m _ (by omega) (by omega) (by simp only [List.length_append, List.length_cons, List.length_nil]; omega), List.drop_eq_getElem_cons hi]
    unfold keyOf
    rw [List.flatMap_cons]
    simp only [List.append_assoc]
theorem ref01_Key_ok {k : Nat} {l : List Str} (hk : 6001 ≤ k) (hn : l.length ≤ 5000) (hl : ∀ s ∈ l, s.length ≤ 5000) : ref01_Key k l = some (keyOf l) := by
  obtain ⟨k, rfl⟩ : ∃ q, k = q + 1 := ⟨k - 1, by omega⟩
  exact ref01_Key_L1_ok (k := k) (by omega) hn hl l.length 0 k [] (by omega) (by omega) (by simp)
def partsGo : List Int → Bool → List Str → List Int → List Str × Int
  | now, op, out, [] => bif op then ([], 3) else (out, 0)
  | now, op, out, x :: r => if x ≠ 0 then partsGo (now ++ [x]) true out r else match r with
    | [] => ([], 3)
    | y :: r => if y = 255 then partsGo (now ++ [0]) true out r else if y = 1 then partsGo [] false (out ++ [strB now]) r else ([], 3)
def partsOf (key : List Int) : List Str × Int := partsGo [] false [] key
theorem octet_Parts_L1_ok {a : List Int} (ha : a.length ≤ 10000000) : ∀ (d i m : Nat) (now : List Int) (op : Bool) (out : List Str), i + d = a.length → d < m → now.length ≤ i → out.length ≤ i →
    octet_Parts_L1 a (fun y27 _ y29 _ => bif y29 then some ([], 3) else some (y27, 0)) m now op (i : Int) out = some (partsGo now op out (a.drop i)) := by
  intro d
  induction d using Nat.strongRecOn with
  | ind d ih =>
  intro i m now op out hd hm h1 h2
  obtain ⟨m, rfl⟩ : ∃ q, m = q + 1 := ⟨m - 1, by omega⟩
  have hmax : a.length ≤ maxLen := by have := maxLen_eq; omega
  cases d with
  | zero =>
    obtain rfl : i = a.length := by omega
    simp only [octet_Parts_L1, show decide ((a.length : Int) < (a.length : Int)) = false by simp, cond_false, List.drop_length, partsGo]
    cases op <;> rfl
  | succ d =>
    have hi : i < a.length := by omega
    have e1 : ∀ x, app now [x] = some (now ++ [x]) := fun x => app_ok (by simp only [maxList, List.length_cons, List.length_nil]; omega)
    have e2 : app out [strB now] = some (out ++ [strB now]) := app_ok (by simp only [maxList, List.length_cons, List.length_nil]; omega)
    simp only [octet_Parts_L1, show decide ((i : Int) < (a.length : Int)) = true by simp; exact hi, cond_true, idx_at hi, Option.bind_some, wrap_next hi hmax, e1, e2]
    rw [List.drop_eq_getElem_cons hi]
    by_cases hx : a[i] = 0
    · rw [show (a[i] != 0) = false by rw [hx]; rfl, cond_false, hx]
      by_cases hl : i + 1 = a.length
      · rw [beq_iff_eq.2 (show ((i + 1 : Nat) : Int) = (a.length : Int) by omega), cond_true, List.drop_eq_nil_of_le (by omega)]
        rfl
      · have hi1 : i + 1 < a.length := by omega
        rw [beq_eq_false_iff_ne.2 (show ((i + 1 : Nat) : Int) ≠ (a.length : Int) by omega), cond_false, idx_at hi1, Option.bind_some, wrap_next hi1 hmax, List.drop_eq_getElem_cons hi1]
        show _ = some (if a[i + 1] = 255 then _ else if a[i + 1] = 1 then _ else _)
        by_cases h255 : a[i + 1] = 255
        · rw [beq_iff_eq.2 h255, cond_true, if_pos h255]
          exact ih (d - 1) (by omega) (i + 1 + 1) m _ _ _ (by omega) (by omega) (by simp only [List.length_append, List.length_cons, List.length_nil]; omega) (by omega)
        · rw [beq_eq_false_iff_ne.2 h255, cond_false, if_neg h255]
          by_cases h1' : a[i + 1] = 1
          · rw [beq_iff_eq.2 h1', cond_true, if_pos h1']
            exact ih (d - 1) (by omega) (i + 1 + 1) m _ _ _ (by omega) (by omega) (by simp) (by simp only [List.length_append, List.length_cons, List.length_nil]; omega)
          · rw [beq_eq_false_iff_ne.2 h1', cond_false, if_neg h1']
    · rw [show (a[i] != 0) = true by simp [hx], cond_true, partsGo.eq_def]
      simp only [ne_eq, hx, not_false_eq_true, if_true]
      exact ih d (by omega) (i + 1) m _ _ _ (by omega) (by omega) (by simp only [List.length_append, List.length_cons, List.length_nil]; omega) (by omega)
theorem octet_Parts_ok {k : Nat} {a : List Int} (ha : a.length ≤ 10000000) (hk : a.length + 2 ≤ k) : octet_Parts k a = some (partsOf a) := by
  obtain ⟨k, rfl⟩ : ∃ q, k = q + 1 := ⟨k - 1, by omega⟩
  exact octet_Parts_L1_ok ha a.length 0 k [] false [] (by omega) (by omega) (by simp) (by simp)
theorem ref01_Parts_L1_eq {a : List Int} (K : List Str → List Int → Bool → Int → Option (List Str × Int)) : ∀ m now op i out, ref01_Parts_L1 a K m now op i out = octet_Parts_L1 a K m now op i out
  | 0, _, _, _, _ => rfl
  | m + 1, now, op, i, out => by
    have ih := ref01_Parts_L1_eq (a := a) K m
    simp only [ref01_Parts_L1, octet_Parts_L1, ih]
    cases decide (i < (a.length : Int)) with
    | false => rfl
    | true =>
      simp only [cond_true]
      cases idx a i with
      | none => rfl
      | some x =>
        simp only [Option.bind_some]
        cases hx : x != 0 with
        | true =>
          simp only [cond_true]
          cases app now [x] <;> rfl
        | false =>
          simp only [cond_false]
          cases (Go.IntKind.wrap .i64 (i + 1) == (a.length : Int)) with
          | true => rfl
          | false =>
            simp only [cond_false]
            cases idx a (Go.IntKind.wrap .i64 (i + 1)) with
            | none => rfl
            | some y =>
              simp only [Option.bind_some]
              by_cases h255 : y = 255
              · subst h255
                simp only [bne_self_eq_false, beq_self_eq_true, cond_true, cond_false, Option.bind_some]
                cases app now [0] <;> rfl
              · have g1 : (y != 255) = true := by simpa using h255
                have g2 : (y == 255) = false := by simpa using h255
                by_cases h1 : y = 1
                · subst h1
                  rfl
                · have g3 : (y != 1) = true := by simpa using h1
                  have g4 : (y == 1) = false := by simpa using h1
                  simp only [g1, g2, g3, g4, cond_true, cond_false, Option.bind_some]
theorem ref01_Parts_ok {k : Nat} {a : List Int} (ha : a.length ≤ 10000000) (hk : a.length + 2 ≤ k) : ref01_Parts k a = some (partsOf a) := by
  obtain ⟨k, rfl⟩ : ∃ q, k = q + 1 := ⟨k - 1, by omega⟩
  rw [← octet_Parts_ok ha hk]
  simp only [ref01_Parts, octet_Parts, ref01_Parts_L1_eq]
theorem strB_bytesB (s : Str) : strB (bytesB s) = s := by
  unfold strB bytesB
  rw [List.map_map]
  refine (List.map_congr_left (fun x _ => ?_)).trans (List.map_id s)
  simp
theorem strB_append (a b : List Int) : strB (a ++ b) = strB a ++ strB b := by
  unfold strB
  rw [List.map_append]
theorem parts_text : ∀ (s : Str) (now : List Int) (op : Bool) (out : List Str) (r : List Int), partsGo now op out (escI (bytesB s) ++ 0 :: 1 :: r) = partsGo [] false (out ++ [strB now ++ s]) r
  | [], now, op, out, r => by
    simp [escI, bytesB, partsGo]
  | x :: s, now, op, out, r => by
    have hc : escI (bytesB (x :: s)) = (if ((x.toNat : Nat) : Int) = 0 then [0, 255] else [((x.toNat : Nat) : Int)]) ++ escI (bytesB s) := by
      unfold escI bytesB
      rw [List.map_cons, List.flatMap_cons]
    have hx : strB [((x.toNat : Nat) : Int)] = [x] := strB_bytesB [x]
    rw [hc]
    by_cases h : ((x.toNat : Nat) : Int) = 0
    · rw [if_pos h]
      have e : partsGo now op out ([0, 255] ++ escI (bytesB s) ++ 0 :: 1 :: r) = partsGo (now ++ [0]) true out (escI (bytesB s) ++ 0 :: 1 :: r) := by
        simp [partsGo]
      rw [e, parts_text s, strB_append, ← h, hx]
      simp only [List.append_assoc, List.cons_append, List.nil_append]
    · rw [if_neg h]
      have e : partsGo now op out ([((x.toNat : Nat) : Int)] ++ escI (bytesB s) ++ 0 :: 1 :: r) = partsGo (now ++ [((x.toNat : Nat) : Int)]) true out (escI (bytesB s) ++ 0 :: 1 :: r) := by
        rw [List.append_assoc, List.cons_append, List.nil_append, partsGo.eq_def]
        simp only [ne_eq, h, not_false_eq_true, if_true]
      rw [e, parts_text s, strB_append, hx]
      simp only [List.append_assoc, List.cons_append, List.nil_append]
theorem parts_key : ∀ (l out : List Str), partsGo [] false out (keyOf l) = (out ++ l, 0)
  | [], out => by simp [keyOf, partsGo]
  | s :: l, out => by
    have e : keyOf (s :: l) = escI (bytesB s) ++ 0 :: 1 :: keyOf l := by
      unfold keyOf
      rw [List.flatMap_cons]
      simp only [List.append_assoc, List.cons_append, List.nil_append]
    rw [e, parts_text, parts_key l]
    simp only [strB, List.map_nil, List.append_assoc, List.cons_append, List.nil_append]
def isByte (x : Int) : Prop := 0 ≤ x ∧ x ≤ 255
theorem bytesB_strB {l : List Int} (h : ∀ x ∈ l, isByte x) : bytesB (strB l) = l := by
  unfold bytesB strB
  rw [List.map_map]
  refine (List.map_congr_left (fun x hx => ?_)).trans (List.map_id l)
  obtain ⟨h0, h1⟩ := h x hx
  show (((UInt8.ofNat x.toNat).toNat : Nat) : Int) = x
  rw [UInt8.toNat_ofNat']
  omega
theorem key_parts : ∀ (n : Nat) (key now : List Int) (op : Bool) (out P : List Str), key.length ≤ n → (∀ x ∈ key, isByte x) → (∀ x ∈ now, isByte x) → (op = false → now = []) → partsGo now op out key = (P, 0) → ∃ Q, P = out ++ Q ∧ escI now ++ key = keyOf Q := by
  intro n
  induction n with
  | zero =>
    intro key now op out P hn hk hw hop h
    obtain rfl : key = [] := List.eq_nil_of_length_eq_zero (by omega)
    cases op with
    | true => simp [partsGo] at h
    | false =>
      rw [hop rfl]
      simp only [partsGo, cond_false, Prod.mk.injEq] at h
      exact ⟨[], by rw [← h.1, List.append_nil], rfl⟩
  | succ n ih =>
    intro key now op out P hn hk hw hop h
    cases key with
    | nil =>
      cases op with
      | true => simp [partsGo] at h
      | false =>
        rw [hop rfl]
        simp only [partsGo, cond_false, Prod.mk.injEq] at h
        exact ⟨[], by rw [← h.1, List.append_nil], rfl⟩
    | cons x r =>
      have hx := hk x List.mem_cons_self
      have hr : ∀ y ∈ r, isByte y := fun y hy => hk y (List.mem_cons_of_mem _ hy)
      have hesc : ∀ z, escI (now ++ [z]) = escI now ++ (if z = 0 then [0, 255] else [z]) := fun z => by
        unfold escI
        rw [List.flatMap_append, List.flatMap_cons, List.flatMap_nil, List.append_nil]
      have hwz : ∀ z, isByte z → ∀ y ∈ now ++ [z], isByte y := fun z hz y hy => by
        rcases List.mem_append.1 hy with hy | hy
        · exact hw y hy
        · rw [List.mem_singleton] at hy; subst hy; exact hz
      rw [partsGo.eq_def] at h
      by_cases h0 : x = 0
      · subst h0
        simp only [ne_eq, not_true_eq_false, if_false] at h
        cases r with
        | nil => simp at h
        | cons y r =>
          simp only at h
          have hr2 : ∀ z ∈ r, isByte z := fun z hz => hr z (List.mem_cons_of_mem _ hz)
          by_cases h255 : y = 255
          · rw [if_pos h255] at h
            obtain ⟨Q, q1, q2⟩ := ih r (now ++ [0]) true out P (by simp only [List.length_cons] at hn; omega) hr2 (hwz 0 ⟨by omega, by omega⟩) (fun e => by cases e) h
            refine ⟨Q, q1, ?_⟩
            rw [← q2, hesc, if_pos rfl, h255]
            simp only [List.append_assoc, List.cons_append, List.nil_append]
          · rw [if_neg h255] at h
            by_cases h1 : y = 1
            · rw [if_pos h1] at h
              obtain ⟨Q, q1, q2⟩ := ih r [] false (out ++ [strB now]) P (by simp only [List.length_cons] at hn; omega) hr2 (fun z hz => by cases hz) (fun _ => rfl) h
              refine ⟨strB now :: Q, by rw [q1]; simp only [List.append_assoc, List.cons_append, List.nil_append], ?_⟩
              have e : keyOf (strB now :: Q) = escI (bytesB (strB now)) ++ [0, 1] ++ keyOf Q := by
                unfold keyOf
                rw [List.flatMap_cons]
              rw [e, bytesB_strB hw, ← q2, h1]
              simp only [escI, List.flatMap_nil, List.append_assoc, List.cons_append, List.nil_append]
            · rw [if_neg h1] at h
              simp at h
      · simp only [ne_eq, h0, not_false_eq_true, if_true] at h
        obtain ⟨Q, q1, q2⟩ := ih r (now ++ [x]) true out P (by simp only [List.length_cons] at hn; omega) hr (hwz x hx) (fun e => by cases e) h
        refine ⟨Q, q1, ?_⟩
        rw [← q2, hesc, if_neg h0]
        simp only [List.append_assoc, List.cons_append, List.nil_append]
theorem sameTexts_refl {k : Nat} {l : List Str} (hk : l.length + 2 ≤ k) (hl : l.length ≤ maxLen) : ref01_SameTexts k l l = some true := by
  obtain ⟨k, rfl⟩ : ∃ q, k = q + 1 := ⟨k - 1, by omega⟩
  simp only [ref01_SameTexts, bne_self_eq_false, cond_false]
  have main : ∀ d i m : Nat, i + d = l.length → d < m → ref01_SameTexts_L1 l l (fun _ => some true) m (i : Int) = some true := by
    intro d
    induction d with
    | zero =>
      intro i m hd hm
      obtain ⟨m, rfl⟩ : ∃ q, m = q + 1 := ⟨m - 1, by omega⟩
      obtain rfl : i = l.length := by omega
      simp only [ref01_SameTexts_L1, show decide ((l.length : Int) < (l.length : Int)) = false by simp, cond_false]
    | succ d ih =>
      intro i m hd hm
      obtain ⟨m, rfl⟩ : ∃ q, m = q + 1 := ⟨m - 1, by omega⟩
      have hi : i < l.length := by omega
      simp only [ref01_SameTexts_L1, show decide ((i : Int) < (l.length : Int)) = true by simp; exact hi, cond_true, idx_at hi, Option.bind_some, beq_self_eq_true, Bool.not_true, cond_false, wrap_next hi hl]
      exact ih (i + 1) m (by omega) (by omega)
  exact main l.length 0 k (by omega) (by omega)
theorem escI_ge : ∀ l : List Int, l.length ≤ (escI l).length
  | [] => Nat.le_refl 0
  | x :: l => by
    have ih := escI_ge l
    unfold escI at ih ⊢
    rw [List.flatMap_cons, List.length_append, List.length_cons]
    split <;> simp only [List.length_cons, List.length_nil] <;> omega
theorem keyOf_cons (s : Str) (l : List Str) : keyOf (s :: l) = escI (bytesB s) ++ [0, 1] ++ keyOf l := by
  unfold keyOf
  rw [List.flatMap_cons]
theorem keyOf_ge : ∀ l : List Str, l.length ≤ (keyOf l).length ∧ ∀ s ∈ l, s.length ≤ (keyOf l).length
  | [] => ⟨Nat.le_refl 0, fun s hs => by cases hs⟩
  | x :: l => by
    obtain ⟨h1, h2⟩ := keyOf_ge l
    have h3 := escI_ge (bytesB x)
    rw [bytesB_len] at h3
    rw [keyOf_cons]
    simp only [List.length_append, List.length_cons, List.length_nil]
    refine ⟨by omega, fun s hs => ?_⟩
    rcases List.mem_cons.1 hs with rfl | hs
    · omega
    · have := h2 s hs; omega
theorem keyOf_le : ∀ l : List Str, (∀ s ∈ l, s.length ≤ 300) → (keyOf l).length ≤ l.length * 602
  | [], _ => Nat.le_refl 0
  | x :: l, h => by
    have h1 := keyOf_le l (fun s hs => h s (List.mem_cons_of_mem _ hs))
    have h2 := escI_len (bytesB x)
    have h3 := h x List.mem_cons_self
    rw [bytesB_len] at h2
    rw [keyOf_cons]
    simp only [List.length_append, List.length_cons, List.length_nil]
    omega
theorem parts_cases : ∀ (n : Nat) (key now : List Int) (op : Bool) (out : List Str), key.length ≤ n → (∃ P, partsGo now op out key = (P, 0)) ∨ partsGo now op out key = ([], 3) := by
  intro n
  induction n with
  | zero =>
    intro key now op out hn
    obtain rfl : key = [] := List.eq_nil_of_length_eq_zero (by omega)
    cases op
    · exact .inl ⟨out, rfl⟩
    · exact .inr rfl
  | succ n ih =>
    intro key now op out hn
    cases key with
    | nil =>
      cases op
      · exact .inl ⟨out, rfl⟩
      · exact .inr rfl
    | cons x r =>
      rw [partsGo.eq_def]
      simp only [List.length_cons] at hn
      by_cases h0 : x = 0
      · subst h0
        simp only [ne_eq, not_true_eq_false, if_false]
        cases r with
        | nil => exact .inr rfl
        | cons y r =>
          simp only [List.length_cons] at hn
          simp only
          by_cases h255 : y = 255
          · rw [if_pos h255]; exact ih _ _ _ _ (by omega)
          · rw [if_neg h255]
            by_cases h1 : y = 1
            · rw [if_pos h1]; exact ih _ _ _ _ (by omega)
            · rw [if_neg h1]; exact .inr rfl
      · simp only [ne_eq, h0, not_false_eq_true, if_true]
        exact ih _ _ _ _ (by omega)
theorem byte_of_wf {x : Int} (h : wfI .u8 x) : isByte x := by
  unfold wfI Lit.wf at h
  have e1 : IntKind.u8.min = 0 := by decide
  have e2 : IntKind.u8.max = 255 := by decide
  simp only [e1, e2, Bool.and_eq_true, decide_eq_true_eq] at h
  exact h
theorem law_law01_OctetKeys (l : List Str) (key : List Int) (hl : wfL wfS l) (hk : wfL (wfI .u8) key) : ∃ k, law01_OctetKeys k l key = some true := by
  obtain ⟨k, hk1⟩ : ∃ k, maxLen + 59 ≤ k := ⟨_, Nat.le_refl _⟩
  have hk2 : 100000000 ≤ k := by have := maxLen_eq; omega
  refine ⟨k + 1, ?_⟩
  have h5 := first01 (k := k) (by omega)
  simp only [law01_OctetKeys, h5, large01_ok (show maxLen + 2 ≤ k by omega) hl.1, Option.bind_some]
  cases h : largeL l with
  | true => rfl
  | false =>
    obtain ⟨l1, l2⟩ := large_bounds h
    cases h2 : decide ((key.length : Int) > 2000) with
    | true => rfl
    | false =>
      have s1 : key.length ≤ 2000 := by rw [decide_eq_false_iff_not] at h2; omega
      have l3 : ∀ s ∈ l, s.length ≤ 5000 := fun s hs => by have := l2 s hs; omega
      have hkl := keyOf_le l l2
      have hkl2 : l.length * 602 ≤ 300 * 602 := Nat.mul_le_mul_right _ l1
      have hp : partsOf (keyOf l) = (l, 0) := parts_key l []
      have hb : ∀ x ∈ key, isByte x := fun x hx => byte_of_wf (hk.2 x hx)
      have hP : ∃ P e, partsOf key = (P, e) ∧ P.length ≤ 2000 ∧ (e = 3 ∨ (e = 0 ∧ (∀ s ∈ P, s.length ≤ 2000) ∧ keyOf P = key)) := by
        rcases parts_cases key.length key [] false [] (Nat.le_refl _) with ⟨P, hP⟩ | hP
        · obtain ⟨Q, q1, q2⟩ := key_parts key.length key [] false [] P (Nat.le_refl _) hb (fun x hx => by cases hx) (fun _ => rfl) hP
          rw [List.nil_append] at q1
          subst q1
          have q3 : keyOf P = key := q2.symm
          obtain ⟨g1, g2⟩ := keyOf_ge P
          rw [q3] at g1 g2
          exact ⟨P, 0, hP, by omega, .inr ⟨rfl, fun s hs => by have := g2 s hs; omega, q3⟩⟩
        · exact ⟨[], 3, hP, Nat.zero_le _, .inl rfl⟩
      obtain ⟨P, e, hP1, hP2, hP3⟩ := hP
      have hsl : l.length ≤ maxLen := hl.1
      simp only [cond_false, octet_Key_ok (show 6000 ≤ k by omega) (show l.length ≤ 5000 by omega) l3, ref01_Key_ok (show 6001 ≤ k by omega) (show l.length ≤ 5000 by omega) l3, octet_Parts_ok (show (keyOf l).length ≤ 10000000 by omega) (show (keyOf l).length + 2 ≤ k by omega), octet_Parts_ok (show key.length ≤ 10000000 by omega) (show key.length + 2 ≤ k by omega), ref01_Parts_ok (show key.length ≤ 10000000 by omega) (show key.length + 2 ≤ k by omega), hp, hP1, Option.bind_some, beq_self_eq_true, bne_self_eq_false, Bool.not_true, sameTexts_refl (show l.length + 2 ≤ k by omega) hsl, sameTexts_refl (show P.length + 2 ≤ k by omega) (show P.length ≤ maxLen by have := maxLen_eq; omega)]
      rcases hP3 with rfl | ⟨rfl, hP4, hP5⟩
      · rfl
      · simp only [bne_self_eq_false, cond_false, octet_Key_ok (show 6000 ≤ k by omega) (show P.length ≤ 5000 by omega) (fun s hs => by have := hP4 s hs; omega), hP5, Option.bind_some, beq_self_eq_true, cond_true]
end Go.Sh

