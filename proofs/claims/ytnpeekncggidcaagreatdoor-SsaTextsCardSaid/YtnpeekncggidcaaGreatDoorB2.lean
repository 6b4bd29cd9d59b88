/- The functions as functions on lists, and what they come to: no program in sight. Conditions: those that each theorem names. -/
import Derived.Test.YtnpeekncggidcaaGreatDoorB1
namespace Go.Sh
open Go.AE
set_option linter.unusedVariables false
set_option linter.unusedSimpArgs false
def U8 (a : Nat) (c : UInt8) : Nat := if a = 0 ∧ c = 68 then 1 else if a ≤ 1 ∧ c = 76 then 2 else if a ≤ 2 ∧ c = 80 then 3 else 0
def D3 : Nat → Str → Bool
 | _, [] => true
 | a, c :: r => bif Nat.beq (U8 a c) 0 then false else D3 (U8 a c) r
theorem zJ (a : Nat) (c : UInt8) : U8 a c ≤ 3 := by
 unfold U8
 split
 ·omega
 ·split
  ·omega
  ·split <;> omega
theorem fD (a : Nat) (c : UInt8) : (U8 a c = 1 ∧ a = 0 ∧ c = 68) ∨ (U8 a c = 2 ∧ a ≤ 1 ∧ c = 76) ∨ (U8 a c = 3 ∧ a ≤ 2 ∧ c = 80) ∨ (U8 a c = 0 ∧ ¬ (a = 0 ∧ c = 68) ∧ ¬ (a ≤ 1 ∧ c = 76) ∧ ¬ (a ≤ 2 ∧ c = 80)) := by
 unfold U8
 by_cases h1 : a = 0 ∧ c = 68
 ·rw [if_pos h1]; exact .inl ⟨rfl, h1⟩
 ·rw [if_neg h1]
  by_cases h2 : a ≤ 1 ∧ c = 76
  ·rw [if_pos h2]; exact .inr (.inl ⟨rfl, h2⟩)
  ·rw [if_neg h2]
   by_cases h3 : a ≤ 2 ∧ c = 80
   ·rw [if_pos h3]; exact .inr (.inr (.inl ⟨rfl, h3⟩))
   ·rw [if_neg h3]; exact .inr (.inr (.inr ⟨rfl, h1, h2, h3⟩))
theorem Z1 {b c : UInt8} {l : Str} (h : c ≠ b) : gL (b :: l) c = if gL l c == -1 then -1 else gL l c + 1 := by
 rw [gL, if_neg]
 rw [beq_iff_eq]
 exact fun e => h e.symm
theorem sa {a : Nat} (ha : a ≤ 3) (c : UInt8) : ∃ l, cut ([68, 76, 80] : Str) (a : Int) 3 = some l ∧ gL l c = (if U8 a c = 0 then -1 else ((U8 a c : Int) - 1 - (a : Int))) := by
 have hn : gL [] c = -1 := rfl
 rcases (show a = 0 ∨ a = 1 ∨ a = 2 ∨ a = 3 by omega) with rfl | rfl | rfl | rfl
 ·refine ⟨[68, 76, 80], rfl, ?_⟩
  by_cases h1 : c = 68
  ·subst h1; rfl
  by_cases h2 : c = 76
  ·subst h2; rfl
  by_cases h3 : c = 80
  ·subst h3; rfl
  rw [Z1 h1, Z1 h2, Z1 h3, hn]
  simp [U8, h1, h2, h3]
 ·refine ⟨[76, 80], rfl, ?_⟩
  by_cases h2 : c = 76
  ·subst h2; rfl
  by_cases h3 : c = 80
  ·subst h3; rfl
  rw [Z1 h2, Z1 h3, hn]
  simp [U8, h2, h3]
 ·refine ⟨[80], rfl, ?_⟩
  by_cases h3 : c = 80
  ·subst h3; rfl
  rw [Z1 h3, hn]
  simp [U8, h3]
 ·refine ⟨[], rfl, ?_⟩
  rw [hn]
  simp [U8]
theorem fm {k : Nat} {s : Str} (hk : 1 ≤ k) (hs : s.length ≤ maxLen) : ∀ (d i a m : Nat), a ≤ 3 → i + d = s.length → d < m → J4 k s (fun _ _ => some true) m (a : Int) (i : Int) = some (D3 a (s.drop i))
 | 0, i, a, m, ha, hd, hm => by
  obtain ⟨m, rfl⟩ : ∃ q, m = q + 1 := ⟨m - 1, by omega⟩
  obtain rfl : i = s.length := by omega
  simp only [J4, show decide ((s.length : Int) < (s.length : Int)) = false by simp, cond_false, List.drop_length, D3]
 | d + 1, i, a, m, ha, hd, hm => by
  obtain ⟨m, rfl⟩ : ∃ q, m = q + 1 := ⟨m - 1, by omega⟩
  have hi : i < s.length := by omega
  obtain ⟨l, hl, hx⟩ := sa ha s[i]
  obtain ⟨k, rfl, _⟩ := i9 (c := 0) hk
  have e3 : ((([68, 76, 80] : Str).length : Nat) : Int) = 3 := rfl
  have e4 : ∀ l, strings_IndexByte (k + 1) l ((s[i].toNat : Nat) : Int) = some (gL l s[i]) := fun l => by
   show some (gL l (((s[i].toNat : Nat) : Int).toNat.toUInt8)) = _
   rw [Int.toNat_natCast, Nat.toUInt8_eq, UInt8.ofNat_toNat]
  simp only [J4, show decide ((i : Int) < (s.length : Int)) = true by simp; exact hi, cond_true, e3, hl, lk hi, e4, Option.bind_some, hx, m8 hi hs]
  rw [List.drop_eq_getElem_cons hi, D3]
  have hle := zJ a s[i]
  rcases fD a s[i] with ⟨h1, h2, _⟩ | ⟨h1, h2, _⟩ | ⟨h1, h2, _⟩ | ⟨h1, h2⟩ <;> rw [h1]
  ·subst h2
   exact fm (k := k + 1) hk hs d (i + 1) 1 m (by omega) (by omega) (by omega)
  ·rw [if_neg (by decide), decide_eq_false (by omega)]
   simp only [cond_false]
   rw [W7 (x := ((2 : Nat) : Int) - 1 - (a : Int) + 1) (by omega) (by omega), W7 (by omega) (by omega), show (a : Int) + (((2 : Nat) : Int) - 1 - (a : Int) + 1) = ((2 : Nat) : Int) by omega]
   exact fm (k := k + 1) hk hs d (i + 1) 2 m (by omega) (by omega) (by omega)
  ·rw [if_neg (by decide), decide_eq_false (by omega)]
   simp only [cond_false]
   rw [W7 (x := ((3 : Nat) : Int) - 1 - (a : Int) + 1) (by omega) (by omega), W7 (by omega) (by omega), show (a : Int) + (((3 : Nat) : Int) - 1 - (a : Int) + 1) = ((3 : Nat) : Int) by omega]
   exact fm (k := k + 1) hk hs d (i + 1) 3 m (by omega) (by omega) (by omega)
  ·rfl
theorem dH {k : Nat} {s : Str} (hk : maxLen + 3 ≤ k) (hs : s.length ≤ maxLen) : dX k s = some (D3 0 s) := by
 obtain ⟨k, rfl, hq⟩ := i9 (c := maxLen + 2) hk
 exact fm (k := k) (by omega) hs s.length 0 0 k (by omega) (by omega) (by omega)
theorem Ba (v : UInt8) (c : UInt8) : (((v.toNat : Nat) : Int) != ((c.toNat : Nat) : Int)) = !(c == v) := by
 by_cases h : c = v
 ·subst h; simp
 ·have h1 : v.toNat ≠ c.toNat := fun e => h (UInt8.toNat_inj.1 e.symm)
  have h2 : ((v.toNat : Nat) : Int) ≠ ((c.toNat : Nat) : Int) := by omega
  rw [bne_iff_ne.2 h2, beq_eq_false_iff_ne.2 h]; rfl
theorem pg {s : Str} {i : Nat} {K : Int → Option Bool} (hi : i < s.length) : ∀ (d a m : Nat), a + d = 3 → d < m → L7 s (i : Int) K m (a : Int) = K (if U8 a s[i] = 0 then 3 else (U8 a s[i] : Int) - 1)
 | 0, a, m, hd, hm => by
  obtain ⟨m, rfl⟩ : ∃ q, m = q + 1 := ⟨m - 1, by omega⟩
  obtain rfl : a = 3 := by omega
  have : U8 3 s[i] = 0 := by unfold U8; simp
  rw [this]
  rfl
 | d + 1, a, m, hd, hm => by
  obtain ⟨m, rfl⟩ : ∃ q, m = q + 1 := ⟨m - 1, by omega⟩
  have ih := pg (K := K) hi d (a + 1) m (by omega) (by omega)
  have hL : ∃ v : UInt8, J5 ([68, 76, 80] : Str) (a : Int) = some ((v.toNat : Nat) : Int) ∧ (s[i] = v → U8 a s[i] = a + 1) ∧ (s[i] ≠ v → U8 a s[i] = U8 (a + 1) s[i]) := by
   rcases (show a = 0 ∨ a = 1 ∨ a = 2 by omega) with rfl | rfl | rfl
   ·refine ⟨68, rfl, fun h => by rw [h]; rfl, fun h => ?_⟩
    unfold U8
    simp [h]
   ·refine ⟨76, rfl, fun h => by rw [h]; rfl, fun h => ?_⟩
    unfold U8
    simp [h]
   ·refine ⟨80, rfl, fun h => by rw [h]; rfl, fun h => ?_⟩
    unfold U8
    simp [h]
  obtain ⟨v, hv, h1, h2⟩ := hL
  simp only [L7, decide_eq_true (show (a : Int) < 3 by omega), cond_true, hv, lk hi, Option.bind_some, Ba]
  by_cases h : s[i] = v
  ·rw [beq_iff_eq.2 h, h1 h]
   simp only [Bool.not_true, cond_false]
   rw [if_neg (by omega)]
   congr 1
   omega
  ·rw [beq_eq_false_iff_ne.2 h, h2 h]
   simp only [Bool.not_false, cond_true]
   rw [W7 (by omega) (by omega), show (a : Int) + 1 = ((a + 1 : Nat) : Int) by omega]
   exact ih
theorem gN {k : Nat} {s : Str} (hk : 4 ≤ k) (hs : s.length ≤ maxLen) : ∀ (d i a m : Nat), a ≤ 3 → i + d = s.length → d < m → H4 k s (fun _ _ => some true) m (a : Int) (i : Int) = some (D3 a (s.drop i))
 | 0, i, a, m, ha, hd, hm => by
  obtain ⟨m, rfl⟩ : ∃ q, m = q + 1 := ⟨m - 1, by omega⟩
  obtain rfl : i = s.length := by omega
  simp only [H4, show decide ((s.length : Int) < (s.length : Int)) = false by simp, cond_false, List.drop_length, D3]
 | d + 1, i, a, m, ha, hd, hm => by
  obtain ⟨m, rfl⟩ : ∃ q, m = q + 1 := ⟨m - 1, by omega⟩
  have hi : i < s.length := by omega
  simp only [H4, show decide ((i : Int) < (s.length : Int)) = true by simp; exact hi, cond_true, m8 hi hs]
  rw [pg hi (3 - a) a k (by omega) (by omega), List.drop_eq_getElem_cons hi, D3]
  rcases fD a s[i] with ⟨h1, _⟩ | ⟨h1, _⟩ | ⟨h1, _⟩ | ⟨h1, _⟩ <;> rw [h1]
  ·exact gN hk hs d (i + 1) 1 m (by omega) (by omega) (by omega)
  ·exact gN hk hs d (i + 1) 2 m (by omega) (by omega) (by omega)
  ·exact gN hk hs d (i + 1) 3 m (by omega) (by omega) (by omega)
  ·rfl
theorem S9 {k : Nat} {s : Str} (hk : maxLen + 5 ≤ k) (hs : s.length ≤ maxLen) : au k s = some (D3 0 s) := by
 obtain ⟨k, rfl, hq⟩ := i9 (c := maxLen + 4) hk
 exact gN (k := k) (by omega) hs s.length 0 0 k (by omega) (by omega) (by omega)
def N8 (b : a8) (t : Int) (c : y4) : Bool × Int := bif s6 b [t] != 0 then (false, s6 b [t]) else match idx b.fTypes t with | some x => (B5 x c, 0) | none => (false, 0)
theorem vq {k : Nat} {b : a8} {t : Int} {c : y4} (hk : maxLen + 16 ≤ k) (hw : d8 b) (hc : wfL (wfL o0) c) : aR k b t c = some (N8 b t c) := by
 obtain ⟨k, rfl, hq⟩ := i9 (c := maxLen + 15) hk
 simp only [aR, N8, M6 (show maxLen + 13 ≤ k by omega) hw, Option.bind_some]
 by_cases h : s6 b [t] = 0
 ·obtain ⟨x, hx, hwx, _⟩ := aI hw h
  simp only [h, hx, bne_self_eq_false, cond_false, M7 (show maxLen + 13 ≤ k by omega) hwx.2.2.2.2.1.1 hc, Option.bind_some]
 ·have : (s6 b [t] != 0) = true := by simpa using h
  simp only [this, cond_true]
theorem tP {k : Nat} {b : a8} {t : Int} {c : y4} (hk : maxLen + 16 ≤ k) (hw : d8 b) (hc : wfL (wfL o0) c) : aV k b t c = some (N8 b t c) := by
 obtain ⟨k, rfl, hq⟩ := i9 (c := maxLen + 15) hk
 simp only [aV, N8, V1 (show maxLen + 10 ≤ k by omega) hw, Option.bind_some]
 by_cases h : s6 b [t] = 0
 ·obtain ⟨x, hx, hwx, _⟩ := aI hw h
  simp only [h, hx, bne_self_eq_false, cond_false, w7 (show maxLen + 13 ≤ k by omega) hw hc h hx, Option.bind_some]
 ·have : (s6 b [t] != 0) = true := by simpa using h
  simp only [this, cond_true]
def sAJ : Str := [65, 74]
def sAC : Str := [65, 67]
def sAK : Str := [65, 75]
def sOK : Str := [32, 32]
def O0 (b : a8) (a : b7) : Int := (r9 b a.fSegment).1
def D8 (b : a8) (above : Int) (a : b7) : Str × Int :=
 bif !D3 0 a.fCodes then (sAJ, 0) else bif (r9 b a.fSegment).2 != 0 then (sAC, 0) else
  bif decide (above ≥ 0) && !(Y7 b above (O0 b a)).1 then (sAC, 0) else bif !(N8 b (O0 b a) a.fWhen).1 then (sAK, 0) else (sOK, O0 b a)
theorem fV {k : Nat} {b : a8} {above : Int} {a : b7} (hk : maxLen + 17 ≤ k) (hw : d8 b) (ha : t6 a) : fi k b above a = some (D8 b above a) := by
 obtain ⟨k, rfl, hq⟩ := i9 (c := maxLen + 16) hk
 have hc : a.fCodes.length ≤ maxLen := ha.2.1
 simp only [fi, D8, dH (show maxLen + 3 ≤ k by omega) hc, jM (show maxLen + 11 ≤ k by omega) hw, mu (show maxLen + 11 ≤ k by omega) hw, vq hq hw ha.2.2.1, Option.bind_some, O0]
 cases D3 0 a.fCodes with
 | false => rfl
 | true =>
  cases (r9 b a.fSegment).2 != 0 with
  | true => rfl
  | false =>
   cases decide (above ≥ 0) with
   | false => cases (N8 b (r9 b a.fSegment).1 a.fWhen).1 <;> rfl
   | true => cases (Y7 b above (r9 b a.fSegment).1).1 <;> cases (N8 b (r9 b a.fSegment).1 a.fWhen).1 <;> rfl
theorem sK {b : a8} {a t : Int} (h : ((Y7 b a t).2 != 0) = true) : (Y7 b a t).1 = false := by
 unfold Y7 at h ⊢
 cases h1 : s6 b [a, t] != 0 with
 | true => rfl
 | false => rw [h1] at h; simp at h
theorem tO {b : a8} {t : Int} {c : y4} (h : ((N8 b t c).2 != 0) = true) : (N8 b t c).1 = false := by
 unfold N8 at h ⊢
 cases h1 : s6 b [t] != 0 with
 | true => rfl
 | false =>
  rw [h1] at h
  cases h2 : idx b.fTypes t with
  | none => rfl
  | some x => rw [h2] at h; simp at h
theorem dz {k : Nat} {b : a8} {above : Int} {a : b7} (hk : maxLen + 17 ≤ k) (hw : d8 b) (ha : t6 a) : ae k b above a = some (D8 b above a).1 := by
 obtain ⟨k, rfl, hq⟩ := i9 (c := maxLen + 16) hk
 have hc : a.fCodes.length ≤ maxLen := ha.2.1
 simp only [ae, D8, S9 (show maxLen + 5 ≤ k by omega) hc, dq (show maxLen + 11 ≤ k by omega) hw, kz (show maxLen + 11 ≤ k by omega) hw, tP hq hw ha.2.2.1, Option.bind_some, O0]
 have v1 := @tO b (r9 b a.fSegment).1 a.fWhen
 have v2 := @sK b above (r9 b a.fSegment).1
 cases D3 0 a.fCodes with
 | false => rfl
 | true =>
  cases (r9 b a.fSegment).2 != 0 with
  | true => rfl
  | false =>
   generalize (N8 b (r9 b a.fSegment).1 a.fWhen).1 = p at v1
   generalize ((N8 b (r9 b a.fSegment).1 a.fWhen).2 != 0) = q at v1
   generalize (Y7 b above (r9 b a.fSegment).1).1 = p2 at v2
   generalize ((Y7 b above (r9 b a.fSegment).1).2 != 0) = q2 at v2
   cases decide (above ≥ 0) <;> cases q <;> cases p <;> cases q2 <;> cases p2 <;> first | rfl | (exact absurd (v1 rfl) (by decide)) | (exact absurd (v2 rfl) (by decide))
theorem jm {b : a8} {above : Int} {a : b7} (h : ((D8 b above a).1 == sOK) = true) : (D8 b above a).2 = O0 b a := by
 unfold D8 at h ⊢
 revert h
 cases !D3 0 a.fCodes <;> cases (r9 b a.fSegment).2 != 0 <;> cases decide (above ≥ 0) && !(Y7 b above (O0 b a)).1 <;> cases !(N8 b (O0 b a) a.fWhen).1 <;> intro h <;> first | rfl | (exact Bool.noConfusion (show false = true from h))
def Y9 (b : a8) : Int → List Int → List b7 → Str × List Int
 | _, ts, [] => (sOK, ts)
 | above, ts, a :: r => bif !((D8 b above a).1 == sOK) then ((D8 b above a).1, []) else Y9 b (D8 b above a).2 (ts ++ [(D8 b above a).2]) r
def aB (b : a8) (l : List b7) : Str × List Int := bif decide ((l.length : Int) > 5) then (sAJ, []) else Y9 b (-1) [] l
theorem jL (b : a8) : ∀ (l : List b7) (above : Int) (ts : List Int), ((Y9 b above ts l).1 == sOK) = true → (Y9 b above ts l).2 = ts ++ l.map (O0 b)
 | [], above, ts, h => by simp [Y9]
 | a :: l, above, ts, h => by
  rw [Y9] at h ⊢
  cases hs : (D8 b above a).1 == sOK with
  | false => rw [hs] at h; simp only [Bool.not_false, cond_true] at h; rw [hs] at h; cases h
  | true =>
   rw [hs] at h
   simp only [Bool.not_true, cond_false] at h ⊢
   rw [jL b l _ _ h, jm hs]
   simp
theorem aF {k : Nat} {b : a8} {l : List b7} (hk : maxLen + 17 ≤ k) (hw : d8 b) (hl : ∀ a ∈ l, t6 a) (hn : l.length ≤ 5) : ∀ (d i m : Nat) (above : Int) (ts : List Int), i + d = l.length → d < m → ts.length ≤ i →
  U3 k b l (fun _ y17 _ => some (([32, 32] : Str), y17)) m above ts (i : Int) = some (Y9 b above ts (l.drop i))
 | 0, i, m, above, ts, hd, hm, ht => by
  obtain ⟨m, rfl⟩ : ∃ q, m = q + 1 := ⟨m - 1, by omega⟩
  obtain rfl : i = l.length := by omega
  simp only [U3, show decide ((l.length : Int) < (l.length : Int)) = false by simp, cond_false, List.drop_length, Y9, sOK]
 | d + 1, i, m, above, ts, hd, hm, ht => by
  obtain ⟨m, rfl⟩ : ∃ q, m = q + 1 := ⟨m - 1, by omega⟩
  have hi : i < l.length := by omega
  simp only [U3, show decide ((i : Int) < (l.length : Int)) = true by simp; exact hi, cond_true, p6 hi, Option.bind_some, fV hk hw (hl _ (List.getElem_mem hi)), m8 hi (show l.length ≤ maxLen by rw [m0]; omega)]
  rw [List.drop_eq_getElem_cons hi, Y9]
  show (bif !((D8 b above l[i]).1 == sOK) then _ else _) = _
  cases (D8 b above l[i]).1 == sOK with
  | false => rfl
  | true =>
   simp only [Bool.not_true, cond_false]
   rw [bH (by simp only [List.length_cons, List.length_nil, l4]; omega), Option.bind_some]
   exact aF hk hw hl hn d (i + 1) m _ _ (by omega) (by omega) (by simp; omega)
theorem hI {k : Nat} {b : a8} {l : List b7} (hk : maxLen + 18 ≤ k) (hw : d8 b) (hl : ∀ a ∈ l, t6 a) : gt k b l = some (aB b l) := by
 obtain ⟨k, rfl, hq⟩ := i9 (c := maxLen + 17) hk
 simp only [gt, aB]
 by_cases h : (l.length : Int) > 5
 ·rw [decide_eq_true h]; rfl
 ·rw [decide_eq_false h]
  exact aF hq hw hl (by omega) l.length 0 k (-1) [] (by omega) (by omega) (by simp)
def chk (b : a8) (l : List b7) : Str × Int := bif !valid b then ([], 100) else ((aB b l).1, 0)
def cr (b : a8) (l : List b7) : List Int × Int := bif !valid b then ([], 100) else bif !((aB b l).1 == sOK) then ([], 2) else ((aB b l).2, 0)
theorem bD {k : Nat} {b : a8} {l : List b7} (hk : maxLen + 19 ≤ k) (hw : d8 b) (hl : ∀ a ∈ l, t6 a) : cg k b l = some (cr b l) := by
 obtain ⟨k, rfl, hq⟩ := i9 (c := maxLen + 18) hk
 simp only [cg, cr, my (show maxLen + 9 ≤ k by omega) hw, hI hq hw hl, Option.bind_some]
 cases valid b with
 | false => rfl
 | true =>
  show (bif !((aB b l).1 == sOK) then _ else _) = _
  cases (aB b l).1 == sOK <;> rfl
theorem W5 {k : Nat} {b : a8} {l : List b7} (hk : maxLen + 17 ≤ k) (hw : d8 b) (hl : ∀ a ∈ l, t6 a) (hn : l.length ≤ 5) : ∀ (d i m : Nat) (above : Int) (ts : List Int), i + d = l.length → d < m →
  N3 k b l (fun _ _ => some (([32, 32] : Str), 0)) m above (i : Int) = some ((Y9 b above ts (l.drop i)).1, 0)
 | 0, i, m, above, ts, hd, hm => by
  obtain ⟨m, rfl⟩ : ∃ q, m = q + 1 := ⟨m - 1, by omega⟩
  obtain rfl : i = l.length := by omega
  simp only [N3, show decide ((l.length : Int) < (l.length : Int)) = false by simp, cond_false, List.drop_length, Y9, sOK]
 | d + 1, i, m, above, ts, hd, hm => by
  obtain ⟨m, rfl⟩ : ∃ q, m = q + 1 := ⟨m - 1, by omega⟩
  have hi : i < l.length := by omega
  simp only [N3, show decide ((i : Int) < (l.length : Int)) = true by simp; exact hi, cond_true, p6 hi, Option.bind_some, dz hk hw (hl _ (List.getElem_mem hi)), dq (show maxLen + 11 ≤ k by omega) hw, m8 hi (show l.length ≤ maxLen by rw [m0]; omega)]
  rw [List.drop_eq_getElem_cons hi, Y9]
  show (bif !((D8 b above l[i]).1 == sOK) then _ else _) = _
  cases hs : (D8 b above l[i]).1 == sOK with
  | false => rfl
  | true =>
   simp only [Bool.not_true, cond_false]
   rw [jm hs]
   exact W5 hk hw hl hn d (i + 1) m _ _ (by omega) (by omega)
theorem eT {k : Nat} {b : a8} {l : List b7} (hk : maxLen + 19 ≤ k) (hw : d8 b) (hl : ∀ a ∈ l, t6 a) : cP k b l = some (chk b l) := by
 obtain ⟨k, rfl, hq⟩ := i9 (c := maxLen + 18) hk
 simp only [cP, chk, aB, fG (show maxLen + 9 ≤ k by omega) hw, Option.bind_some]
 cases valid b with
 | false => rfl
 | true =>
  simp only [Bool.not_true, cond_false]
  by_cases h : (l.length : Int) > 5
  ·rw [decide_eq_true h]; rfl
  ·rw [decide_eq_false h]
   exact W5 (show maxLen + 17 ≤ k by omega) hw hl (by omega) l.length 0 k (-1) [] (by omega) (by omega)
theorem W6 {k : Nat} {b : a8} {l : List b7} (hk : maxLen + 11 ≤ k) (hw : d8 b) (hn : l.length ≤ 5) : ∀ (d i m : Nat) (ts : List Int), i + d = l.length → d < m → ts.length ≤ i →
  N4 k b l (fun y30 _ => some (y30, 0)) m ts (i : Int) = some (ts ++ (l.drop i).map (O0 b), 0)
 | 0, i, m, ts, hd, hm, ht => by
  obtain ⟨m, rfl⟩ : ∃ q, m = q + 1 := ⟨m - 1, by omega⟩
  obtain rfl : i = l.length := by omega
  simp only [N4, show decide ((l.length : Int) < (l.length : Int)) = false by simp, cond_false, List.drop_length, List.map_nil, List.append_nil]
 | d + 1, i, m, ts, hd, hm, ht => by
  obtain ⟨m, rfl⟩ : ∃ q, m = q + 1 := ⟨m - 1, by omega⟩
  have hi : i < l.length := by omega
  simp only [N4, show decide ((i : Int) < (l.length : Int)) = true by simp; exact hi, cond_true, p6 hi, Option.bind_some, dq hk hw, m8 hi (show l.length ≤ maxLen by rw [m0]; omega)]
  rw [bH (by simp only [List.length_cons, List.length_nil, l4]; omega), Option.bind_some, W6 hk hw hn d (i + 1) m _ (by omega) (by omega) (by simp; omega), List.drop_eq_getElem_cons hi, List.map_cons, List.append_assoc]
  rfl
theorem eV {k : Nat} {b : a8} {l : List b7} (hk : maxLen + 20 ≤ k) (hw : d8 b) (hl : ∀ a ∈ l, t6 a) : cS k b l = some (cr b l) := by
 obtain ⟨k, rfl, hq⟩ := i9 (c := maxLen + 19) hk
 simp only [cS, eT hq hw hl, Option.bind_some, chk, cr]
 cases valid b with
 | false => rfl
 | true =>
  simp only [Bool.not_true, cond_false, beq_self_eq_true, cond_true, bne_self_eq_false, Option.bind_some]
  show (bif !((aB b l).1 == sOK) then _ else _) = _
  cases hs : (aB b l).1 == sOK with
  | false => rfl
  | true =>
   simp only [Bool.not_true, cond_false]
   unfold aB at hs ⊢
   by_cases h : (l.length : Int) > 5
   ·rw [decide_eq_true h] at hs; exact Bool.noConfusion (show false = true from hs)
   ·rw [decide_eq_false h] at hs ⊢
    simp only [cond_false] at hs ⊢
    rw [jL b l _ _ hs]
    exact W6 (show maxLen + 11 ≤ k by omega) hw (by omega) l.length 0 k [] (by omega) (by omega) (by simp)
theorem se {k : Nat} {l : List b7} (hk : maxLen + 4 ≤ k) (hl : wfL t6 l) : ∃ r, eG k l = some r := by
 obtain ⟨k, rfl, hq⟩ := i9 (c := maxLen + 3) hk
 simp only [eG]
 refine vI (L := fun m x => Q8 k l _ m x) (n := l.length) ?_ ?_ (by have := hl.1; omega)
 ·intro m i hi
  obtain ⟨r, hr⟩ := uQ (k := k) (by omega) (hl.2 _ (List.getElem_mem hi)).2.2.1
  simp only [Q8, p6 hi, Option.bind_some, m8 hi hl.1, show decide ((i : Int) < (l.length : Int)) = true by simp; exact hi, cond_true, hr]
  cases decide (((l[i]).fSegment.length : Int) > 100) <;> cases decide (((l[i]).fCodes.length : Int) > 100) <;> cases r <;> first | exact .inl ⟨_, rfl⟩ | exact .inr rfl
 ·intro m
  simp only [Q8, show decide ((l.length : Int) < (l.length : Int)) = false by simp, cond_false]
  exact ⟨_, rfl⟩
def vP : b8 := { fName := [67, 85, 83, 84], fParent := (-1), fMin := 4, fSize := 10, fFields := [{ fName := [67, 85, 83, 84, 78, 79], fAt := 0, fBytes := 4 }], fKey := 0, fUnique := true, fLast := false }
def pX : b8 := { fName := [79, 82, 68, 69, 82], fParent := 0, fMin := 4, fSize := 8, fFields := [{ fName := [79, 82, 68, 78, 79], fAt := 0, fBytes := 4 }], fKey := 0, fUnique := false, fLast := false }
def aN : a8 := { fName := [83, 72, 79, 80], fKind := 4, fTypes := [vP, pX], fIndexes := [] }
def kQ : b7 := { fSegment := [79, 82, 68, 69, 82], fCodes := [68], fWhen := [[{ fField := [79, 82, 68, 78, 79], fOp := 1, fValue := [48, 48, 48, 53] }]] }
def ua : b7 := { fSegment := [67, 85, 83, 84], fCodes := [], fWhen := [] }
theorem aZ {α : Type} {p : α → Prop} {l : List α} (h : l.length ≤ 1000) (hp : ∀ x ∈ l, p x) : wfL p l := by
 have e63 := m0
 exact ⟨by omega, hp⟩
theorem te {f : i4} (h1 : f.fName.length ≤ 1000) (h2 : -1000 ≤ f.fAt) (h3 : f.fAt ≤ 1000) (h4 : -1000 ≤ f.fBytes) (h5 : f.fBytes ≤ 1000) : bF f := ⟨G3 h1, L8 h2 h3, L8 h4 h5, trivial⟩
theorem Ap : F0 vP := by
 refine ⟨G3 (by decide), L8 (by decide) (by decide), L8 (by decide) (by decide), L8 (by decide) (by decide), aZ (by decide) (fun f hf => ?_), L8 (by decide) (by decide), trivial, trivial, trivial⟩
 obtain rfl : f = { fName := [67, 85, 83, 84, 78, 79], fAt := 0, fBytes := 4 } := by simpa [vP] using hf
 exact te (by decide) (by decide) (by decide) (by decide) (by decide)
theorem Aq : F0 pX := by
 refine ⟨G3 (by decide), L8 (by decide) (by decide), L8 (by decide) (by decide), L8 (by decide) (by decide), aZ (by decide) (fun f hf => ?_), L8 (by decide) (by decide), trivial, trivial, trivial⟩
 obtain rfl : f = { fName := [79, 82, 68, 78, 79], fAt := 0, fBytes := 4 } := by simpa [pX] using hf
 exact te (by decide) (by decide) (by decide) (by decide) (by decide)
theorem nt : d8 aN := by
 refine ⟨G3 (by decide), L8 (by decide) (by decide), aZ (by decide) (fun t ht => ?_), aZ (by decide) (fun x hx => by cases hx), trivial⟩
 rcases (by simpa [aN] using ht : t = vP ∨ t = pX) with rfl | rfl
 ·exact Ap
 ·exact Aq
theorem vw : t6 kQ := by
 refine ⟨G3 (by decide), G3 (by decide), aZ (by decide) (fun g hg => aZ ?_ (fun t ht => ?_)), trivial⟩
 ·obtain rfl : g = [{ fField := [79, 82, 68, 78, 79], fOp := 1, fValue := [48, 48, 48, 53] }] := by simpa [kQ] using hg
  decide
 ·obtain rfl : g = [{ fField := [79, 82, 68, 78, 79], fOp := 1, fValue := [48, 48, 48, 53] }] := by simpa [kQ] using hg
  obtain rfl : t = { fField := [79, 82, 68, 78, 79], fOp := 1, fValue := [48, 48, 48, 53] } := by simpa using ht
  exact ⟨G3 (by decide), L8 (by decide) (by decide), G3 (by decide), trivial⟩
theorem Aw : t6 ua := ⟨G3 (by decide), G3 (by decide), aZ (by decide) (fun g hg => by cases hg), trivial⟩
theorem Gg : cr aN [kQ] = ([1], 0) := by
 have : (cr aN [kQ] == ([1], (0 : Int))) = true := by decide +kernel
 exact eq_of_beq this
theorem Gh : cr aN [ua] = ([0], 0) := by
 have : (cr aN [ua] == ([0], (0 : Int))) = true := by decide +kernel
 exact eq_of_beq this
theorem AD : R7 aN 1 [kQ.fWhen] = (pX, 0) := by
 have : (R7 aN 1 [kQ.fWhen] == (pX, (0 : Int))) = true := by decide +kernel
 exact eq_of_beq this
theorem Ax {k : Nat} (hk : maxLen + 30 ≤ k) : P4 k = some true := by
 have e63 := m0
 obtain ⟨k, rfl⟩ : ∃ q, k = q + 12 := ⟨k - 12, by omega⟩
 have hs : bP (k + 11) = some aN := rfl
 have t1 : cg (k + 10) aN [kQ] = some ([1], 0) := by
  rw [bD (by omega) nt (fun a ha => by rw [show a = kQ by simpa using ha]; exact vw), Gg]
 have t2 : cg (k + 10) aN [ua] = some ([0], 0) := by
  rw [bD (by omega) nt (fun a ha => by rw [show a = ua by simpa using ha]; exact Aw), Gh]
 have hc : L4 (k + 9) aN 1 [kQ.fWhen] = some (pX, 0) := by
  rw [R8 (by omega) nt (by simp) (fun c hc => by rw [show c = kQ.fWhen by simpa using hc]; exact vw.2.2.1), AD]
 have hm : F7 (k + 10) aN 1 kQ.fWhen = some ([79, 82, 68, 78, 79, 32, 32, 32, 61, 32, 48, 48, 48, 53], 0) := by
  simp only [F7, hc, Option.bind_some]
  rfl
 have f1 : z8 (k + 11) aN kQ = some ([79, 82, 68, 69, 82, 32, 32, 32, 42, 68, 40, 79, 82, 68, 78, 79, 32, 32, 32, 61, 32, 48, 48, 48, 53, 41], 0) := by
  simp only [z8, t1, Option.bind_some]
  have e : idx ([1] : List Int) 0 = some 1 := rfl
  simp only [e, Option.bind_some, hm]
  rfl
 have f2 : z8 (k + 11) aN ua = some ([67, 85, 83, 84, 32, 32, 32, 32, 32], 0) := by
  simp only [z8, t2, Option.bind_some]
  rfl
 unfold kQ at f1
 unfold ua at f2
 simp only [P4, hs, f1, f2, Option.bind_some]
 rfl
end Go.Sh

namespace Go.Sh
open Go.AE
set_option linter.unusedVariables false
set_option linter.unusedSimpArgs false
theorem rD {α : Type} {p : α → Prop} {a : α} (h : p a) : ∀ x ∈ [a], p x := fun x hx => by
 rw [List.mem_singleton] at hx
 rw [hx]; exact h
theorem rv {t : b8} (ht : A2 t = true) : D5 t.fName = true := by
 unfold A2 at ht
 simp only [Bool.and_eq_true, Bool.not_eq_true', Bool.or_eq_false_iff, Bool.not_eq_false'] at ht
 exact ht.1.1
theorem tx {s : Str} (h : D5 s = true) : 1 ≤ s.length ∧ s.length ≤ 8 := by
 unfold D5 at h
 simp only [Bool.and_eq_true, decide_eq_true_eq] at h
 omega
theorem bJ : ∀ (s : Str) (a : Nat), D3 a s = true → s.length ≤ 3 - a
 | [], a, _ => by simp
 | c :: r, a, h => by
  rw [D3] at h
  rcases fD a c with ⟨h1, h2, _⟩ | ⟨h1, h2, _⟩ | ⟨h1, h2, _⟩ | ⟨h1, _⟩ <;> rw [h1] at h
  ·have := bJ r 1 h; simp; omega
  ·have := bJ r 2 h; simp; omega
  ·have := bJ r 3 h; simp; omega
  ·cases h
theorem sF {b : a8} {above : Int} {a : b7} (hw : d8 b) (hv : valid b = true) (h : ((D8 b above a).1 == sOK) = true) :
  D3 0 a.fCodes = true ∧ (r9 b a.fSegment).2 = 0 ∧ (∃ x, idx b.fTypes (O0 b a) = some x ∧ A2 x = true ∧ x.fName = a.fSegment ∧ B5 x a.fWhen = true) ∧ 0 ≤ O0 b a ∧ O0 b a < (b.fTypes.length : Int) ∧ s6 b [O0 b a] = 0 ∧ (N8 b (O0 b a) a.fWhen).1 = true := by
 unfold D8 at h
 cases h1 : D3 0 a.fCodes with
 | false => rw [h1] at h; exact Bool.noConfusion (show false = true from h)
 | true =>
  cases h2 : (r9 b a.fSegment).2 != 0 with
  | true => rw [h1, h2] at h; exact Bool.noConfusion (show false = true from h)
  | false =>
   cases h3 : decide (above ≥ 0) && !(Y7 b above (O0 b a)).1 with
   | true => rw [h1, h2, h3] at h; exact Bool.noConfusion (show false = true from h)
   | false =>
    cases h4 : (N8 b (O0 b a) a.fWhen).1 with
    | false => rw [h1, h2, h3, h4] at h; exact Bool.noConfusion (show false = true from h)
    | true =>
     have e0 : (r9 b a.fSegment).2 = 0 := by simpa using h2
     have ha0 : s6 b [] = 0 := by unfold s6; rw [hv]; rfl
     have et : r9 b a.fSegment = dJ (pos b.fTypes (fun t => t.fName == a.fSegment)) := by
      unfold r9
      rw [ha0]
      rfl
     rcases L6 b.fTypes (fun t => t.fName == a.fSegment) with ⟨_, hp⟩ | ⟨j, hj, hj2, _, hp⟩
     ·rw [et, hp] at e0; exact absurd e0 (by decide)
     ·have ei : O0 b a = (j : Int) := by
       unfold O0
       rw [et, hp]
       unfold dJ
       rw [decide_eq_false (by omega)]
       rfl
      have hx : idx b.fTypes (O0 b a) = some b.fTypes[j] := by rw [ei]; exact p6 hj
      have hasked : s6 b [O0 b a] = 0 := by
       unfold s6
       rw [hv]
       simp only [Bool.not_true, cond_false, List.any_cons, List.any_nil, Bool.or_false, aC, ei, decide_eq_false (show ¬ ((j : Int) < 0) by omega), decide_eq_false (show ¬ ((j : Int) ≥ (b.fTypes.length : Int)) by omega)]
      refine ⟨rfl, e0, ⟨_, hx, ow hv hj, eq_of_beq hj2, ?_⟩, by omega, by omega, hasked, rfl⟩
      unfold N8 at h4
      rw [hasked, hx] at h4
      exact h4
end Go.Sh

namespace Go.Sh
open Go.AE
open Go.Lib (trimRightB)
set_option linter.unusedVariables false
set_option linter.unusedSimpArgs false
def P0 (x : b8) : Nat → Str → List a6 → y4 → Option (y4 × Str)
 | 0, _, _, _ => none
 | n + 1, s, g, out => match W3 x s with
  | none => none
  | some (t, r) => match r with
   | [] => some (out ++ [g ++ [t]], [])
   | c :: r => bif c == 38 then P0 x n r (g ++ [t]) out else bif c == 124 then P0 x n r [] (out ++ [g ++ [t]]) else some (out ++ [g ++ [t]], c :: r)
def ud (x : b8) : Option (y4 × Str) → y4 × Str × Bool
 | none => ([], [], false)
 | some r => (r.1, r.2, B5 x r.1)
theorem mr {k : Nat} {b : a8} {t : Int} {x : b8} (hk : maxLen + 13 ≤ k) (hw : d8 b) (ha : s6 b [t] = 0) (hi : idx b.fTypes t = some x) (hok : A2 x = true) (hx : x.fFields.length ≤ maxLen) :
  ∀ (n m : Nat) (s : Str) (g : List a6) (out : y4), s.length < n → n ≤ m → s.length + g.length + out.length ≤ 1000000 → qJ out → (∀ u ∈ g, Y4 u) → N1 k b t m s g out = some (ud x (P0 x n s g out))
 | 0, m, s, g, out, h, _, _, _, _ => by omega
 | n + 1, m, s, g, out, h, hm, hb, ho, hg => by
  obtain ⟨m, rfl⟩ : ∃ q, m = q + 1 := ⟨m - 1, by omega⟩
  have e63 := m0
  simp only [N1, eQ (show maxLen + 6 ≤ k by omega) hi hok hx (show s.length ≤ maxLen by omega), Option.bind_some]
  unfold P0
  cases hf : W3 x s with
  | none => rfl
  | some q =>
   obtain ⟨u, r⟩ := q
   obtain ⟨_, h2, h3⟩ := gK hok hf
   have hg' := rj hg (bE hok h2)
   have hgl : (g ++ [u]).length ≤ 1000000 := by rw [List.length_append, List.length_singleton]; omega
   have ho' := pa ho hgl hg'
   have hcond : B3 k b t (out ++ [g ++ [u]]) = some (B5 x (out ++ [g ++ [u]])) := w7 hk hw (ov ho' (by rw [List.length_append, List.length_singleton]; omega)) ha hi
   simp only [pS, Bool.not_true, cond_false]
   rw [bH (by simp only [List.length_singleton, l4]; omega)]
   simp only [Option.bind_some]
   cases r with
   | nil =>
    simp only [show (([] : Str) == ([] : Str)) = true by rfl, Bool.not_true, cond_false, cond_true, Option.bind_some]
    rw [bH (by simp only [List.length_singleton, l4]; omega)]
    simp only [Option.bind_some, hcond]
    rfl
   | cons a r =>
    simp only [List.length_cons] at h3
    simp only [show ((a :: r : Str) == ([] : Str)) = false by rfl, Bool.not_false, cond_false, cond_true, ec, Option.bind_some, wV, kY]
    cases h38 : a == 38 with
    | true =>
     simp only [cond_true]
     exact mr hk hw ha hi hok hx n m r (g ++ [u]) out (by omega) (by omega) (by rw [List.length_append, List.length_singleton]; omega) ho hg'
    | false =>
     simp only [cond_false]
     rw [bH (by simp only [List.length_singleton, l4]; omega)]
     simp only [Option.bind_some]
     have hne : ((a.toNat : Int) != 124) = !(a == 124) := by rw [← vz]; rfl
     rw [hne]
     cases h124 : a == 124 with
     | true =>
      simp only [Bool.not_true, cond_false, cond_true]
      exact mr hk hw ha hi hok hx n m r [] (out ++ [g ++ [u]]) (by omega) (by omega) (by simp only [List.length_append, List.length_singleton, List.length_nil]; omega) ho' (by intro q hq; cases hq)
     | false =>
      simp only [Bool.not_false, cond_true, hcond, Option.bind_some, cond_false]
      rfl
theorem ng {k : Nat} {b : a8} {t : Int} {x : b8} {s : Str} (hk : maxLen + 14 ≤ k) (hw : d8 b) (ha : s6 b [t] = 0) (hi : idx b.fTypes t = some x) (hok : A2 x = true) (hx : x.fFields.length ≤ maxLen) (hs : s.length ≤ 100000) : P9 k b t s = some (ud x (P0 x (s.length + 1) s [] [])) := by
 have e63 := m0
 obtain ⟨k, rfl, hq⟩ := i9 (c := maxLen + 13) hk
 unfold P9
 exact mr hq hw ha hi hok hx _ k s [] [] (Nat.lt_succ_self _) (by omega) (by simp; omega) (by intro q hq; cases hq) (by intro q hq; cases hq)
def Fu (e : Str) : Prop := ∀ c r, e = c :: r → (c == 38) = false ∧ (c == 124) = false
theorem rF {x : b8} (hok : A2 x = true) {e : Str} (he : Fu e) : ∀ (cs : y4), (∀ h ∈ cs, h ≠ [] ∧ ∀ u ∈ h, T1 x u = true) → ∀ (ts : List a6) (t : a6) (n : Nat) (g : List a6) (out : y4), (∀ u ∈ t :: ts, T1 x u = true) → (E9 t ++ (N9 ts ++ (T5 cs ++ e))).length < n →
  P0 x n (E9 t ++ (N9 ts ++ (T5 cs ++ e))) g out = some (out ++ [g ++ t :: ts] ++ cs, e) := by
 intro cs
 induction cs with
 | nil =>
  intro _ ts
  induction ts with
  | nil =>
   intro t n g out ht hn
   obtain ⟨n, rfl⟩ : ∃ q, n = q + 1 := ⟨n - 1, by omega⟩
   unfold P0
   rw [X1 _ hok (ht t (by simp))]
   simp only [N9, T5, List.nil_append, List.append_nil]
   cases e with
   | nil => rfl
   | cons c r =>
    obtain ⟨h1, h2⟩ := he c r rfl
    simp only [h1, h2, cond_false]
  | cons u us ih =>
   intro t n g out ht hn
   obtain ⟨n, rfl⟩ : ∃ q, n = q + 1 := ⟨n - 1, by omega⟩
   unfold P0
   rw [X1 _ hok (ht t (by simp))]
   simp only [N9, List.cons_append, List.length_append, List.length_cons, show ((38 : UInt8) == 38) = true by rfl, cond_true] at hn ⊢
   rw [List.append_assoc, ih u n (g ++ [t]) out (fun v hv => ht v (List.mem_cons_of_mem _ hv)) (by simp only [List.length_append]; omega)]
   simp only [List.append_assoc, List.cons_append, List.nil_append]
 | cons h cs ihc =>
  intro hcs ts
  have hh := hcs h (by simp)
  have ihc := ihc (fun q hq => hcs q (by simp [hq]))
  induction ts with
  | nil =>
   intro t n g out ht hn
   obtain ⟨n, rfl⟩ : ∃ q, n = q + 1 := ⟨n - 1, by omega⟩
   unfold P0
   rw [X1 _ hok (ht t (by simp))]
   obtain ⟨v, vs, rfl⟩ : ∃ v vs, h = v :: vs := by
    cases h with
    | nil => exact absurd rfl hh.1
    | cons v vs => exact ⟨v, vs, rfl⟩
   simp only [N9, T5, List.nil_append, D0, List.cons_append, List.length_append, List.length_cons, show ((124 : UInt8) == 38) = false by rfl, show ((124 : UInt8) == 124) = true by rfl, cond_true, cond_false] at hn ⊢
   rw [List.append_assoc, List.append_assoc, ihc vs v n [] (out ++ [g ++ [t]]) hh.2 (by simp only [List.length_append]; omega)]
   simp only [List.append_assoc, List.cons_append, List.nil_append]
  | cons u us ih =>
   intro t n g out ht hn
   obtain ⟨n, rfl⟩ : ∃ q, n = q + 1 := ⟨n - 1, by omega⟩
   unfold P0
   rw [X1 _ hok (ht t (by simp))]
   simp only [N9, List.cons_append, List.length_append, List.length_cons, show ((38 : UInt8) == 38) = true by rfl, cond_true] at hn ⊢
   rw [List.append_assoc, ih u n (g ++ [t]) out (fun v hv => ht v (List.mem_cons_of_mem _ hv)) (by simp only [List.length_append]; omega)]
   simp only [List.append_assoc, List.cons_append, List.nil_append]
theorem jS {x : b8} (hok : A2 x = true) : ∀ (n : Nat) (s : Str) (g : List a6) (out c : y4) (e : Str), P0 x n s g out = some (c, e) → ∃ t ts cs, c = out ++ [g ++ t :: ts] ++ cs ∧ s = D0 (t :: ts) ++ (T5 cs ++ e)
 | 0, s, g, out, c, e, h => by cases h
 | n + 1, s, g, out, c, e, h => by
  unfold P0 at h
  cases hf : W3 x s with
  | none => rw [hf] at h; cases h
  | some q =>
   obtain ⟨t, r⟩ := q
   obtain ⟨h1, _, _⟩ := gK hok hf
   rw [hf] at h
   simp only at h
   cases r with
   | nil =>
    obtain ⟨rfl, rfl⟩ := Prod.mk.inj (Option.some.inj h)
    exact ⟨t, [], [], by simp, by rw [h1]; simp [D0, N9, T5]⟩
   | cons a r =>
    simp only at h
    cases h38 : a == 38 with
    | true =>
     rw [h38, cond_true] at h
     obtain ⟨t', ts, cs, e1, e2⟩ := jS hok n r _ out c e h
     refine ⟨t, t' :: ts, cs, by rw [e1]; simp, ?_⟩
     rw [h1, e2, eq_of_beq h38]
     simp [D0, N9]
    | false =>
     rw [h38, cond_false] at h
     cases h124 : a == 124 with
     | true =>
      rw [h124, cond_true] at h
      obtain ⟨t', ts, cs, e1, e2⟩ := jS hok n r [] _ c e h
      refine ⟨t, [], (t' :: ts) :: cs, by rw [e1]; simp, ?_⟩
      rw [h1, e2, eq_of_beq h124]
      simp [D0, N9, T5]
     | false =>
      rw [h124, cond_false] at h
      obtain ⟨rfl, rfl⟩ := Prod.mk.inj (Option.some.inj h)
      exact ⟨t, [], [], by simp, by rw [h1]; simp [D0, N9, T5]⟩
theorem ub {x : b8} (hok : A2 x = true) {c : y4} {e : Str} (hc : B5 x c = true) (hne : c ≠ []) (he : Fu e) (n : Nat) (hn : (R5 c ++ e).length < n) : P0 x n (R5 c ++ e) [] [] = some (c, e) := by
 have hgs := fM hc
 cases hcc : c with
 | nil => exact absurd hcc hne
 | cons g cs =>
  rw [hcc] at hgs hn
  obtain ⟨v, vs, rfl⟩ : ∃ v vs, g = v :: vs := by
   cases g with
   | nil => exact absurd rfl (hgs [] (by simp)).1
   | cons v vs => exact ⟨v, vs, rfl⟩
  have e1 : R5 ((v :: vs) :: cs) ++ e = E9 v ++ (N9 vs ++ (T5 cs ++ e)) := by simp only [R5, D0, List.append_assoc]
  rw [e1] at hn ⊢
  rw [rF hok he cs (fun q hq => hgs q (by simp [hq])) vs v n [] [] (fun u hu => (hgs (v :: vs) (by simp)).2 u hu) hn]
  simp only [List.nil_append, List.singleton_append]
theorem nQ {x : b8} (hok : A2 x = true) {n : Nat} {s e : Str} {c : y4} (h : P0 x n s [] [] = some (c, e)) : c ≠ [] ∧ s = R5 c ++ e := by
 obtain ⟨t, ts, cs, e1, e2⟩ := jS hok n s [] [] c e h
 simp only [List.nil_append, List.singleton_append] at e1
 subst e1
 exact ⟨by simp, by rw [e2]; simp only [R5, List.append_assoc]⟩
def T7 : Str → Str
 | [] => []
 | c :: r => 42 :: c :: r
def G9 : y4 → Str
 | [] => [32]
 | g :: r => 40 :: (R5 (g :: r) ++ [41])
def V5 (a : b7) : Str := Z5 a.fSegment ++ (T7 a.fCodes ++ G9 a.fWhen)
def bA (b : a8) (a : b7) : Bool := (D8 b (-1) a).1 == sOK
def F4 (b : a8) (a : b7) : Str × Int := bif !valid b then ([], 100) else bif !bA b a then ([], 2) else (V5 a, 0)
theorem gc : ∀ (s : Str) (a : Nat), D3 a s = true → ∀ c ∈ s, c = 68 ∨ c = 76 ∨ c = 80
 | [], a, _, c, hc => by cases hc
 | d :: r, a, h, c, hc => by
  rw [D3] at h
  rcases fD a d with ⟨h1, h2, h3⟩ | ⟨h1, h2, h3⟩ | ⟨h1, h2, h3⟩ | ⟨h1, _⟩ <;> rw [h1] at h
  ·rcases List.mem_cons.1 hc with e | e
   ·exact .inl (e.trans h3)
   ·exact gc r 1 h c e
  ·rcases List.mem_cons.1 hc with e | e
   ·exact .inr (.inl (e.trans h3))
   ·exact gc r 2 h c e
  ·rcases List.mem_cons.1 hc with e | e
   ·exact .inr (.inr (e.trans h3))
   ·exact gc r 3 h c e
  ·cases h
theorem pT {p : UInt8 → Bool} {d : UInt8} {r : Str} (hd : p d = false) : ∀ l : Str, (∀ c ∈ l, p c = true) → (l ++ d :: r).takeWhile p = l ∧ (l ++ d :: r).dropWhile p = d :: r
 | [], _ => by simp [List.takeWhile_cons, List.dropWhile_cons, hd]
 | c :: l, h => by
  obtain ⟨h1, h2⟩ := pT hd l (fun q hq => h q (List.mem_cons_of_mem _ hq))
  have hc := h c (by simp)
  rw [List.cons_append, List.takeWhile_cons, List.dropWhile_cons, if_pos hc, if_pos hc, h1, h2]
  exact ⟨rfl, rfl⟩
theorem kO (w : y4) (r : Str) : ∃ d q, G9 w ++ r = d :: q ∧ (d = 32 ∨ d = 40) := by
 cases w with
 | nil => exact ⟨32, r, rfl, .inl rfl⟩
 | cons g c => exact ⟨40, R5 (g :: c) ++ [41] ++ r, rfl, .inr rfl⟩
theorem kN {b : a8} (hv : valid b = true) (nm : Str) : ((r9 b nm).2 != 0) = true ∨ ∃ j, ∃ hj : j < b.fTypes.length, r9 b nm = ((j : Int), 0) ∧ (b.fTypes[j]).fName = nm ∧ s6 b [(j : Int)] = 0 ∧ A2 b.fTypes[j] = true ∧ idx b.fTypes (j : Int) = some b.fTypes[j] := by
 have ha0 : s6 b [] = 0 := by unfold s6; rw [hv]; rfl
 have et : r9 b nm = dJ (pos b.fTypes (fun t => t.fName == nm)) := by
  unfold r9
  rw [ha0]
  rfl
 rcases L6 b.fTypes (fun t => t.fName == nm) with ⟨_, hp⟩ | ⟨j, hj, hj2, _, hp⟩
 ·left
  rw [et, hp]
  rfl
 ·right
  have ei : r9 b nm = ((j : Int), 0) := by
   rw [et, hp]
   unfold dJ
   rw [decide_eq_false (by omega)]
   rfl
  refine ⟨j, hj, ei, eq_of_beq hj2, ?_, ow hv hj, p6 hj⟩
  unfold s6
  rw [hv]
  simp only [Bool.not_true, cond_false, List.any_cons, List.any_nil, Bool.or_false, aC, decide_eq_false (show ¬ ((j : Int) < 0) by omega), decide_eq_false (show ¬ ((j : Int) ≥ (b.fTypes.length : Int)) by omega)]
theorem tF {b : a8} {a : b7} {j : Int} {x : b8} (h1 : D3 0 a.fCodes = true) (h2 : r9 b a.fSegment = (j, 0)) (h3 : s6 b [j] = 0) (h4 : idx b.fTypes j = some x) (h5 : B5 x a.fWhen = true) : bA b a = true := by
 have e : O0 b a = j := by unfold O0; rw [h2]
 have hv : (N8 b j a.fWhen).1 = true := by unfold N8; rw [h3, h4]; exact h5
 unfold bA D8
 rw [h1, h2, e, hv]
 rfl
structure Gj (b : a8) (a : b7) (j : Int) (x : b8) : Prop where
 codes : D3 0 a.fCodes = true
 ty : r9 b a.fSegment = (j, 0)
 ask : s6 b [j] = 0
 ix : idx b.fTypes j = some x
 ok : A2 x = true
 name : D5 a.fSegment = true ∧ a.fSegment.length ≤ 8
 cond : B5 x a.fWhen = true
theorem cb {b : a8} {a : b7} (hw : d8 b) (hv : valid b = true) (h : bA b a = true) : ∃ j x, Gj b a j x := by
 obtain ⟨h1, h2, ⟨x, hx, hok, hn, hco⟩, h4, h5, h6, h7⟩ := sF hw hv h
 have hnm := rv hok
 have hnl := tx hnm
 rw [hn] at hnm hnl
 exact ⟨O0 b a, x, h1, by unfold O0; rw [← h2], h6, hx, hok, ⟨hnm, hnl.2⟩, hco⟩
def fp (c : UInt8) : Bool := (c == 68) || ((c == 76) || (c == 80))
def F5 (c : UInt8) : Str → Bool
 | [] => false
 | d :: _ => d == c
def fh (r : Str) : Str × Str := bif F5 42 r then ((r.drop 1).takeWhile fp, (r.drop 1).dropWhile fp) else ([], r)
def zH (r : Str) : Str := (r.take (r.length - 1)).drop 1
def nO (b : a8) (t : Int) (r : Str) : y4 × Int := bif decide ((r.length : Int) > 2) && (F5 40 r && F5 41 r.reverse) then aD b t (zH r) else ([], 0)
def P7 (s : Str) : Str := trimRightB (s.take 8) 32
def fZ (b : a8) (s : Str) : b7 := { fSegment := P7 s, fCodes := (fh (s.drop 8)).1, fWhen := (nO b (r9 b (P7 s)).1 (fh (s.drop 8)).2).1 }
def okP (b : a8) (s : Str) : Bool := decide (8 < s.length) && ((r9 b (P7 s)).2 == 0 && ((nO b (r9 b (P7 s)).1 (fh (s.drop 8)).2).2 == 0 && ((F4 b (fZ b s)).2 == 0 && ((F4 b (fZ b s)).1 == s))))
theorem vk (codes : Str) (w : y4) (h : D3 0 codes = true) : fh (T7 codes ++ G9 w) = (codes, G9 w) := by
 obtain ⟨d, q, e, hd⟩ := kO w []
 rw [List.append_nil] at e
 have hp : fp d = false := by rcases hd with rfl | rfl <;> rfl
 cases codes with
 | nil =>
  show fh (G9 w) = _
  unfold fh
  rw [e]
  have : F5 42 (d :: q) = false := by rcases hd with rfl | rfl <;> rfl
  rw [this]
  rfl
 | cons c r =>
  have ha : ∀ u ∈ c :: r, fp u = true := fun u hu => by
   rcases gc _ _ h u hu with rfl | rfl | rfl <;> rfl
  obtain ⟨h1, h2⟩ := pT (r := q) hp (c :: r) ha
  show (((c :: r) ++ G9 w).takeWhile fp, ((c :: r) ++ G9 w).dropWhile fp) = _
  rw [e, h1, h2]
theorem pU {a : b7} (h : D5 a.fSegment = true ∧ a.fSegment.length ≤ 8) (r : Str) : (V5 a ++ r).take 8 = Z5 a.fSegment ∧ P7 (V5 a ++ r) = a.fSegment ∧ (V5 a ++ r).drop 8 = T7 a.fCodes ++ (G9 a.fWhen ++ r) ∧ 8 < (V5 a ++ r).length := by
 have hpl := aq h.2
 have e : V5 a ++ r = Z5 a.fSegment ++ (T7 a.fCodes ++ (G9 a.fWhen ++ r)) := by simp only [V5, List.append_assoc]
 have h8 : (V5 a ++ r).take 8 = Z5 a.fSegment := by rw [e]; exact List.take_left' hpl
 refine ⟨h8, ?_, by rw [e]; exact List.drop_left' hpl, ?_⟩
 ·unfold P7
  rw [h8]
  exact mX h.1 _
 ·obtain ⟨d, q, e2, _⟩ := kO a.fWhen r
  rw [e, e2]
  simp only [List.length_append, List.length_cons, hpl]
  omega
theorem wc {x : b8} (hok : A2 x = true) {g : List a6} {c : y4} (h : B5 x (g :: c) = true) : 10 ≤ (R5 (g :: c)).length := by
 have hgs := fM h
 cases g with
 | nil => exact absurd rfl (hgs [] (by simp)).1
 | cons v vs =>
  have hv := bE hok ((hgs (v :: vs) (by simp)).2 v (by simp))
  simp only [R5, D0, List.length_append, en hv]
  omega
theorem qA {b : a8} {a : b7} (hw : d8 b) (hv : valid b = true) (h : bA b a = true) : fZ b (V5 a) = a ∧ okP b (V5 a) = true := by
 obtain ⟨j, x, hr⟩ := cb hw hv h
 obtain ⟨_, h1, h2, h3⟩ := pU hr.name []
 rw [List.append_nil] at h1 h2 h3
 rw [List.append_nil] at h2
 have hs := vk a.fCodes a.fWhen hr.codes
 have hp : nO b j (G9 a.fWhen) = (a.fWhen, 0) := by
  have hc := hr.cond
  cases hww : a.fWhen with
  | nil => rfl
  | cons g c =>
   rw [hww] at hc
   have hcl := wc hr.ok hc
   unfold nO
   have e1 : G9 (g :: c) = (40 :: R5 (g :: c)) ++ [41] := rfl
   have e2 : F5 41 (G9 (g :: c)).reverse = true := by rw [e1, List.reverse_append]; rfl
   have e3 : zH (G9 (g :: c)) = R5 (g :: c) := by
    unfold zH
    rw [e1, List.length_append, List.length_singleton, Nat.add_sub_cancel, List.take_left']
    ·rfl
    ·rfl
   have e4 : decide (((G9 (g :: c)).length : Int) > 2) = true := by
    rw [e1]
    simp only [List.length_append, List.length_cons, List.length_nil, decide_eq_true_eq]
    omega
   have e5 : F5 40 (G9 (g :: c)) = true := rfl
   rw [e2, e3, e4, e5]
   have hf : U6 b j (g :: c) = (R5 (g :: c), 0) := by
    unfold U6 R7
    simp only [hr.ask, hr.ix, bne_self_eq_false, cond_false, List.any_cons, List.any_nil, hc, Bool.not_true, Bool.or_false]
   have := (Gc (c := g :: c) (t := j) hw (by rw [hf])).1
   rw [hf] at this
   exact this
 have e : fZ b (V5 a) = a := by
  unfold fZ
  rw [h1, h2, hs, hr.ty]
  simp only [hp]
 refine ⟨e, ?_⟩
 unfold okP
 rw [e, h1, h2, hs, hr.ty]
 unfold F4
 rw [hv, h]
 simp only [h3, decide_true, hp, Bool.not_true, cond_false, beq_self_eq_true, Bool.and_true]
theorem pw {b : a8} {s : Str} (hv : valid b = true) (h : okP b s = true) : bA b (fZ b s) = true ∧ V5 (fZ b s) = s := by
 unfold okP at h
 simp only [Bool.and_eq_true] at h
 obtain ⟨_, _, _, h1, h2⟩ := h
 unfold F4 at h1 h2
 rw [hv] at h1 h2
 cases hr : bA b (fZ b s) with
 | false => rw [hr] at h1; cases h1
 | true => rw [hr] at h2; exact ⟨rfl, eq_of_beq h2⟩
def azL (c : UInt8) : Bool := decide ((c.toNat : Int) ≥ 65) && decide ((c.toNat : Int) ≤ 90)
def iF (r : Str) : Option (Str × Str) := bif F5 42 r then (bif ((r.drop 1).takeWhile azL == []) || (!D3 0 ((r.drop 1).takeWhile azL) || ((r.drop 1).dropWhile azL == [])) then none else some ((r.drop 1).takeWhile azL, (r.drop 1).dropWhile azL)) else some ([], r)
def pZ (x : b8) (r : Str) : Option (y4 × Str) := bif F5 32 r then some ([], r.drop 1) else match P0 x ((r.drop 1).length + 1) (r.drop 1) [] [] with
 | none => none
 | some q => bif F5 40 r && (B5 x q.1 && F5 41 q.2) then some (q.1, q.2.drop 1) else none
def gB (b : a8) (s : Str) : Option (b7 × Str) := bif decide (s.length ≤ 8) then none else bif (r9 b (P7 s)).2 != 0 then none else match idx b.fTypes (r9 b (P7 s)).1 with
 | none => none
 | some x => (iF (s.drop 8)).bind fun q => (pZ x q.2).map fun w => ({ fSegment := P7 s, fCodes := q.1, fWhen := w.1 }, w.2)
theorem uc {b : a8} {a : b7} (hw : d8 b) (hv : valid b = true) (h : bA b a = true) (r : Str) : gB b (V5 a ++ r) = some (a, r) := by
 obtain ⟨j, x, hr⟩ := cb hw hv h
 obtain ⟨_, h1, h2, h3⟩ := pU hr.name r
 have hc : iF (T7 a.fCodes ++ (G9 a.fWhen ++ r)) = some (a.fCodes, G9 a.fWhen ++ r) := by
  obtain ⟨d, q, e, hd⟩ := kO a.fWhen r
  have hp : azL d = false := by rcases hd with rfl | rfl <;> rfl
  have hcg := hr.codes
  cases hcc : a.fCodes with
  | nil =>
   show iF (G9 a.fWhen ++ r) = _
   unfold iF
   rw [e]
   have : F5 42 (d :: q) = false := by rcases hd with rfl | rfl <;> rfl
   rw [this]
   rfl
  | cons c l =>
   rw [hcc] at hcg
   have ha : ∀ u ∈ c :: l, azL u = true := fun u hu => by
    rcases gc _ _ hcg u hu with rfl | rfl | rfl <;> rfl
   obtain ⟨g1, g2⟩ := pT (r := q) hp (c :: l) ha
   have e42 : F5 42 (T7 (c :: l) ++ (G9 a.fWhen ++ r)) = true := rfl
   have ed : (T7 (c :: l) ++ (G9 a.fWhen ++ r)).drop 1 = (c :: l) ++ (G9 a.fWhen ++ r) := rfl
   unfold iF
   rw [e42, ed, e, g1, g2, hcg]
   rfl
 have hwn : pZ x (G9 a.fWhen ++ r) = some (a.fWhen, r) := by
  have hco := hr.cond
  cases hww : a.fWhen with
  | nil => rfl
  | cons g c =>
   rw [hww] at hco
   have e1 : G9 (g :: c) ++ r = 40 :: (R5 (g :: c) ++ 41 :: r) := by simp [G9]
   have hb := ub hr.ok hco (by simp) (e := 41 :: r) (fun c' r' e' => by obtain ⟨rfl, _⟩ := List.cons.inj e'; exact ⟨rfl, rfl⟩) _ (Nat.lt_succ_self _)
   unfold pZ
   rw [e1]
   have e32 : F5 32 (40 :: (R5 (g :: c) ++ 41 :: r)) = false := rfl
   have e40 : F5 40 (40 :: (R5 (g :: c) ++ 41 :: r)) = true := rfl
   rw [e32, e40]
   simp only [cond_false, List.drop_succ_cons, List.drop_zero, hb, hco, F5, beq_self_eq_true, Bool.and_true, cond_true]
 unfold gB
 rw [h1, h2, hr.ty, hc]
 have hd : decide ((V5 a ++ r).length ≤ 8) = false := by simp only [decide_eq_false_iff_not]; omega
 simp only [hd, bne_self_eq_false, cond_false, hr.ix, Option.bind_some, hwn, Option.map_some]
theorem fy {c : UInt8} {r : Str} (h : F5 c r = true) : r = c :: r.drop 1 := by
 cases r with
 | nil => cases h
 | cons d r => rw [eq_of_beq h]; rfl
theorem nP {b : a8} {s r : Str} {a : b7} (hv : valid b = true) (h : gB b s = some (a, r)) : bA b a = true ∧ s = V5 a ++ r := by
 unfold gB at h
 cases hl : decide (s.length ≤ 8) with
 | true => rw [hl] at h; cases h
 | false =>
  rw [hl, cond_false] at h
  have hlen : 8 < s.length := by simpa using hl
  rcases kN hv (P7 s) with he | ⟨j, hj, h1, h2, h3, h4, h5⟩
  ·rw [he] at h; cases h
  ·rw [h1] at h
   simp only [bne_self_eq_false, cond_false, h5] at h
   cases hc : iF (s.drop 8) with
   | none => rw [hc] at h; cases h
   | some q =>
    obtain ⟨cs, q⟩ := q
    rw [hc] at h
    simp only [Option.bind_some] at h
    cases hwn : pZ b.fTypes[j] q with
    | none => rw [hwn] at h; cases h
    | some w =>
     obtain ⟨w, r'⟩ := w
     rw [hwn] at h
     simp only [Option.map_some] at h
     obtain ⟨rfl, rfl⟩ := Prod.mk.inj (Option.some.inj h)
     have hcs : s.drop 8 = T7 cs ++ q ∧ D3 0 cs = true := by
      unfold iF at hc
      cases h42 : F5 42 (s.drop 8) with
      | false =>
       rw [h42, cond_false] at hc
       obtain ⟨rfl, rfl⟩ := Prod.mk.inj (Option.some.inj hc)
       exact ⟨rfl, rfl⟩
      | true =>
       rw [h42, cond_true] at hc
       have hd := fy h42
       generalize (s.drop 8).drop 1 = u at hc hd
       cases hno : (u.takeWhile azL == []) || (!D3 0 (u.takeWhile azL) || (u.dropWhile azL == [])) with
       | true => rw [hno] at hc; cases hc
       | false =>
        rw [hno, cond_false] at hc
        obtain ⟨rfl, rfl⟩ := Prod.mk.inj (Option.some.inj hc)
        simp only [Bool.or_eq_false_iff, Bool.not_eq_false'] at hno
        obtain ⟨n1, n2, _⟩ := hno
        refine ⟨?_, n2⟩
        rw [hd]
        cases ht : u.takeWhile azL with
        | nil => rw [ht] at n1; cases n1
        | cons c l =>
         show _ = 42 :: (c :: l ++ u.dropWhile azL)
         rw [← ht, List.takeWhile_append_dropWhile]
     have hws : q = G9 w ++ r' ∧ B5 b.fTypes[j] w = true := by
      unfold pZ at hwn
      cases h32 : F5 32 q with
      | true =>
       rw [h32, cond_true] at hwn
       obtain ⟨rfl, rfl⟩ := Prod.mk.inj (Option.some.inj hwn)
       exact ⟨fy h32, rfl⟩
      | false =>
       rw [h32, cond_false] at hwn
       cases hb : P0 b.fTypes[j] ((q.drop 1).length + 1) (q.drop 1) [] [] with
       | none => rw [hb] at hwn; cases hwn
       | some p =>
        obtain ⟨c, e⟩ := p
        rw [hb] at hwn
        simp only at hwn
        cases hall : F5 40 q && (B5 b.fTypes[j] c && F5 41 e) with
        | false => rw [hall] at hwn; cases hwn
        | true =>
         rw [hall, cond_true] at hwn
         obtain ⟨rfl, rfl⟩ := Prod.mk.inj (Option.some.inj hwn)
         simp only [Bool.and_eq_true] at hall
         obtain ⟨h40, hco, h41⟩ := hall
         obtain ⟨hne, hs⟩ := nQ h4 hb
         refine ⟨?_, hco⟩
         rw [fy h40, hs]
         cases c with
         | nil => exact absurd rfl hne
         | cons g c =>
          rw [G9, List.cons_append, List.append_assoc, List.singleton_append, ← fy h41]
     refine ⟨tF hcs.2 h1 h3 h5 hws.2, ?_⟩
     have h8 : (s.take 8).length = 8 := by rw [List.length_take]; omega
     unfold V5
     simp only
     rw [show Z5 (P7 s) = s.take 8 from nM h8, List.append_assoc, List.append_assoc, ← hws.1, ← hcs.1, List.take_append_drop]
theorem vg {b : a8} {s : Str} (hw : d8 b) (hv : valid b = true) : (okP b s = true ∧ gB b s = some (fZ b s, [])) ∨ (okP b s = false ∧ ∀ a, gB b s ≠ some (a, [])) := by
 cases h : okP b s with
 | true =>
  obtain ⟨h1, h2⟩ := pw hv h
  have := uc hw hv h1 []
  rw [List.append_nil, h2] at this
  exact .inl ⟨rfl, this⟩
 | false =>
  refine .inr ⟨rfl, fun a ha => ?_⟩
  obtain ⟨h1, h2⟩ := nP hv ha
  rw [List.append_nil] at h2
  have := (qA hw hv h1).2
  rw [← h2, h] at this
  cases this
end Go.Sh

namespace Go.Sh
open Go.AE
open Go.Lib (trimRightB)
set_option linter.unusedVariables false
set_option linter.unusedSimpArgs false
def tR : b7 := { fSegment := [], fCodes := [], fWhen := [] }
theorem rz (b : a8) (a : b7) : cr b [a] = bif !valid b then ([], 100) else bif !bA b a then ([], 2) else ([O0 b a], 0) := by
 unfold cr aB bA
 cases valid b with
 | false => rfl
 | true =>
  have hd : decide ((([a] : List b7).length : Int) > 5) = false := rfl
  rw [hd]
  simp only [Bool.not_true, cond_false, Y9]
  cases h : (D8 b (-1) a).1 == sOK with
  | false => simp only [Bool.not_false, cond_true, h]
  | true =>
   have := jm h
   simp only [Bool.not_true, cond_false, this, List.nil_append]
   rfl
theorem V4 {k : Nat} {b : a8} {a : b7} (hk : maxLen + 40 ≤ k) (hw : d8 b) (ha : t6 a) : z8 k b a = some (F4 b a) := by
 have e63 := m0
 obtain ⟨k, rfl, hq⟩ := i9 (c := maxLen + 39) hk
 simp only [z8, bD (show maxLen + 19 ≤ k by omega) hw (rD ha), rz, Option.bind_some, F4]
 cases hv : valid b with
 | false => rfl
 | true =>
  cases hr : bA b a with
  | false => rfl
  | true =>
   obtain ⟨j, x, h⟩ := cb hw hv hr
   have hcl := bJ a.fCodes 0 h.codes
   have hti : O0 b a = j := by unfold O0; rw [h.ty]
   have hwl := dZ (T8 h.ok h.cond)
   have hpl := aq h.name.2
   have hf : F7 k b j a.fWhen = some (R5 a.fWhen, 0) := by
    rw [lz (by omega) hw ha.2.2.1]
    unfold U6 R7
    simp only [h.ask, h.ix, bne_self_eq_false, cond_false, List.any_cons, List.any_nil, h.cond, Bool.not_true, Bool.or_false]
   have hrep : strings_Repeat k [32] (Go.IntKind.wrap .i64 (8 - (a.fSegment.length : Int))) = some (List.replicate (8 - a.fSegment.length) 32) := by
    obtain ⟨k, rfl, _⟩ := i9 (show 0 + 1 ≤ k by omega)
    exact tD h.name.2
   have hp : a.fSegment ++ List.replicate (8 - a.fSegment.length) 32 = Z5 a.fSegment := rfl
   have hi : idx [j] 0 = some j := rfl
   simp only [Bool.not_true, cond_false, bne_self_eq_false, hrep, Option.bind_some, hti]
   rw [w8 (by rw [List.length_replicate]; simp only [l4]; have := h.name.2; omega), Option.bind_some, hp]
   cases hcc : a.fCodes with
   | nil =>
    simp only [show (!(([] : Str) == ([] : Str))) = false by rfl, cond_false]
    cases hww : a.fWhen with
    | nil =>
     simp only [show ((([] : y4).length : Int) == 0) = true by rfl, cond_true]
     rw [w8 (by simp only [List.length_singleton, l4]; omega)]
     simp only [Option.bind_some, V5, hcc, hww, T7, G9, List.nil_append]
    | cons g r =>
     rw [hww] at hf hwl
     simp only [show (((g :: r : y4).length : Int) == 0) = false by simp only [List.length_cons, beq_eq_false_iff_ne]; omega, cond_false, hi, Option.bind_some, hf, bne_self_eq_false]
     rw [w8 (by simp only [List.length_singleton, l4]; omega), Option.bind_some, w8 (by simp only [List.length_append, List.length_singleton, l4]; omega), Option.bind_some, w8 (by simp only [List.length_append, List.length_singleton, l4]; omega)]
     simp only [Option.bind_some, V5, hcc, hww, T7, G9, List.nil_append, List.append_assoc, List.singleton_append, List.cons_append]
   | cons c l =>
    rw [hcc] at hcl
    simp only [show (!((c :: l : Str) == ([] : Str))) = true by rfl, cond_true]
    rw [w8 (by simp only [List.length_singleton, l4]; omega), Option.bind_some, w8 (by simp only [List.length_append, List.length_singleton, l4]; omega), Option.bind_some]
    cases hww : a.fWhen with
    | nil =>
     simp only [show ((([] : y4).length : Int) == 0) = true by rfl, cond_true]
     rw [w8 (by simp only [List.length_append, List.length_singleton, l4]; omega)]
     simp only [Option.bind_some, V5, hcc, hww, T7, G9, List.nil_append, List.append_assoc, List.singleton_append, List.cons_append]
    | cons g r =>
     rw [hww] at hf hwl
     simp only [show (((g :: r : y4).length : Int) == 0) = false by simp only [List.length_cons, beq_eq_false_iff_ne]; omega, cond_false, hi, Option.bind_some, hf, bne_self_eq_false]
     rw [w8 (by simp only [List.length_append, List.length_singleton, l4]; omega), Option.bind_some, w8 (by simp only [List.length_append, List.length_singleton, l4]; omega), Option.bind_some, w8 (by simp only [List.length_append, List.length_singleton, l4]; omega)]
     simp only [Option.bind_some, V5, hcc, hww, T7, G9, List.nil_append, List.append_assoc, List.singleton_append, List.cons_append]
theorem mb {k : Nat} {b : a8} {a : b7} (hk : maxLen + 40 ≤ k) (hw : d8 b) (ha : t6 a) : bx k b a = some (F4 b a) := by
 have e63 := m0
 obtain ⟨k, rfl, hq⟩ := i9 (c := maxLen + 39) hk
 simp only [bx, eV (show maxLen + 20 ≤ k by omega) hw (rD ha), rz, Option.bind_some, F4]
 cases hv : valid b with
 | false => rfl
 | true =>
  cases hr : bA b a with
  | false => rfl
  | true =>
   obtain ⟨j, x, h⟩ := cb hw hv hr
   have hcl := bJ a.fCodes 0 h.codes
   have hti : O0 b a = j := by unfold O0; rw [h.ty]
   have hwl := dZ (T8 h.ok h.cond)
   have hpl := aq h.name.2
   have hf : K4 k b j a.fWhen = some (R5 a.fWhen, 0) := by
    rw [lW (by omega) hw ha.2.2.1]
    unfold U6 R7
    simp only [h.ask, h.ix, bne_self_eq_false, cond_false, List.any_cons, List.any_nil, h.cond, Bool.not_true, Bool.or_false]
   have hi : idx [j] 0 = some j := rfl
   simp only [Bool.not_true, cond_false, bne_self_eq_false, u9 (show 10 ≤ k by omega) (show a.fSegment.length ≤ 1000000 by have := h.name.2; omega), Option.bind_some, hti]
   cases hcc : a.fCodes with
   | nil =>
    simp only [show (!(([] : Str) == ([] : Str))) = false by rfl, cond_false]
    cases hww : a.fWhen with
    | nil =>
     simp only [show ((([] : y4).length : Int) == 0) = true by rfl, cond_true]
     rw [w8 (by simp only [List.length_singleton, l4]; omega)]
     simp only [Option.bind_some, V5, hcc, hww, T7, G9, List.nil_append]
    | cons g r =>
     rw [hww] at hf hwl
     simp only [show (((g :: r : y4).length : Int) == 0) = false by simp only [List.length_cons, beq_eq_false_iff_ne]; omega, cond_false, hi, Option.bind_some, hf]
     rw [w8 (by simp only [List.length_singleton, l4]; omega), Option.bind_some, w8 (by simp only [List.length_append, List.length_singleton, l4]; omega), Option.bind_some, w8 (by simp only [List.length_append, List.length_singleton, l4]; omega)]
     simp only [Option.bind_some, V5, hcc, hww, T7, G9, List.nil_append, List.append_assoc, List.singleton_append, List.cons_append]
   | cons c l =>
    rw [hcc] at hcl
    simp only [show (!((c :: l : Str) == ([] : Str))) = true by rfl, cond_true]
    rw [w8 (by simp only [List.length_singleton, l4]; omega), Option.bind_some, w8 (by simp only [List.length_append, List.length_singleton, l4]; omega), Option.bind_some]
    cases hww : a.fWhen with
    | nil =>
     simp only [show ((([] : y4).length : Int) == 0) = true by rfl, cond_true]
     rw [w8 (by simp only [List.length_append, List.length_singleton, l4]; omega)]
     simp only [Option.bind_some, V5, hcc, hww, T7, G9, List.nil_append, List.append_assoc, List.singleton_append, List.cons_append]
    | cons g r =>
     rw [hww] at hf hwl
     simp only [show (((g :: r : y4).length : Int) == 0) = false by simp only [List.length_cons, beq_eq_false_iff_ne]; omega, cond_false, hi, Option.bind_some, hf]
     rw [w8 (by simp only [List.length_append, List.length_singleton, l4]; omega), Option.bind_some, w8 (by simp only [List.length_append, List.length_singleton, l4]; omega), Option.bind_some, w8 (by simp only [List.length_append, List.length_singleton, l4]; omega)]
     simp only [Option.bind_some, V5, hcc, hww, T7, G9, List.nil_append, List.append_assoc, List.singleton_append, List.cons_append]
theorem vO (p : UInt8 → Bool) (r : Str) : r.take (r.takeWhile p).length = r.takeWhile p ∧ r.drop (r.takeWhile p).length = r.dropWhile p := by
 have h := List.takeWhile_append_dropWhile (p := p) (l := r)
 constructor
 ·conv => lhs; rw [← h]
  exact List.take_left' (by rw [h])
 ·conv => lhs; rw [← h]
  exact List.drop_left' (by rw [h])
theorem qK {c : UInt8} {r : Str} (n : Nat) (hc : c.toNat = n) (h : 0 < r.length) : ((J5 r 0).bind fun v => some (v == (n : Int))) = some (F5 c r) := by
 subst hc
 cases r with
 | nil => cases h
 | cons d r =>
  rw [ec, Option.bind_some, nz]
  rfl
theorem Ah {β : Type} {L : Nat → Int → β} {K : Int → β} {l : Str} {p : UInt8 → Bool} (hl : l.length ≤ 1000000)
  (hs : ∀ m (i : Nat) (h : i < l.length), L (m + 1) (i : Int) = bif p l[i] then L m ((i + 1 : Nat) : Int) else K (i : Int)) (he : ∀ m, L (m + 1) (l.length : Int) = K (l.length : Int)) :
  ∀ (d i m : Nat), i + d = l.length → d < m → L m (i : Int) = K ((i + ((l.drop i).takeWhile p).length : Nat) : Int)
 | 0, i, m, hd, hm => by
  obtain ⟨m, rfl⟩ : ∃ q, m = q + 1 := ⟨m - 1, by omega⟩
  obtain rfl : i = l.length := by omega
  rw [he, List.drop_length]
  rfl
 | d + 1, i, m, hd, hm => by
  obtain ⟨m, rfl⟩ : ∃ q, m = q + 1 := ⟨m - 1, by omega⟩
  have hi : i < l.length := by omega
  rw [hs m i hi, List.drop_eq_getElem_cons hi, List.takeWhile_cons]
  cases hp : p l[i] with
  | false => simp
  | true =>
   rw [cond_true, Ah hl hs he d (i + 1) m (by omega) (by omega), if_pos rfl, List.length_cons]
   congr 2
   omega
theorem uP (c : UInt8) : decide (gL [68, 76, 80] c ≥ 0) = fp c := by
 have hn : gL [] c = -1 := rfl
 by_cases h1 : c = 68
 ·subst h1; rfl
 by_cases h2 : c = 76
 ·subst h2; rfl
 by_cases h3 : c = 80
 ·subst h3; rfl
 rw [Z1 h1, Z1 h2, Z1 h3, hn]
 unfold fp
 rw [beq_eq_false_iff_ne.2 h1, beq_eq_false_iff_ne.2 h2, beq_eq_false_iff_ne.2 h3]
 rfl
theorem ue (c : UInt8) : ((c.toNat : Int)).toNat.toUInt8 = c := by
 rw [Int.toNat_natCast]
 exact UInt8.ofNat_toNat
theorem wt {k : Nat} {o : Str} {K : Int → Option (b7 × Bool)} (hk : 1 ≤ k) (hl : o.length ≤ 1000000) {m : Nat} (h1 : 1 ≤ o.length) (hm : o.length < m) : Q3 k o K m 1 = K (((1 + ((o.drop 1).takeWhile fp).length : Nat)) : Int) := by
 have e63 := m0
 obtain ⟨k, rfl, _⟩ := i9 (show 0 + 1 ≤ k by omega)
 refine Ah (L := fun m i => Q3 (k + 1) o K m i) (p := fp) hl ?_ ?_ (o.length - 1) 1 m (by omega) (by omega)
 ·intro m i hi
  have hx : strings_IndexByte (k + 1) [68, 76, 80] ((o[i]).toNat : Int) = some (gL [68, 76, 80] o[i]) := by
   show some (gL [68, 76, 80] ((o[i]).toNat : Int).toNat.toUInt8) = _
   rw [ue]
  simp only [Q3, show decide ((i : Int) < (o.length : Int)) = true by simp; omega, cond_true, lk hi, Option.bind_some, hx, uP, m8 hi (by omega)]
 ·intro m
  simp only [Q3, show decide ((o.length : Int) < (o.length : Int)) = false by simp, cond_false, Option.bind_some]
theorem Ad {o : Str} {K : Int → Option (b7 × Str × Bool)} (hl : o.length ≤ 1000000) {m : Nat} (h1 : 1 ≤ o.length) (hm : o.length < m) : I4 o K m 1 = K (((1 + ((o.drop 1).takeWhile azL).length : Nat)) : Int) := by
 have e63 := m0
 refine Ah (L := fun m i => I4 o K m i) (p := azL) hl ?_ ?_ (o.length - 1) 1 m (by omega) (by omega)
 ·intro m i hi
  simp only [I4, show decide ((i : Int) < (o.length : Int)) = true by simp; omega, cond_true, lk hi, Option.bind_some, m8 hi (by omega)]
  unfold azL
  cases decide (((o[i]).toNat : Int) ≥ 65) <;> cases decide (((o[i]).toNat : Int) ≤ 90) <;> rfl
 ·intro m
  simp only [I4, show decide ((o.length : Int) < (o.length : Int)) = false by simp, cond_false, Option.bind_some]
def rf (k : Nat) (b : a8) (s : Str) (a : b7) (r : Str) : Option (b7 × Bool) :=
 (((cy k b a.fSegment).bind fun v20 => (some (v20.1, v20.2))).bind fun o21 =>
      (bif (o21.2 != 0) then (some (({ fSegment := [], fCodes := [], fWhen := ([] : List (List a6)) } : b7), false)) else
      ((bif (decide ((r.length : Int) > 2)) then ((J5 r 0).bind fun v22 => (bif (v22 == 40) then ((J5 r (Go.IntKind.wrap .i64 ((r.length : Int) - 1))).bind fun v23 => (some ((v23 == 41)))) else (some (false)))) else (some (false))).bind fun o24 =>
       (bif o24 then (((cut r 1 (Go.IntKind.wrap .i64 ((r.length : Int) - 1))).bind fun v25 => ((P6 k b o21.1 v25).bind fun v26 => (some (v26.2, { a with fWhen := v26.1 })))).bind fun o27 =>
        (bif (o27.1 != 0) then (some (({ fSegment := [], fCodes := [], fWhen := ([] : List (List a6)) } : b7), false)) else
        (((z8 k b o27.2).bind fun v28 => (some (v28.2, v28.1))).bind fun o29 =>
         ((bif (o29.1 == 0) then (some ((o29.2 == s), o27.2)) else (some (false, o27.2))).bind fun o30 =>
         (some (o30.2, o30.1)))))) else
        (((z8 k b a).bind fun v31 => (some (v31.2, v31.1))).bind fun o32 =>
         ((bif (o32.1 == 0) then (some ((o32.2 == s), a)) else (some (false, a))).bind fun o33 =>
         (some (o33.2, o33.1))))))))
def oG (b : a8) (n cs r : Str) : b7 := { fSegment := n, fCodes := cs, fWhen := (nO b (r9 b n).1 r).1 }
def zK (b : a8) (s n cs r : Str) : Bool := (r9 b n).2 == 0 && ((nO b (r9 b n).1 r).2 == 0 && ((F4 b (oG b n cs r)).2 == 0 && ((F4 b (oG b n cs r)).1 == s)))
theorem wT {r : Str} (h : 2 < r.length) : ∃ c m d, r = c :: (m ++ [d]) := by
 cases r with
 | nil => simp at h
 | cons c q =>
  rcases List.eq_nil_or_concat q with e | ⟨m, d, e⟩
  ·subst e; simp at h
  ·exact ⟨c, m, d, by rw [e]; simp⟩
theorem lI {k : Nat} {b : a8} {s n cs r : Str} (hk : maxLen + 40 ≤ k) (hw : d8 b) (hn : n.length ≤ 1000) (hcs : cs.length ≤ 100000) (hr : r.length ≤ 100000) :
  ∃ a, rf k b s { fSegment := n, fCodes := cs, fWhen := [] } r = some (a, zK b s n cs r) ∧ (zK b s n cs r = true → a = oG b n cs r) := by
 have e63 := m0
 unfold rf zK oG
 simp only [jM (show maxLen + 11 ≤ k by omega) hw, Option.bind_some]
 have hnil : wfL (wfL o0) ([] : y4) := ⟨by simp, fun g hg => by cases hg⟩
 have hne : ((r9 b n).2 != 0) = !((r9 b n).2 == 0) := rfl
 rw [hne]
 generalize he : ((r9 b n).2 == 0) = e
 cases e with
 | false => exact ⟨_, rfl, fun h => by cases h⟩
 | true =>
  simp only [Bool.not_true, cond_false, Bool.true_and]
  by_cases hl : 2 < r.length
  ·obtain ⟨c, m, d, rfl⟩ := wT hl
   have hlen : (c :: (m ++ [d])).length = m.length + 2 := by simp
   have hd : decide ((((c :: (m ++ [d])) : Str).length : Int) > 2) = true := by rw [hlen, decide_eq_true_eq]; rw [hlen] at hl; omega
   have hwr : Go.IntKind.wrap .i64 ((((c :: (m ++ [d])) : Str).length : Int) - 1) = ((m.length + 1 : Nat) : Int) := by
    rw [hlen, W7 (by omega) (by rw [hlen] at hr; omega)]
    omega
   have hlast : J5 (c :: (m ++ [d])) ((m.length + 1 : Nat) : Int) = some (d.toNat : Int) := by
    unfold J5
    rw [if_pos (by omega), Int.toNat_natCast, List.getElem?_cons_succ, List.getElem?_append_right (Nat.le_refl _), Nat.sub_self]
    rfl
   have hcut : cut (c :: (m ++ [d])) 1 ((m.length + 1 : Nat) : Int) = some m := by
    have := dN (l := c :: (m ++ [d])) (i := 1) (j := m.length + 1) (by omega) (by rw [hlen]; omega)
    rw [show ((1 : Nat) : Int) = 1 by rfl] at this
    rw [this, List.take_succ_cons, List.drop_succ_cons, List.drop_zero, List.take_left]
   have hmid : zH (c :: (m ++ [d])) = m := by
    unfold zH
    rw [hlen, show m.length + 2 - 1 = m.length + 1 by omega, List.take_succ_cons, List.drop_succ_cons, List.drop_zero, List.take_left]
   have h40 : F5 40 (c :: (m ++ [d])) = (c == 40) := rfl
   have h41 : F5 41 (c :: (m ++ [d])).reverse = (d == 41) := by
    rw [List.reverse_cons, List.reverse_append, List.reverse_singleton]
    rfl
   have b40 : ((c.toNat : Int) == 40) = (c == 40) := nz c 40
   have b41 : ((d.toNat : Int) == 41) = (d == 41) := nz d 41
   unfold nO
   rw [hd, h40, h41, hmid]
   simp only [cond_true, ec, Option.bind_some, b40, hwr, hlast, b41, hcut, Bool.true_and]
   have main : ∀ u : y4 × Int, u.2 = 0 ∨ True → True := fun _ _ => trivial
   cases c == 40 <;> cases d == 41
   all_goals simp only [cond_true, cond_false, Option.bind_some, Bool.and_true, Bool.and_false, Bool.true_and, Bool.false_and]
   all_goals first
    | (rw [mT (show maxLen + 20 ≤ k by omega) hw (show m.length ≤ 100000 by rw [hlen] at hr; omega)]
       have hpw := Aa (t := (r9 b n).1) (s := m) hw (by rw [hlen] at hr; omega)
       simp only [Option.bind_some, V4 (a := { fSegment := n, fCodes := cs, fWhen := (aD b (r9 b n).1 m).1 }) hk hw ⟨by show n.length ≤ maxLen; omega, by show cs.length ≤ maxLen; omega, hpw, trivial⟩]
       have hne2 : ((aD b (r9 b n).1 m).2 != 0) = !((aD b (r9 b n).1 m).2 == 0) := rfl
       rw [hne2]
       cases (aD b (r9 b n).1 m).2 == 0 with
       | false => exact ⟨_, rfl, fun h => by cases h⟩
       | true =>
         simp only [Bool.not_true, cond_false, Bool.true_and]
         cases (F4 b { fSegment := n, fCodes := cs, fWhen := (aD b (r9 b n).1 m).1 }).2 == 0 with
         | false => exact ⟨_, rfl, fun h => by cases h⟩
         | true => exact ⟨_, rfl, fun _ => rfl⟩)
    | (simp only [V4 (a := { fSegment := n, fCodes := cs, fWhen := [] }) hk hw ⟨by show n.length ≤ maxLen; omega, by show cs.length ≤ maxLen; omega, hnil, trivial⟩, Option.bind_some, beq_self_eq_true, Bool.true_and]
       cases (F4 b { fSegment := n, fCodes := cs, fWhen := [] }).2 == 0 with
       | false => exact ⟨_, rfl, fun h => by cases h⟩
       | true => exact ⟨_, rfl, fun _ => rfl⟩)
  ·have hd : decide ((r.length : Int) > 2) = false := by simp only [decide_eq_false_iff_not]; omega
   unfold nO
   rw [hd]
   simp only [cond_false, Option.bind_some, Bool.false_and, V4 (a := { fSegment := n, fCodes := cs, fWhen := [] }) hk hw ⟨by show n.length ≤ maxLen; omega, by show cs.length ≤ maxLen; omega, hnil, trivial⟩, beq_self_eq_true, Bool.true_and]
   cases (F4 b { fSegment := n, fCodes := cs, fWhen := [] }).2 == 0 with
   | false => exact ⟨_, rfl, fun h => by cases h⟩
   | true => exact ⟨_, rfl, fun _ => rfl⟩
theorem pQ {k : Nat} {b : a8} {s : Str} (hk : maxLen + 41 ≤ k) (hw : d8 b) (hs : s.length ≤ 100000) : ∃ a, gu k b s = some (a, okP b s) ∧ (okP b s = true → a = fZ b s) := by
 have e63 := m0
 obtain ⟨k, rfl, hq⟩ := i9 (c := maxLen + 40) hk
 simp only [gu]
 by_cases h8 : s.length ≤ 8
 ·have hd : decide ((s.length : Int) ≤ 8) = true := by rw [decide_eq_true_eq]; omega
  have hf : okP b s = false := by
   unfold okP
   rw [decide_eq_false (show ¬ 8 < s.length by omega)]
   rfl
  rw [hd, hf]
  exact ⟨_, rfl, fun h => by cases h⟩
 have hd : decide ((s.length : Int) ≤ 8) = false := by rw [decide_eq_false_iff_not]; omega
 have hcut : cut s 0 8 = some (s.take 8) := by
  have := dN (l := s) (i := 0) (j := 8) (by omega) (by omega)
  simpa using this
 have htrim : G2 k (s.take 8) [32] = some (P7 s) := by
  obtain ⟨k, rfl, _⟩ := i9 (show 0 + 1 ≤ k by omega)
  simp only [G2, ru]
  rw [if_pos ⟨by decide, by rw [List.length_take]; omega⟩]
  rfl
 have hcut8 : cut s 8 (s.length : Int) = some (s.drop 8) := cw (i := 8) (by omega)
 have hdl : (s.drop 8).length = s.length - 8 := List.length_drop
 have hnl : (P7 s).length ≤ 1000 := by
  obtain ⟨m, hm⟩ := jw 32 _ (s.take 8) rfl
  have : (s.take 8).length = (P7 s).length + m := by
   conv => lhs; rw [hm]
   rw [List.length_append, List.length_replicate]
   rfl
  rw [List.length_take] at this
  omega
 simp only [hd, cond_false, hcut, Option.bind_some, htrim, hcut8]
 have e42 : ((J5 (s.drop 8) 0).bind fun v6 => some (v6 == 42)) = some (F5 42 (s.drop 8)) := qK (c := 42) 42 rfl (by omega)
 rw [e42]
 simp only [Option.bind_some]
 have hok : okP b s = zK b s (P7 s) (fh (s.drop 8)).1 (fh (s.drop 8)).2 := by
  unfold okP zK
  rw [decide_eq_true (show 8 < s.length by omega)]
  rfl
 have hca : fZ b s = oG b (P7 s) (fh (s.drop 8)).1 (fh (s.drop 8)).2 := rfl
 rw [hok, hca]
 unfold fh
 cases h42 : F5 42 (s.drop 8) with
 | false =>
  simp only [cond_false]
  exact lI (by omega) hw hnl (by simp) (by omega)
 | true =>
  simp only [cond_true]
  rw [wt (by omega) (by omega) (by omega) (by omega)]
  obtain ⟨t1, t2⟩ := vO fp ((s.drop 8).drop 1)
  generalize hw1 : ((s.drop 8).drop 1).takeWhile fp = tw at t1 t2 ⊢
  generalize hw2 : ((s.drop 8).drop 1).dropWhile fp = dw at t2 ⊢
  have htl : tw.length + dw.length = s.length - 9 := by
   have := congrArg List.length (List.takeWhile_append_dropWhile (p := fp) (l := (s.drop 8).drop 1))
   rw [List.length_append, hw1, hw2, List.length_drop, hdl] at this
   omega
  have c1 : cut (s.drop 8) 1 ((1 + tw.length : Nat) : Int) = some tw := by
   have := dN (l := s.drop 8) (i := 1) (j := 1 + tw.length) (by omega) (by omega)
   rw [show ((1 : Nat) : Int) = 1 by rfl] at this
   rw [this, List.drop_take, show 1 + tw.length - 1 = tw.length by omega, t1]
  have c2 : cut (s.drop 8) ((1 + tw.length : Nat) : Int) ((s.drop 8).length : Int) = some dw := by
   rw [cw (by omega), ← List.drop_drop, t2]
  simp only [c1, c2, Option.bind_some]
  exact lI (by omega) hw hnl (by omega) (by omega)
end Go.Sh

namespace Go.Sh
open Go.AE
open Go.Lib (trimRightB)
set_option linter.unusedVariables false
set_option linter.unusedSimpArgs false
section
variable {β : Type} {L : Nat → Int → Int → β} {K : Int → Int → β} {n : Nat} {hit : Nat → Bool}
theorem vJ (hs : ∀ m (i : Nat) x, i < n → L (m + 1) x (i : Int) = bif hit i then L m (i : Int) ((i + 1 : Nat) : Int) else L m x ((i + 1 : Nat) : Int)) (he : ∀ m x, L (m + 1) x (n : Int) = K x (n : Int)) :
  ∀ (d i m : Nat) (x : Int), i + d = n → d < m → (∀ q, i ≤ q → q < n → hit q = false) → L m x (i : Int) = K x (n : Int)
 | 0, i, m, x, hd, hm, _ => by
  obtain ⟨m, rfl⟩ : ∃ q, m = q + 1 := ⟨m - 1, by omega⟩
  obtain rfl : i = n := by omega
  exact he m x
 | d + 1, i, m, x, hd, hm, h => by
  obtain ⟨m, rfl⟩ : ∃ q, m = q + 1 := ⟨m - 1, by omega⟩
  rw [hs m i x (by omega), h i (Nat.le_refl i) (by omega), cond_false]
  exact vJ hs he d (i + 1) m x (by omega) (by omega) (fun q h1 h2 => h q (by omega) h2)
theorem zL (hs : ∀ m (i : Nat) x, i < n → L (m + 1) x (i : Int) = bif hit i then L m (i : Int) ((i + 1 : Nat) : Int) else L m x ((i + 1 : Nat) : Int)) (he : ∀ m x, L (m + 1) x (n : Int) = K x (n : Int)) {j : Nat} (hj : j < n) (hh : hit j = true) (ho : ∀ q, q < n → q ≠ j → hit q = false) :
  ∀ (d i m : Nat) (x : Int), i + d = n → d < m → i ≤ j → L m x (i : Int) = K (j : Int) (n : Int)
 | 0, i, m, x, hd, hm, hi => by omega
 | d + 1, i, m, x, hd, hm, hi => by
  obtain ⟨m, rfl⟩ : ∃ q, m = q + 1 := ⟨m - 1, by omega⟩
  rw [hs m i x (by omega)]
  by_cases e : i = j
  ·subst e
   rw [hh, cond_true]
   exact vJ hs he d (i + 1) m _ (by omega) (by omega) (fun q h1 h2 => ho q h2 (by omega))
  ·rw [ho i (by omega) e, cond_false]
   exact zL hs he hj hh ho d (i + 1) m x (by omega) (by omega) (by omega)
end
theorem tN {b : a8} (hv : valid b = true) {i j : Nat} (hi : i < b.fTypes.length) (hj : j < b.fTypes.length) (hne : i ≠ j) : (b.fTypes[i]).fName ≠ (b.fTypes[j]).fName := by
 have key : ∀ p q (hp : p < b.fTypes.length) (hq : q < b.fTypes.length), p < q → (b.fTypes[p]).fName ≠ (b.fTypes[q]).fName := by
  intro p q hp hq hpq e
  have hv' := hv
  unfold valid fK at hv'
  simp only [Bool.and_eq_true, Bool.not_eq_true'] at hv'
  have := T6.1 hv'.2.2.2.1.2 q hq
  rw [az, u7 hq] at this
  simp only [Bool.or_eq_false_iff] at this
  have hd := this.1.2
  rw [fq, u7 hq, List.any_eq_false] at hd
  exact hd b.fTypes[p] (by rw [List.mem_take_iff_getElem]; exact ⟨p, by omega, rfl⟩) (by rw [e, beq_self_eq_true])
 rcases Nat.lt_or_ge i j with h | h
 ·exact key i j hi hj h
 ·exact fun e => key j i hj hi (by omega) e.symm
theorem Ae {k : Nat} {b : a8} {s : Str} {K : Int → Int → Option (b7 × Str × Bool)} {m : Nat} (hk : 10 ≤ k) (hv : valid b = true) (hl : b.fTypes.length ≤ maxLen) (hs : s.length ≤ 100000) (hm : b.fTypes.length < m) :
  u3 k b s K m (-1) 0 = K (bif decide (8 < s.length) && ((r9 b (P7 s)).2 == 0) then (r9 b (P7 s)).1 else -1) (b.fTypes.length : Int) := by
 have e63 := m0
 have step : ∀ m (i : Nat) x, i < b.fTypes.length → u3 k b s K (m + 1) x (i : Int) = bif (decide (8 < s.length) && at' b.fTypes (fun t => t.fName == P7 s) i) then u3 k b s K m (i : Int) ((i + 1 : Nat) : Int) else u3 k b s K m x ((i + 1 : Nat) : Int) := by
  intro m i x hi
  have hno := rv (ow hv hi)
  have hnl := tx hno
  simp only [u3, show decide ((i : Int) < (b.fTypes.length : Int)) = true by simp; omega, cond_true, p6 hi, Option.bind_some, u9 hk (show (b.fTypes[i]).fName.length ≤ 1000000 by omega), m8 hi hl, u7 hi]
  by_cases h8 : 8 < s.length
  ·have d1 : decide ((s.length : Int) > 8) = true := by rw [decide_eq_true_eq]; omega
   have hcut : cut s 0 8 = some (s.take 8) := by
    have := dN (l := s) (i := 0) (j := 8) (by omega) (by omega)
    simpa using this
   rw [d1, decide_eq_true h8]
   simp only [cond_true, hcut, Option.bind_some, Bool.true_and, tB hno hnl.2 (show (s.take 8).length = 8 by rw [List.length_take]; omega)]
   rfl
  ·have d1 : decide ((s.length : Int) > 8) = false := by rw [decide_eq_false_iff_not]; omega
   rw [d1, decide_eq_false h8]
   rfl
 have fin : ∀ m x, u3 k b s K (m + 1) x (b.fTypes.length : Int) = K x (b.fTypes.length : Int) := by
  intro m x
  simp only [u3, show decide ((b.fTypes.length : Int) < (b.fTypes.length : Int)) = false by simp, cond_false]
 by_cases h8 : 8 < s.length
 ·rcases kN hv (P7 s) with he | ⟨j, hj, h1, h2, _⟩
  ·have hz : ((r9 b (P7 s)).2 == 0) = false := by
    have : ((r9 b (P7 s)).2 != 0) = !((r9 b (P7 s)).2 == 0) := rfl
    rw [this] at he
    simpa using he
   rw [hz, Bool.and_false, cond_false]
   refine vJ (L := fun m x i => u3 k b s K m x i) step fin b.fTypes.length 0 m (-1) (by omega) hm (fun q _ hq => ?_)
   rw [u7 hq]
   cases hc : (b.fTypes[q]).fName == P7 s with
   | false => simp
   | true =>
    exfalso
    have ha0 : s6 b [] = 0 := by unfold s6; rw [hv]; rfl
    unfold r9 at hz
    rw [ha0] at hz
    rcases L6 b.fTypes (fun t => t.fName == P7 s) with ⟨hn, _⟩ | ⟨j, hj, _, _, hp⟩
    ·rw [hn q hq] at hc; cases hc
    ·rw [hp] at hz
     unfold dJ at hz
     rw [decide_eq_false (show ¬ ((j : Int) < 0) by omega)] at hz
     cases hz
  ·rw [h1, decide_eq_true h8]
   simp only [beq_self_eq_true, Bool.and_self, cond_true]
   refine zL (L := fun m x i => u3 k b s K m x i) step fin hj ?_ (fun q hq hne => ?_) b.fTypes.length 0 m (-1) (by omega) hm (Nat.zero_le _)
   ·rw [u7 hj, h2, decide_eq_true h8, beq_self_eq_true]
    rfl
   ·rw [u7 hq]
    have := tN hv hq hj hne
    rw [h2] at this
    rw [beq_eq_false_iff_ne.2 this, Bool.and_false]
 ·rw [decide_eq_false h8, Bool.false_and, cond_false]
  refine vJ (L := fun m x i => u3 k b s K m x i) step fin b.fTypes.length 0 m (-1) (by omega) hm (fun q _ hq => ?_)
  rw [decide_eq_false h8, Bool.false_and]
def qy (k : Nat) (b : a8) (y : Int) (o : b7) (r : Str) : Option (b7 × Str × Bool) :=
 (((J5 r 0).bind fun v47 => (some ((v47 == 32)))).bind fun o48 =>
           (bif o48 then (((cut r 1 (r.length : Int)).bind fun v49 => (some (v49, true, o))).bind fun o50 =>
            (some (o50.2.2, o50.1, o50.2.1))) else
           (((cut r 1 (r.length : Int)).bind fun v51 => ((P9 k b y v51).bind fun v52 => (some (v52.1, v52.2.1, v52.2.2)))).bind fun o53 =>
            (((J5 r 0).bind fun v54 => (bif (v54 != 40) then (some (true)) else (bif (!o53.2.2) then (some (true)) else (bif (o53.2.1 == ([] : Str)) then (some (true)) else ((J5 o53.2.1 0).bind fun v55 => (some ((v55 != 41)))))))).bind fun o56 =>
            (bif o56 then (some (({ fSegment := [], fCodes := [], fWhen := ([] : List (List a6)) } : b7), ([] : Str), false)) else
            (((cut o53.2.1 1 (o53.2.1.length : Int)).bind fun v57 => (some (v57, true, { o with fWhen := o53.1 }))).bind fun o58 =>
             (some (o58.2.2, o58.1, o58.2.1))))))))
def Gl : Option (b7 × Str) → b7 × Str × Bool
 | none => (tR, [], false)
 | some q => (q.1, q.2, true)
theorem kT {k : Nat} {b : a8} {t : Int} {x : b8} {n cs r : Str} (hk : maxLen + 14 ≤ k) (hw : d8 b) (ha : s6 b [t] = 0) (hi : idx b.fTypes t = some x) (hok : A2 x = true) (hx : x.fFields.length ≤ maxLen) (hr : r.length ≤ 100000) (h0 : 0 < r.length) :
  qy k b t { fSegment := n, fCodes := cs, fWhen := [] } r = some (Gl ((pZ x r).map fun w => ({ fSegment := n, fCodes := cs, fWhen := w.1 }, w.2))) := by
 cases r with
 | nil => cases h0
 | cons d q =>
  simp only [List.length_cons] at hr
  have b32 : ((d.toNat : Int) == 32) = (d == 32) := nz d 32
  have b40 : ((d.toNat : Int) != 40) = !(d == 40) := by
   have : ((d.toNat : Int) == 40) = (d == 40) := nz d 40
   rw [← this]
   rfl
  unfold qy pZ
  simp only [ec, Option.bind_some, b32, b40, kY, F5, List.drop_succ_cons, List.drop_zero, ng hk hw ha hi hok hx (show q.length ≤ 100000 by omega)]
  cases d == 32 with
  | true => rfl
  | false =>
   simp only [cond_false]
   cases P0 x (q.length + 1) q [] [] with
   | none => cases d == 40 <;> rfl
   | some p =>
    obtain ⟨c, e⟩ := p
    simp only [ud]
    cases e with
    | nil => cases d == 40 <;> cases B5 x c <;> rfl
    | cons f e =>
     have b41 : ((f.toNat : Int) != 41) = !(f == 41) := by
      have : ((f.toNat : Int) == 41) = (f == 41) := nz f 41
      rw [← this]
      rfl
     simp only [show ((f :: e : Str) == ([] : Str)) = false by rfl, cond_false, ec, Option.bind_some, b41, kY, F5, List.drop_succ_cons, List.drop_zero]
     cases d == 40 <;> cases B5 x c <;> cases f == 41 <;> rfl
theorem nn {k : Nat} {b : a8} {s : Str} (hk : maxLen + 41 ≤ k) (hw : d8 b) (hv : valid b = true) (hs : s.length ≤ 100000) : cN k b s = some (Gl (gB b s)) := by
 have e63 := m0
 have hl : b.fTypes.length ≤ maxLen := hw.2.2.1.1
 obtain ⟨k, rfl, hq⟩ := i9 (c := maxLen + 40) hk
 simp only [cN]
 rw [Ae (by omega) hv hl hs (by omega)]
 unfold gB
 by_cases h8 : 8 < s.length
 ·have hd : decide (s.length ≤ 8) = false := by rw [decide_eq_false_iff_not]; omega
  rw [decide_eq_true h8, hd]
  simp only [Bool.true_and, cond_false]
  rcases kN hv (P7 s) with he | ⟨j, hj, h1, h2, h3, h4, h5⟩
  ·have hz : ((r9 b (P7 s)).2 == 0) = false := by
    have : ((r9 b (P7 s)).2 != 0) = !((r9 b (P7 s)).2 == 0) := rfl
    rw [this] at he
    simpa using he
   rw [hz, he]
   rfl
  ·rw [h1]
   have hfl : (b.fTypes[j]).fFields.length ≤ maxLen := (hw.2.2.1.2 _ (List.getElem_mem hj)).2.2.2.2.1.1
   have hj0 : decide ((j : Int) < 0) = false := by rw [decide_eq_false_iff_not]; omega
   have hcut8 : cut s 8 (s.length : Int) = some (s.drop 8) := cw (i := 8) (by omega)
   have hdl : (s.drop 8).length = s.length - 8 := List.length_drop
   have e42 : ((J5 (s.drop 8) 0).bind fun v6 => some (v6 == 42)) = some (F5 42 (s.drop 8)) := qK (c := 42) 42 rfl (by omega)
   simp only [beq_self_eq_true, bne_self_eq_false, cond_true, cond_false, hj0, h5, Option.bind_some, h2, hcut8, e42]
   unfold iF
   cases h42 : F5 42 (s.drop 8) with
   | false =>
    simp only [cond_false, Option.bind_some]
    exact kT (by omega) hw h3 h5 h4 hfl (by omega) (by omega)
   | true =>
    simp only [cond_true]
    rw [Ad (by omega) (by omega) (by omega)]
    obtain ⟨t1, t2⟩ := vO azL ((s.drop 8).drop 1)
    generalize hw1 : ((s.drop 8).drop 1).takeWhile azL = tw at t1 t2 ⊢
    generalize hw2 : ((s.drop 8).drop 1).dropWhile azL = dw at t2 ⊢
    have htl : tw.length + dw.length = s.length - 9 := by
     have := congrArg List.length (List.takeWhile_append_dropWhile (p := azL) (l := (s.drop 8).drop 1))
     rw [List.length_append, hw1, hw2, List.length_drop, hdl] at this
     omega
    have c1 : cut (s.drop 8) 1 ((1 + tw.length : Nat) : Int) = some tw := by
     have := dN (l := s.drop 8) (i := 1) (j := 1 + tw.length) (by omega) (by omega)
     rw [show ((1 : Nat) : Int) = 1 by rfl] at this
     rw [this, List.drop_take, show 1 + tw.length - 1 = tw.length by omega, t1]
    have c2 : cut (s.drop 8) ((1 + tw.length : Nat) : Int) ((s.drop 8).length : Int) = some dw := by
     rw [cw (by omega), ← List.drop_drop, t2]
    simp only [c1, c2, Option.bind_some, S9 (show maxLen + 5 ≤ k by omega) (show tw.length ≤ maxLen by omega)]
    cases htw : tw == ([] : Str) with
    | true => rfl
    | false =>
     cases hcg : D3 0 tw with
     | false => rfl
     | true =>
      cases hdw : dw == ([] : Str) with
      | true => rfl
      | false =>
       simp only [Bool.not_true, cond_false, Bool.or_self, Option.bind_some]
       refine kT (by omega) hw h3 h5 h4 hfl (by omega) ?_
       cases dw with
       | nil => cases hdw
       | cons c l => simp
 ·have hd : decide (s.length ≤ 8) = true := by rw [decide_eq_true_eq]; omega
  rw [decide_eq_false h8, hd]
  rfl
def bq (b : a8) (s : Str) : b7 × Int := bif !valid b then (tR, 100) else bif okP b s then (fZ b s, 0) else (tR, 3)
theorem jk {k : Nat} {b : a8} {s : Str} (hk : maxLen + 43 ≤ k) (hw : d8 b) (hs : s.length ≤ 100000) : cf k b s = some (bq b s) := by
 obtain ⟨k, rfl, hq⟩ := i9 (c := maxLen + 42) hk
 obtain ⟨a, h1, h2⟩ := pQ (k := k) (s := s) (by omega) hw hs
 simp only [cf, my (show maxLen + 9 ≤ k by omega) hw, h1, Option.bind_some, bq]
 cases valid b with
 | false => rfl
 | true =>
  cases ho : okP b s with
  | false => rfl
  | true => rw [h2 ho]; rfl
theorem nq {k : Nat} {b : a8} {s : Str} (hk : maxLen + 43 ≤ k) (hw : d8 b) (hs : s.length ≤ 100000) : cQ k b s = some (bq b s) := by
 obtain ⟨k, rfl, hq⟩ := i9 (c := maxLen + 42) hk
 simp only [cQ, fG (show maxLen + 9 ≤ k by omega) hw, Option.bind_some, bq]
 cases hv : valid b with
 | false => rfl
 | true =>
  simp only [Bool.not_true, cond_false, nn (show maxLen + 41 ≤ k by omega) hw hv hs, Option.bind_some]
  rcases vg (s := s) hw hv with ⟨h1, h2⟩ | ⟨h1, h2⟩
  ·rw [h1, h2]
   rfl
  ·rw [h1]
   cases hb : gB b s with
   | none => rfl
   | some q =>
    obtain ⟨a, r⟩ := q
    cases r with
    | nil => exact absurd hb (h2 a)
    | cons c r => rfl
theorem AC {x : b8} {c : y4} (hok : A2 x = true) (h : B5 x c = true) : wfL (wfL o0) c := by
 have hs := T8 hok h
 exact ov (fun g hg => ⟨by have := (hs.2 g hg).1; omega, (hs.2 g hg).2⟩) (by have := hs.1; omega)
theorem tS : t6 tR := ⟨G3 (by decide), G3 (by decide), ⟨by simp [tR], fun g hg => by cases hg⟩, trivial⟩
theorem wq {b : a8} {s : Str} (hw : d8 b) : t6 (bq b s).1 := by
 unfold bq
 cases hv : valid b with
 | false => exact tS
 | true =>
  cases ho : okP b s with
  | false => exact tS
  | true =>
   obtain ⟨h1, _⟩ := pw hv ho
   obtain ⟨j, x, h⟩ := cb hw hv h1
   have hcl := bJ _ 0 h.codes
   show t6 (fZ b s)
   exact ⟨G3 (by have := h.name.2; omega), G3 (by omega), AC h.ok h.cond, trivial⟩
theorem qt {k : Nat} {a : b7} (hk : maxLen + 8 ≤ k) (ha : t6 a) : jl k a a = some true := by
 obtain ⟨k, rfl, hq⟩ := i9 (c := maxLen + 7) hk
 simp only [jl, beq_self_eq_true, cond_true, fN (show maxLen + 6 ≤ k by omega) ha.2.2.1, sN, Option.bind_some]
theorem oo {k : Nat} {a : b7} (hk : maxLen + 8 ≤ k) (ha : t6 a) : eU k a a = some true := by
 obtain ⟨k, rfl, hq⟩ := i9 (c := maxLen + 7) hk
 simp only [eU, beq_self_eq_true, cond_true, fQ (show maxLen + 3 ≤ k by omega) ha.2.2.1, sN, Option.bind_some]
theorem Bh {b : a8} {a : b7} (hw : d8 b) (h : (F4 b a).2 = 0) : bq b (F4 b a).1 = (a, 0) ∧ (F4 b a).1.length ≤ 2000 := by
 unfold F4 at h ⊢
 cases hv : valid b with
 | false => rw [hv] at h; cases h
 | true =>
  rw [hv] at h
  cases hr : bA b a with
  | false => rw [hr] at h; cases h
  | true =>
   simp only [Bool.not_true, cond_false]
   obtain ⟨h1, h2⟩ := qA hw hv hr
   refine ⟨by unfold bq; rw [hv, h2, h1]; rfl, ?_⟩
   obtain ⟨j, x, g⟩ := cb hw hv hr
   have hcl := bJ _ 0 g.codes
   have hwl := dZ (T8 g.ok g.cond)
   have hpl := aq g.name.2
   have e1 : (T7 a.fCodes).length ≤ 4 := by
    cases hc : a.fCodes with
    | nil => simp [T7]
    | cons c l => rw [hc] at hcl; simp only [T7, List.length_cons] at hcl ⊢; omega
   have e2 : (G9 a.fWhen).length ≤ 1026 := by
    cases hc : a.fWhen with
    | nil => simp [G9]
    | cons c l => rw [hc] at hwl; simp only [G9, List.length_cons, List.length_append, List.length_nil]; omega
   unfold V5
   simp only [List.length_append, hpl]
   omega
theorem Bi {b : a8} {s : Str} (hw : d8 b) (h : (bq b s).2 = 0) : F4 b (bq b s).1 = (s, 0) := by
 unfold bq at h ⊢
 cases hv : valid b with
 | false => rw [hv] at h; cases h
 | true =>
  rw [hv] at h
  cases ho : okP b s with
  | false => rw [ho] at h; cases h
  | true =>
   obtain ⟨h1, h2⟩ := pw hv ho
   simp only [Bool.not_true, cond_false, cond_true]
   unfold F4
   rw [hv, h1, h2]
   rfl
theorem kt (b : a8) (a : b7) (s : Str) (hb : d8 b) (ha : t6 a) (hs : wfS s) : ∃ k, X6 k b a s = some true := by
 have e63 := m0
 refine ⟨maxLen + 50, ?_⟩
 obtain ⟨r1, h1⟩ := tq (k := maxLen + 49) (by omega) hb
 obtain ⟨r2, h2⟩ := se (k := maxLen + 49) (l := [a]) (by omega) (aZ (by simp) (rD ha))
 have h5 := Ax (k := maxLen + 49) (by omega)
 show X6 (maxLen + 49 + 1) b a s = some true
 simp only [X6, h1, h2, h5, Option.bind_some]
 by_cases hl : (s.length : Int) > 1000
 ·have hd : decide ((s.length : Int) > 1000) = true := by simpa using hl
  rw [hd]
  cases r1 <;> cases r2 <;> rfl
 have hd : decide ((s.length : Int) > 1000) = false := by simpa using hl
 rw [hd]
 have hsl : s.length ≤ 100000 := by omega
 have p1 := V4 (k := maxLen + 49) (by omega) hb ha
 have p2 := mb (k := maxLen + 49) (by omega) hb ha
 have p3 := jk (k := maxLen + 49) (s := s) (by omega) hb hsl
 have p4 := nq (k := maxLen + 49) (s := s) (by omega) hb hsl
 have w3 := wq (s := s) hb
 have p5 := V4 (k := maxLen + 49) (by omega) hb w3
 simp only [p1, p2, p3, p4, p5, Option.bind_some, oo (show maxLen + 8 ≤ maxLen + 49 by omega) w3, beq_self_eq_true, bne_self_eq_false, Bool.not_true, cond_true, cond_false]
 have q1 : (F4 b a).2 == 0 → cf (maxLen + 49) b (F4 b a).1 = some (a, 0) := fun e => by
  obtain ⟨g1, g2⟩ := Bh hb (eq_of_beq e)
  rw [jk (by omega) hb (by omega), g1]
 have q2 : (bq b s).2 == 0 → F4 b (bq b s).1 = (s, 0) := fun e => Bi hb (eq_of_beq e)
 have w1 := qt (k := maxLen + 49) (by omega) ha
 generalize ((bq b s).2 == 0) = e2 at q2 ⊢
 generalize ((F4 b a).2 == 0) = e1 at q1 ⊢
 cases e1 with
 | false =>
  cases e2 with
  | false => cases r1 <;> cases r2 <;> rfl
  | true =>
   rw [q2 rfl]
   simp only [cond_true, cond_false, Option.bind_some, bne_self_eq_false, beq_self_eq_true, Bool.not_true]
   cases r1 <;> cases r2 <;> rfl
 | true =>
  rw [q1 rfl]
  simp only [cond_true, cond_false, Option.bind_some, bne_self_eq_false, w1, Bool.not_true]
  cases e2 with
  | false => cases r1 <;> cases r2 <;> rfl
  | true =>
   rw [q2 rfl]
   simp only [cond_true, cond_false, Option.bind_some, bne_self_eq_false, beq_self_eq_true, Bool.not_true]
   cases r1 <;> cases r2 <;> rfl
end Go.Sh

