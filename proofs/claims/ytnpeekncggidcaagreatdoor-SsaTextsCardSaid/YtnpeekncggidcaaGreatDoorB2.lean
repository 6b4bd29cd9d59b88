/- The functions as functions on lists, and what they come to: no program in sight. Conditions: those that each theorem names. -/
import Derived.Test.YtnpeekncggidcaaGreatDoorB1
namespace Go.Sh
open Go.AE
set_option linter.unusedVariables false
set_option linter.unusedSimpArgs false
def U9 (a : Nat) (c : UInt8) : Nat := if a = 0 ∧ c = 68 then 1 else if a ≤ 1 ∧ c = 76 then 2 else if a ≤ 2 ∧ c = 80 then 3 else 0
def D3 : Nat → Str → Bool
 | _, [] => true
 | a, c :: r => bif Nat.beq (U9 a c) 0 then false else D3 (U9 a c) r
theorem Ad (a : Nat) (c : UInt8) : U9 a c ≤ 3 := by
 unfold U9
 split
 ·omega
 ·split
  ·omega
  ·split <;> omega
theorem fD (a : Nat) (c : UInt8) : (U9 a c = 1 ∧ a = 0 ∧ c = 68) ∨ (U9 a c = 2 ∧ a ≤ 1 ∧ c = 76) ∨ (U9 a c = 3 ∧ a ≤ 2 ∧ c = 80) ∨ (U9 a c = 0 ∧ ¬ (a = 0 ∧ c = 68) ∧ ¬ (a ≤ 1 ∧ c = 76) ∧ ¬ (a ≤ 2 ∧ c = 80)) := by
 unfold U9
 by_cases h1 : a = 0 ∧ c = 68
 ·rw [if_pos h1]; exact .inl ⟨rfl, h1⟩
 ·rw [if_neg h1]
  by_cases h2 : a ≤ 1 ∧ c = 76
  ·rw [if_pos h2]; exact .inr (.inl ⟨rfl, h2⟩)
  ·rw [if_neg h2]
   by_cases h3 : a ≤ 2 ∧ c = 80
   ·rw [if_pos h3]; exact .inr (.inr (.inl ⟨rfl, h3⟩))
   ·rw [if_neg h3]; exact .inr (.inr (.inr ⟨rfl, h1, h2, h3⟩))
theorem Z3 {b c : UInt8} {l : Str} (h : c ≠ b) : gW (b :: l) c = if gW l c == -1 then -1 else gW l c + 1 := by
 rw [gW, if_neg]
 rw [beq_iff_eq]
 exact fun e => h e.symm
theorem sq {a : Nat} (ha : a ≤ 3) (c : UInt8) : ∃ l, cut ([68, 76, 80] : Str) (a : Int) 3 = some l ∧ gW l c = (if U9 a c = 0 then -1 else ((U9 a c : Int) - 1 - (a : Int))) := by
 have hn : gW [] c = -1 := rfl
 rcases (show a = 0 ∨ a = 1 ∨ a = 2 ∨ a = 3 by omega) with rfl | rfl | rfl | rfl
 ·refine ⟨[68, 76, 80], rfl, ?_⟩
  by_cases h1 : c = 68
  ·subst h1; rfl
  by_cases h2 : c = 76
  ·subst h2; rfl
  by_cases h3 : c = 80
  ·subst h3; rfl
  rw [Z3 h1, Z3 h2, Z3 h3, hn]
  simp [U9, h1, h2, h3]
 ·refine ⟨[76, 80], rfl, ?_⟩
  by_cases h2 : c = 76
  ·subst h2; rfl
  by_cases h3 : c = 80
  ·subst h3; rfl
  rw [Z3 h2, Z3 h3, hn]
  simp [U9, h2, h3]
 ·refine ⟨[80], rfl, ?_⟩
  by_cases h3 : c = 80
  ·subst h3; rfl
  rw [Z3 h3, hn]
  simp [U9, h3]
 ·refine ⟨[], rfl, ?_⟩
  rw [hn]
  simp [U9]
theorem fl {k : Nat} {s : Str} (hk : 1 ≤ k) (hs : s.length ≤ maxLen) : ∀ (d i a m : Nat), a ≤ 3 → i + d = s.length → d < m → J3 k s (fun _ _ => some true) m (a : Int) (i : Int) = some (D3 a (s.drop i))
 | 0, i, a, m, ha, hd, hm => by
  obtain ⟨m, rfl⟩ : ∃ q, m = q + 1 := ⟨m - 1, by omega⟩
  obtain rfl : i = s.length := by omega
  simp only [J3, show decide ((s.length : Int) < (s.length : Int)) = false by simp, cond_false, List.drop_length, D3]
 | d + 1, i, a, m, ha, hd, hm => by
  obtain ⟨m, rfl⟩ : ∃ q, m = q + 1 := ⟨m - 1, by omega⟩
  have hi : i < s.length := by omega
  obtain ⟨l, hl, hx⟩ := sq ha s[i]
  obtain ⟨k, rfl, _⟩ := i8 (c := 0) hk
  have e3 : ((([68, 76, 80] : Str).length : Nat) : Int) = 3 := rfl
  have e4 : ∀ l, strings_IndexByte (k + 1) l ((s[i].toNat : Nat) : Int) = some (gW l s[i]) := fun l => by
   show some (gW l (((s[i].toNat : Nat) : Int).toNat.toUInt8)) = _
   rw [Int.toNat_natCast, Nat.toUInt8_eq, UInt8.ofNat_toNat]
  simp only [J3, show decide ((i : Int) < (s.length : Int)) = true by simp; exact hi, cond_true, e3, hl, mc hi, e4, Option.bind_some, hx, m0 hi hs]
  rw [List.drop_eq_getElem_cons hi, D3]
  have hle := Ad a s[i]
  rcases fD a s[i] with ⟨h1, h2, _⟩ | ⟨h1, h2, _⟩ | ⟨h1, h2, _⟩ | ⟨h1, h2⟩ <;> rw [h1]
  ·subst h2
   exact fl (k := k + 1) hk hs d (i + 1) 1 m (by omega) (by omega) (by omega)
  ·rw [if_neg (by decide), decide_eq_false (by omega)]
   simp only [cond_false]
   rw [W6 (x := ((2 : Nat) : Int) - 1 - (a : Int) + 1) (by omega) (by omega), W6 (by omega) (by omega), show (a : Int) + (((2 : Nat) : Int) - 1 - (a : Int) + 1) = ((2 : Nat) : Int) by omega]
   exact fl (k := k + 1) hk hs d (i + 1) 2 m (by omega) (by omega) (by omega)
  ·rw [if_neg (by decide), decide_eq_false (by omega)]
   simp only [cond_false]
   rw [W6 (x := ((3 : Nat) : Int) - 1 - (a : Int) + 1) (by omega) (by omega), W6 (by omega) (by omega), show (a : Int) + (((3 : Nat) : Int) - 1 - (a : Int) + 1) = ((3 : Nat) : Int) by omega]
   exact fl (k := k + 1) hk hs d (i + 1) 3 m (by omega) (by omega) (by omega)
  ·rfl
theorem dm {k : Nat} {s : Str} (hk : maxLen + 3 ≤ k) (hs : s.length ≤ maxLen) : dM k s = some (D3 0 s) := by
 obtain ⟨k, rfl, hq⟩ := i8 (c := maxLen + 2) hk
 exact fl (k := k) (by omega) hs s.length 0 0 k (by omega) (by omega) (by omega)
theorem AQ (v : UInt8) (c : UInt8) : (((v.toNat : Nat) : Int) != ((c.toNat : Nat) : Int)) = !(c == v) := by
 by_cases h : c = v
 ·subst h; simp
 ·have h1 : v.toNat ≠ c.toNat := fun e => h (UInt8.toNat_inj.1 e.symm)
  have h2 : ((v.toNat : Nat) : Int) ≠ ((c.toNat : Nat) : Int) := by omega
  rw [bne_iff_ne.2 h2, beq_eq_false_iff_ne.2 h]; rfl
theorem pU {s : Str} {i : Nat} {K : Int → Option Bool} (hi : i < s.length) : ∀ (d a m : Nat), a + d = 3 → d < m → L8 s (i : Int) K m (a : Int) = K (if U9 a s[i] = 0 then 3 else (U9 a s[i] : Int) - 1)
 | 0, a, m, hd, hm => by
  obtain ⟨m, rfl⟩ : ∃ q, m = q + 1 := ⟨m - 1, by omega⟩
  obtain rfl : a = 3 := by omega
  have : U9 3 s[i] = 0 := by unfold U9; simp
  rw [this]
  rfl
 | d + 1, a, m, hd, hm => by
  obtain ⟨m, rfl⟩ : ∃ q, m = q + 1 := ⟨m - 1, by omega⟩
  have ih := pU (K := K) hi d (a + 1) m (by omega) (by omega)
  have hL : ∃ v : UInt8, J7 ([68, 76, 80] : Str) (a : Int) = some ((v.toNat : Nat) : Int) ∧ (s[i] = v → U9 a s[i] = a + 1) ∧ (s[i] ≠ v → U9 a s[i] = U9 (a + 1) s[i]) := by
   rcases (show a = 0 ∨ a = 1 ∨ a = 2 by omega) with rfl | rfl | rfl
   ·refine ⟨68, rfl, fun h => by rw [h]; rfl, fun h => ?_⟩
    unfold U9
    simp [h]
   ·refine ⟨76, rfl, fun h => by rw [h]; rfl, fun h => ?_⟩
    unfold U9
    simp [h]
   ·refine ⟨80, rfl, fun h => by rw [h]; rfl, fun h => ?_⟩
    unfold U9
    simp [h]
  obtain ⟨v, hv, h1, h2⟩ := hL
  simp only [L8, decide_eq_true (show (a : Int) < 3 by omega), cond_true, hv, mc hi, Option.bind_some, AQ]
  by_cases h : s[i] = v
  ·rw [beq_iff_eq.2 h, h1 h]
   simp only [Bool.not_true, cond_false]
   rw [if_neg (by omega)]
   congr 1
   omega
  ·rw [beq_eq_false_iff_ne.2 h, h2 h]
   simp only [Bool.not_false, cond_true]
   rw [W6 (by omega) (by omega), show (a : Int) + 1 = ((a + 1 : Nat) : Int) by omega]
   exact ih
theorem gJ {k : Nat} {s : Str} (hk : 4 ≤ k) (hs : s.length ≤ maxLen) : ∀ (d i a m : Nat), a ≤ 3 → i + d = s.length → d < m → H3 k s (fun _ _ => some true) m (a : Int) (i : Int) = some (D3 a (s.drop i))
 | 0, i, a, m, ha, hd, hm => by
  obtain ⟨m, rfl⟩ : ∃ q, m = q + 1 := ⟨m - 1, by omega⟩
  obtain rfl : i = s.length := by omega
  simp only [H3, show decide ((s.length : Int) < (s.length : Int)) = false by simp, cond_false, List.drop_length, D3]
 | d + 1, i, a, m, ha, hd, hm => by
  obtain ⟨m, rfl⟩ : ∃ q, m = q + 1 := ⟨m - 1, by omega⟩
  have hi : i < s.length := by omega
  simp only [H3, show decide ((i : Int) < (s.length : Int)) = true by simp; exact hi, cond_true, m0 hi hs]
  rw [pU hi (3 - a) a k (by omega) (by omega), List.drop_eq_getElem_cons hi, D3]
  rcases fD a s[i] with ⟨h1, _⟩ | ⟨h1, _⟩ | ⟨h1, _⟩ | ⟨h1, _⟩ <;> rw [h1]
  ·exact gJ hk hs d (i + 1) 1 m (by omega) (by omega) (by omega)
  ·exact gJ hk hs d (i + 1) 2 m (by omega) (by omega) (by omega)
  ·exact gJ hk hs d (i + 1) 3 m (by omega) (by omega) (by omega)
  ·rfl
theorem S0 {k : Nat} {s : Str} (hk : maxLen + 5 ≤ k) (hs : s.length ≤ maxLen) : aj k s = some (D3 0 s) := by
 obtain ⟨k, rfl, hq⟩ := i8 (c := maxLen + 4) hk
 exact gJ (k := k) (by omega) hs s.length 0 0 k (by omega) (by omega) (by omega)
def N7 (b : a8) (t : Int) (c : y5) : Bool × Int := bif s6 b [t] != 0 then (false, s6 b [t]) else match idx b.fTypes t with | some x => (B4 x c, 0) | none => (false, 0)
theorem uL {k : Nat} {b : a8} {t : Int} {c : y5} (hk : maxLen + 16 ≤ k) (hw : d8 b) (hc : wfL (wfL o0) c) : aT k b t c = some (N7 b t c) := by
 obtain ⟨k, rfl, hq⟩ := i8 (c := maxLen + 15) hk
 simp only [aT, N7, M1 (show maxLen + 13 ≤ k by omega) hw, Option.bind_some]
 by_cases h : s6 b [t] = 0
 ·obtain ⟨x, hx, hwx, _⟩ := aO hw h
  simp only [h, hx, bne_self_eq_false, cond_false, N4 (show maxLen + 13 ≤ k by omega) hwx.2.2.2.2.1.1 hc, Option.bind_some]
 ·have : (s6 b [t] != 0) = true := by simpa using h
  simp only [this, cond_true]
theorem td {k : Nat} {b : a8} {t : Int} {c : y5} (hk : maxLen + 16 ≤ k) (hw : d8 b) (hc : wfL (wfL o0) c) : aW k b t c = some (N7 b t c) := by
 obtain ⟨k, rfl, hq⟩ := i8 (c := maxLen + 15) hk
 simp only [aW, N7, V0 (show maxLen + 10 ≤ k by omega) hw, Option.bind_some]
 by_cases h : s6 b [t] = 0
 ·obtain ⟨x, hx, hwx, _⟩ := aO hw h
  simp only [h, hx, bne_self_eq_false, cond_false, w6 (show maxLen + 13 ≤ k by omega) hw hc h hx, Option.bind_some]
 ·have : (s6 b [t] != 0) = true := by simpa using h
  simp only [this, cond_true]
def sAJ : Str := [65, 74]
def sAC : Str := [65, 67]
def sAK : Str := [65, 75]
def sOK : Str := [32, 32]
def N9 (b : a8) (a : b8) : Int := (r8 b a.fSegment).1
def D5 (b : a8) (above : Int) (a : b8) : Str × Int :=
 bif !codesGo 0 a.fCodes then (sAJ, 0) else bif (r8 b a.fSegment).2 != 0 then (sAC, 0) else
  bif decide (above ≥ 0) && !(Z7 b above (N9 b a)).1 then (sAC, 0) else bif !(N7 b (N9 b a) a.fWhen).1 then (sAK, 0) else (sOK, N9 b a)
theorem fU {k : Nat} {b : a8} {above : Int} {a : b8} (hk : maxLen + 17 ≤ k) (hw : d8 b) (ha : s9 a) : eX k b above a = some (D5 b above a) := by
 obtain ⟨k, rfl, hq⟩ := i8 (c := maxLen + 16) hk
 have hc : a.fCodes.length ≤ maxLen := ha.2.1
 simp only [eX, D5, dm (show maxLen + 3 ≤ k by omega) hc, jO (show maxLen + 11 ≤ k by omega) hw, mJ (show maxLen + 11 ≤ k by omega) hw, uL hq hw ha.2.2.1, Option.bind_some, N9]
 cases D3 0 a.fCodes with
 | false => rfl
 | true =>
  cases (r8 b a.fSegment).2 != 0 with
  | true => rfl
  | false =>
   cases decide (above ≥ 0) with
   | false => cases (N7 b (r8 b a.fSegment).1 a.fWhen).1 <;> rfl
   | true => cases (Z7 b above (r8 b a.fSegment).1).1 <;> cases (N7 b (r8 b a.fSegment).1 a.fWhen).1 <;> rfl
theorem tA {b : a8} {a t : Int} (h : ((Z7 b a t).2 != 0) = true) : (Z7 b a t).1 = false := by
 unfold Z7 at h ⊢
 cases h1 : s6 b [a, t] != 0 with
 | true => rfl
 | false => rw [h1] at h; simp at h
theorem sX {b : a8} {t : Int} {c : y5} (h : ((N7 b t c).2 != 0) = true) : (N7 b t c).1 = false := by
 unfold N7 at h ⊢
 cases h1 : s6 b [t] != 0 with
 | true => rfl
 | false =>
  rw [h1] at h
  cases h2 : idx b.fTypes t with
  | none => rfl
  | some x => rw [h2] at h; simp at h
theorem dB {k : Nat} {b : a8} {above : Int} {a : b8} (hk : maxLen + 17 ≤ k) (hw : d8 b) (ha : s9 a) : Z6 k b above a = some (D5 b above a).1 := by
 obtain ⟨k, rfl, hq⟩ := i8 (c := maxLen + 16) hk
 have hc : a.fCodes.length ≤ maxLen := ha.2.1
 simp only [Z6, D5, S0 (show maxLen + 5 ≤ k by omega) hc, dq (show maxLen + 11 ≤ k by omega) hw, kM (show maxLen + 11 ≤ k by omega) hw, td hq hw ha.2.2.1, Option.bind_some, N9]
 have v1 := @sX b (r8 b a.fSegment).1 a.fWhen
 have v2 := @tA b above (r8 b a.fSegment).1
 cases D3 0 a.fCodes with
 | false => rfl
 | true =>
  cases (r8 b a.fSegment).2 != 0 with
  | true => rfl
  | false =>
   generalize (N7 b (r8 b a.fSegment).1 a.fWhen).1 = p at v1
   generalize ((N7 b (r8 b a.fSegment).1 a.fWhen).2 != 0) = q at v1
   generalize (Z7 b above (r8 b a.fSegment).1).1 = p2 at v2
   generalize ((Z7 b above (r8 b a.fSegment).1).2 != 0) = q2 at v2
   cases decide (above ≥ 0) <;> cases q <;> cases p <;> cases q2 <;> cases p2 <;> first | rfl | (exact absurd (v1 rfl) (by decide)) | (exact absurd (v2 rfl) (by decide))
theorem jc {b : a8} {above : Int} {a : b8} (h : ((D5 b above a).1 == sOK) = true) : (D5 b above a).2 = N9 b a := by
 unfold D5 at h ⊢
 revert h
 cases !codesGo 0 a.fCodes <;> cases (r8 b a.fSegment).2 != 0 <;> cases decide (above ≥ 0) && !(Z7 b above (N9 b a)).1 <;> cases !(N7 b (N9 b a) a.fWhen).1 <;> intro h <;> first | rfl | (exact Bool.noConfusion (show false = true from h))
def Y9 (b : a8) : Int → List Int → List b8 → Str × List Int
 | _, ts, [] => (sOK, ts)
 | above, ts, a :: r => bif !((D5 b above a).1 == sOK) then ((D5 b above a).1, []) else Y9 b (D5 b above a).2 (ts ++ [(D5 b above a).2]) r
def aG (b : a8) (l : List b8) : Str × List Int := bif decide ((l.length : Int) > 5) then (sAJ, []) else Y9 b (-1) [] l
theorem jM (b : a8) : ∀ (l : List b8) (above : Int) (ts : List Int), ((Y9 b above ts l).1 == sOK) = true → (Y9 b above ts l).2 = ts ++ l.map (N9 b)
 | [], above, ts, h => by simp [Y9]
 | a :: l, above, ts, h => by
  rw [Y9] at h ⊢
  cases hs : (D5 b above a).1 == sOK with
  | false => rw [hs] at h; simp only [Bool.not_false, cond_true] at h; rw [hs] at h; cases h
  | true =>
   rw [hs] at h
   simp only [Bool.not_true, cond_false] at h ⊢
   rw [jM b l _ _ h, jc hs]
   simp
theorem az {k : Nat} {b : a8} {l : List b8} (hk : maxLen + 17 ≤ k) (hw : d8 b) (hl : ∀ a ∈ l, s9 a) (hn : l.length ≤ 5) : ∀ (d i m : Nat) (above : Int) (ts : List Int), i + d = l.length → d < m → ts.length ≤ i →
  U2 k b l (fun _ y17 _ => some (([32, 32] : Str), y17)) m above ts (i : Int) = some (Y9 b above ts (l.drop i))
 | 0, i, m, above, ts, hd, hm, ht => by
  obtain ⟨m, rfl⟩ : ∃ q, m = q + 1 := ⟨m - 1, by omega⟩
  obtain rfl : i = l.length := by omega
  simp only [U2, show decide ((l.length : Int) < (l.length : Int)) = false by simp, cond_false, List.drop_length, Y9, sOK]
 | d + 1, i, m, above, ts, hd, hm, ht => by
  obtain ⟨m, rfl⟩ : ∃ q, m = q + 1 := ⟨m - 1, by omega⟩
  have hi : i < l.length := by omega
  simp only [U2, show decide ((i : Int) < (l.length : Int)) = true by simp; exact hi, cond_true, p6 hi, Option.bind_some, fU hk hw (hl _ (List.getElem_mem hi)), m0 hi (show l.length ≤ maxLen by rw [m8]; omega)]
  rw [List.drop_eq_getElem_cons hi, Y9]
  show (bif !((D5 b above l[i]).1 == sOK) then _ else _) = _
  cases (D5 b above l[i]).1 == sOK with
  | false => rfl
  | true =>
   simp only [Bool.not_true, cond_false]
   rw [bR (by simp only [List.length_cons, List.length_nil, l4]; omega), Option.bind_some]
   exact az hk hw hl hn d (i + 1) m _ _ (by omega) (by omega) (by simp; omega)
theorem gK {k : Nat} {b : a8} {l : List b8} (hk : maxLen + 18 ≤ k) (hw : d8 b) (hl : ∀ a ∈ l, s9 a) : fX k b l = some (aG b l) := by
 obtain ⟨k, rfl, hq⟩ := i8 (c := maxLen + 17) hk
 simp only [fX, aG]
 by_cases h : (l.length : Int) > 5
 ·rw [decide_eq_true h]; rfl
 ·rw [decide_eq_false h]
  exact az hq hw hl (by omega) l.length 0 k (-1) [] (by omega) (by omega) (by simp)
def chk (b : a8) (l : List b8) : Str × Int := bif !valid b then ([], 100) else ((aG b l).1, 0)
def cn (b : a8) (l : List b8) : List Int × Int := bif !valid b then ([], 100) else bif !((aG b l).1 == sOK) then ([], 2) else ((aG b l).2, 0)
theorem bt {k : Nat} {b : a8} {l : List b8} (hk : maxLen + 19 ≤ k) (hw : d8 b) (hl : ∀ a ∈ l, s9 a) : bN k b l = some (cn b l) := by
 obtain ⟨k, rfl, hq⟩ := i8 (c := maxLen + 18) hk
 simp only [bN, cn, mt (show maxLen + 9 ≤ k by omega) hw, gK hq hw hl, Option.bind_some]
 cases valid b with
 | false => rfl
 | true =>
  show (bif !((aG b l).1 == sOK) then _ else _) = _
  cases (aG b l).1 == sOK <;> rfl
theorem W4 {k : Nat} {b : a8} {l : List b8} (hk : maxLen + 17 ≤ k) (hw : d8 b) (hl : ∀ a ∈ l, s9 a) (hn : l.length ≤ 5) : ∀ (d i m : Nat) (above : Int) (ts : List Int), i + d = l.length → d < m →
  N3 k b l (fun _ _ => some (([32, 32] : Str), 0)) m above (i : Int) = some ((Y9 b above ts (l.drop i)).1, 0)
 | 0, i, m, above, ts, hd, hm => by
  obtain ⟨m, rfl⟩ : ∃ q, m = q + 1 := ⟨m - 1, by omega⟩
  obtain rfl : i = l.length := by omega
  simp only [N3, show decide ((l.length : Int) < (l.length : Int)) = false by simp, cond_false, List.drop_length, Y9, sOK]
 | d + 1, i, m, above, ts, hd, hm => by
  obtain ⟨m, rfl⟩ : ∃ q, m = q + 1 := ⟨m - 1, by omega⟩
  have hi : i < l.length := by omega
  simp only [N3, show decide ((i : Int) < (l.length : Int)) = true by simp; exact hi, cond_true, p6 hi, Option.bind_some, dB hk hw (hl _ (List.getElem_mem hi)), dq (show maxLen + 11 ≤ k by omega) hw, m0 hi (show l.length ≤ maxLen by rw [m8]; omega)]
  rw [List.drop_eq_getElem_cons hi, Y9]
  show (bif !((D5 b above l[i]).1 == sOK) then _ else _) = _
  cases hs : (D5 b above l[i]).1 == sOK with
  | false => rfl
  | true =>
   simp only [Bool.not_true, cond_false]
   rw [jc hs]
   exact W4 hk hw hl hn d (i + 1) m _ _ (by omega) (by omega)
theorem eD {k : Nat} {b : a8} {l : List b8} (hk : maxLen + 19 ≤ k) (hw : d8 b) (hl : ∀ a ∈ l, s9 a) : cx k b l = some (chk b l) := by
 obtain ⟨k, rfl, hq⟩ := i8 (c := maxLen + 18) hk
 simp only [cx, chk, aG, fE (show maxLen + 9 ≤ k by omega) hw, Option.bind_some]
 cases valid b with
 | false => rfl
 | true =>
  simp only [Bool.not_true, cond_false]
  by_cases h : (l.length : Int) > 5
  ·rw [decide_eq_true h]; rfl
  ·rw [decide_eq_false h]
   exact W4 (show maxLen + 17 ≤ k by omega) hw hl (by omega) l.length 0 k (-1) [] (by omega) (by omega)
theorem W5 {k : Nat} {b : a8} {l : List b8} (hk : maxLen + 11 ≤ k) (hw : d8 b) (hn : l.length ≤ 5) : ∀ (d i m : Nat) (ts : List Int), i + d = l.length → d < m → ts.length ≤ i →
  M9 k b l (fun y30 _ => some (y30, 0)) m ts (i : Int) = some (ts ++ (l.drop i).map (N9 b), 0)
 | 0, i, m, ts, hd, hm, ht => by
  obtain ⟨m, rfl⟩ : ∃ q, m = q + 1 := ⟨m - 1, by omega⟩
  obtain rfl : i = l.length := by omega
  simp only [M9, show decide ((l.length : Int) < (l.length : Int)) = false by simp, cond_false, List.drop_length, List.map_nil, List.append_nil]
 | d + 1, i, m, ts, hd, hm, ht => by
  obtain ⟨m, rfl⟩ : ∃ q, m = q + 1 := ⟨m - 1, by omega⟩
  have hi : i < l.length := by omega
  simp only [M9, show decide ((i : Int) < (l.length : Int)) = true by simp; exact hi, cond_true, p6 hi, Option.bind_some, dq hk hw, m0 hi (show l.length ≤ maxLen by rw [m8]; omega)]
  rw [bR (by simp only [List.length_cons, List.length_nil, l4]; omega), Option.bind_some, W5 hk hw hn d (i + 1) m _ (by omega) (by omega) (by simp; omega), List.drop_eq_getElem_cons hi, List.map_cons, List.append_assoc]
  rfl
theorem eo {k : Nat} {b : a8} {l : List b8} (hk : maxLen + 20 ≤ k) (hw : d8 b) (hl : ∀ a ∈ l, s9 a) : cS k b l = some (cn b l) := by
 obtain ⟨k, rfl, hq⟩ := i8 (c := maxLen + 19) hk
 simp only [cS, eD hq hw hl, Option.bind_some, chk, cn]
 cases valid b with
 | false => rfl
 | true =>
  simp only [Bool.not_true, cond_false, beq_self_eq_true, cond_true, bne_self_eq_false, Option.bind_some]
  show (bif !((aG b l).1 == sOK) then _ else _) = _
  cases hs : (aG b l).1 == sOK with
  | false => rfl
  | true =>
   simp only [Bool.not_true, cond_false]
   unfold aG at hs ⊢
   by_cases h : (l.length : Int) > 5
   ·rw [decide_eq_true h] at hs; exact Bool.noConfusion (show false = true from hs)
   ·rw [decide_eq_false h] at hs ⊢
    simp only [cond_false] at hs ⊢
    rw [jM b l _ _ hs]
    exact W5 (show maxLen + 11 ≤ k by omega) hw (by omega) l.length 0 k [] (by omega) (by omega) (by simp)
theorem rN {k : Nat} {l : List b8} (hk : maxLen + 4 ≤ k) (hl : wfL s9 l) : ∃ r, eQ k l = some r := by
 obtain ⟨k, rfl, hq⟩ := i8 (c := maxLen + 3) hk
 simp only [eQ]
 refine vK (L := fun m x => Q9 k l _ m x) (n := l.length) ?_ ?_ (by have := hl.1; omega)
 ·intro m i hi
  obtain ⟨r, hr⟩ := vd (k := k) (by omega) (hl.2 _ (List.getElem_mem hi)).2.2.1
  simp only [Q9, p6 hi, Option.bind_some, m0 hi hl.1, show decide ((i : Int) < (l.length : Int)) = true by simp; exact hi, cond_true, hr]
  cases decide (((l[i]).fSegment.length : Int) > 100) <;> cases decide (((l[i]).fCodes.length : Int) > 100) <;> cases r <;> first | exact .inl ⟨_, rfl⟩ | exact .inr rfl
 ·intro m
  simp only [Q9, show decide ((l.length : Int) < (l.length : Int)) = false by simp, cond_false]
  exact ⟨_, rfl⟩
def vw : b9 := { fName := [67, 85, 83, 84], fParent := (-1), fMin := 4, fSize := 10, fFields := [{ fName := [67, 85, 83, 84, 78, 79], fAt := 0, fBytes := 4 }], fKey := 0, fUnique := true, fLast := false }
def pT : b9 := { fName := [79, 82, 68, 69, 82], fParent := 0, fMin := 4, fSize := 8, fFields := [{ fName := [79, 82, 68, 78, 79], fAt := 0, fBytes := 4 }], fKey := 0, fUnique := false, fLast := false }
def aN : a8 := { fName := [83, 72, 79, 80], fKind := 4, fTypes := [vw, pT], fIndexes := [] }
def lO : b8 := { fSegment := [79, 82, 68, 69, 82], fCodes := [68], fWhen := [[{ fField := [79, 82, 68, 78, 79], fOp := 1, fValue := [48, 48, 48, 53] }]] }
def uu : b8 := { fSegment := [67, 85, 83, 84], fCodes := [], fWhen := [] }
theorem aR {α : Type} {p : α → Prop} {l : List α} (h : l.length ≤ 1000) (hp : ∀ x ∈ l, p x) : wfL p l := by
 have e63 := m8
 exact ⟨by omega, hp⟩
theorem tG {f : i4} (h1 : f.fName.length ≤ 1000) (h2 : -1000 ≤ f.fAt) (h3 : f.fAt ≤ 1000) (h4 : -1000 ≤ f.fBytes) (h5 : f.fBytes ≤ 1000) : bn f := ⟨G3 h1, L4 h2 h3, L4 h4 h5, trivial⟩
theorem wX : F0 vw := by
 refine ⟨G3 (by decide), L4 (by decide) (by decide), L4 (by decide) (by decide), L4 (by decide) (by decide), aR (by decide) (fun f hf => ?_), L4 (by decide) (by decide), trivial, trivial, trivial⟩
 obtain rfl : f = { fName := [67, 85, 83, 84, 78, 79], fAt := 0, fBytes := 4 } := by simpa [vw] using hf
 exact tG (by decide) (by decide) (by decide) (by decide) (by decide)
theorem Au : F0 pT := by
 refine ⟨G3 (by decide), L4 (by decide) (by decide), L4 (by decide) (by decide), L4 (by decide) (by decide), aR (by decide) (fun f hf => ?_), L4 (by decide) (by decide), trivial, trivial, trivial⟩
 obtain rfl : f = { fName := [79, 82, 68, 78, 79], fAt := 0, fBytes := 4 } := by simpa [pT] using hf
 exact tG (by decide) (by decide) (by decide) (by decide) (by decide)
theorem mO : d8 aN := by
 refine ⟨G3 (by decide), L4 (by decide) (by decide), aR (by decide) (fun t ht => ?_), aR (by decide) (fun x hx => by cases hx), trivial⟩
 rcases (by simpa [aN] using ht : t = vw ∨ t = pT) with rfl | rfl
 ·exact wX
 ·exact Au
theorem vz : s9 lO := by
 refine ⟨G3 (by decide), G3 (by decide), aR (by decide) (fun g hg => aR ?_ (fun t ht => ?_)), trivial⟩
 ·obtain rfl : g = [{ fField := [79, 82, 68, 78, 79], fOp := 1, fValue := [48, 48, 48, 53] }] := by simpa [lO] using hg
  decide
 ·obtain rfl : g = [{ fField := [79, 82, 68, 78, 79], fOp := 1, fValue := [48, 48, 48, 53] }] := by simpa [lO] using hg
  obtain rfl : t = { fField := [79, 82, 68, 78, 79], fOp := 1, fValue := [48, 48, 48, 53] } := by simpa using ht
  exact ⟨G3 (by decide), L4 (by decide) (by decide), G3 (by decide), trivial⟩
theorem Bf : s9 uu := ⟨G3 (by decide), G3 (by decide), aR (by decide) (fun g hg => by cases hg), trivial⟩
theorem LD : cn aN [lO] = ([1], 0) := by
 have : (cn aN [lO] == ([1], (0 : Int))) = true := by decide +kernel
 exact eq_of_beq this
theorem Kp : cn aN [uu] = ([0], 0) := by
 have : (cn aN [uu] == ([0], (0 : Int))) = true := by decide +kernel
 exact eq_of_beq this
theorem Bs : R8 aN 1 [lO.fWhen] = (pT, 0) := by
 have : (R8 aN 1 [lO.fWhen] == (pT, (0 : Int))) = true := by decide +kernel
 exact eq_of_beq this
theorem AU {k : Nat} (hk : maxLen + 30 ≤ k) : P8 k = some true := by
 have e63 := m8
 obtain ⟨k, rfl⟩ : ∃ q, k = q + 12 := ⟨k - 12, by omega⟩
 have hs : bK (k + 11) = some aN := rfl
 have t1 : bN (k + 10) aN [lO] = some ([1], 0) := by
  rw [bt (by omega) mO (fun a ha => by have e : a = lO := by simpa using ha
                             rw [e]; exact vz), LD]
 have t2 : bN (k + 10) aN [uu] = some ([0], 0) := by
  rw [bt (by omega) mO (fun a ha => by have e : a = uu := by simpa using ha
                             rw [e]; exact Bf), Kp]
 have hc : L5 (k + 9) aN 1 [lO.fWhen] = some (pT, 0) := by
  rw [R9 (by omega) mO (by simp) (fun c hc => by have e : c = lO.fWhen := by simpa using hc
                                      rw [e]; exact vz.2.2.1), Bs]
 have hm : G2 (k + 10) aN 1 lO.fWhen = some ([79, 82, 68, 78, 79, 32, 32, 32, 61, 32, 48, 48, 48, 53], 0) := by
  simp only [G2, hc, Option.bind_some]
  rfl
 have f1 : z7 (k + 11) aN lO = some ([79, 82, 68, 69, 82, 32, 32, 32, 42, 68, 40, 79, 82, 68, 78, 79, 32, 32, 32, 61, 32, 48, 48, 48, 53, 41], 0) := by
  simp only [z7, t1, Option.bind_some]
  have e : idx ([1] : List Int) 0 = some 1 := rfl
  simp only [e, Option.bind_some, hm]
  rfl
 have f2 : z7 (k + 11) aN uu = some ([67, 85, 83, 84, 32, 32, 32, 32, 32], 0) := by
  simp only [z7, t2, Option.bind_some]
  rfl
 unfold lO at f1
 unfold uu at f2
 simp only [P8, hs, f1, f2, Option.bind_some]
 rfl
end Go.Sh

namespace Go.Sh
open Go.AE
set_option linter.unusedVariables false
set_option linter.unusedSimpArgs false
theorem rJ {α : Type} {p : α → Prop} {a : α} (h : p a) : ∀ x ∈ [a], p x := fun x hx => by
 rw [List.mem_singleton] at hx
 rw [hx]; exact h
theorem qZ {t : b9} (ht : A2 t = true) : D6 t.fName = true := by
 unfold A2 at ht
 simp only [Bool.and_eq_true, Bool.not_eq_true', Bool.or_eq_false_iff, Bool.not_eq_false'] at ht
 exact ht.1.1
theorem sQ {s : Str} (h : D6 s = true) : 1 ≤ s.length ∧ s.length ≤ 8 := by
 unfold D6 at h
 simp only [Bool.and_eq_true, decide_eq_true_eq] at h
 omega
theorem bV : ∀ (s : Str) (a : Nat), D3 a s = true → s.length ≤ 3 - a
 | [], a, _ => by simp
 | c :: r, a, h => by
  rw [D3] at h
  rcases fD a c with ⟨h1, h2, _⟩ | ⟨h1, h2, _⟩ | ⟨h1, h2, _⟩ | ⟨h1, _⟩ <;> rw [h1] at h
  ·have := bV r 1 h; simp; omega
  ·have := bV r 2 h; simp; omega
  ·have := bV r 3 h; simp; omega
  ·cases h
theorem sm {b : a8} {above : Int} {a : b8} (hw : d8 b) (hv : valid b = true) (h : ((D5 b above a).1 == sOK) = true) :
  D3 0 a.fCodes = true ∧ (r8 b a.fSegment).2 = 0 ∧ (∃ x, idx b.fTypes (N9 b a) = some x ∧ A2 x = true ∧ x.fName = a.fSegment ∧ B4 x a.fWhen = true) ∧ 0 ≤ N9 b a ∧ N9 b a < (b.fTypes.length : Int) ∧ s6 b [N9 b a] = 0 ∧ (N7 b (N9 b a) a.fWhen).1 = true := by
 unfold D5 at h
 cases h1 : D3 0 a.fCodes with
 | false => rw [h1] at h; exact Bool.noConfusion (show false = true from h)
 | true =>
  cases h2 : (r8 b a.fSegment).2 != 0 with
  | true => rw [h1, h2] at h; exact Bool.noConfusion (show false = true from h)
  | false =>
   cases h3 : decide (above ≥ 0) && !(Z7 b above (N9 b a)).1 with
   | true => rw [h1, h2, h3] at h; exact Bool.noConfusion (show false = true from h)
   | false =>
    cases h4 : (N7 b (N9 b a) a.fWhen).1 with
    | false => rw [h1, h2, h3, h4] at h; exact Bool.noConfusion (show false = true from h)
    | true =>
     have e0 : (r8 b a.fSegment).2 = 0 := by simpa using h2
     have ha0 : s6 b [] = 0 := by unfold s6; rw [hv]; rfl
     have et : r8 b a.fSegment = dK (pos b.fTypes (fun t => t.fName == a.fSegment)) := by
      unfold r8
      rw [ha0]
      rfl
     rcases L7 b.fTypes (fun t => t.fName == a.fSegment) with ⟨_, hp⟩ | ⟨j, hj, hj2, _, hp⟩
     ·rw [et, hp] at e0; exact absurd e0 (by decide)
     ·have ei : N9 b a = (j : Int) := by
       unfold N9
       rw [et, hp]
       unfold dK
       rw [decide_eq_false (by omega)]
       rfl
      have hx : idx b.fTypes (N9 b a) = some b.fTypes[j] := by rw [ei]; exact p6 hj
      have hasked : s6 b [N9 b a] = 0 := by
       unfold s6
       rw [hv]
       simp only [Bool.not_true, cond_false, List.any_cons, List.any_nil, Bool.or_false, aA, ei, decide_eq_false (show ¬ ((j : Int) < 0) by omega), decide_eq_false (show ¬ ((j : Int) ≥ (b.fTypes.length : Int)) by omega)]
      refine ⟨rfl, e0, ⟨_, hx, ov hv hj, eq_of_beq hj2, ?_⟩, by omega, by omega, hasked, rfl⟩
      unfold N7 at h4
      rw [hasked, hx] at h4
      exact h4
end Go.Sh

namespace Go.Sh
open Go.AE
open Go.Lib (trimRightB)
set_option linter.unusedVariables false
set_option linter.unusedSimpArgs false
def P3 (x : b9) : Nat → Str → List a6 → y5 → Option (y5 × Str)
 | 0, _, _, _ => none
 | n + 1, s, g, out => match W7 x s with
  | none => none
  | some (t, r) => match r with
   | [] => some (out ++ [g ++ [t]], [])
   | c :: r => bif c == 38 then P3 x n r (g ++ [t]) out else bif c == 124 then P3 x n r [] (out ++ [g ++ [t]]) else some (out ++ [g ++ [t]], c :: r)
def uT (x : b9) : Option (y5 × Str) → y5 × Str × Bool
 | none => ([], [], false)
 | some r => (r.1, r.2, B4 x r.1)
theorem mM {k : Nat} {b : a8} {t : Int} {x : b9} (hk : maxLen + 13 ≤ k) (hw : d8 b) (ha : s6 b [t] = 0) (hi : idx b.fTypes t = some x) (hok : A2 x = true) (hx : x.fFields.length ≤ maxLen) :
  ∀ (n m : Nat) (s : Str) (g : List a6) (out : y5), s.length < n → n ≤ m → s.length + g.length + out.length ≤ 1000000 → qJ out → (∀ u ∈ g, W8 u) → M5 k b t m s g out = some (uT x (P3 x n s g out))
 | 0, m, s, g, out, h, _, _, _, _ => by omega
 | n + 1, m, s, g, out, h, hm, hb, ho, hg => by
  obtain ⟨m, rfl⟩ : ∃ q, m = q + 1 := ⟨m - 1, by omega⟩
  have e63 := m8
  simp only [M5, eU (show maxLen + 6 ≤ k by omega) hi hok hx (show s.length ≤ maxLen by omega), Option.bind_some]
  unfold P3
  cases hf : W7 x s with
  | none => rfl
  | some q =>
   obtain ⟨u, r⟩ := q
   obtain ⟨_, h2, h3⟩ := gE hok hf
   have hg' := rq hg (bj hok h2)
   have hgl : (g ++ [u]).length ≤ 1000000 := by rw [List.length_append, List.length_singleton]; omega
   have ho' := oW ho hgl hg'
   have hcond : B3 k b t (out ++ [g ++ [u]]) = some (B4 x (out ++ [g ++ [u]])) := w6 hk hw (ow ho' (by rw [List.length_append, List.length_singleton]; omega)) ha hi
   simp only [pX, Bool.not_true, cond_false]
   rw [bR (by simp only [List.length_singleton, l4]; omega)]
   simp only [Option.bind_some]
   cases r with
   | nil =>
    simp only [show (([] : Str) == ([] : Str)) = true by rfl, Bool.not_true, cond_false, cond_true, Option.bind_some]
    rw [bR (by simp only [List.length_singleton, l4]; omega)]
    simp only [Option.bind_some, hcond]
    rfl
   | cons a r =>
    simp only [List.length_cons] at h3
    simp only [show ((a :: r : Str) == ([] : Str)) = false by rfl, Bool.not_false, cond_false, cond_true, em, Option.bind_some, wP, ln]
    cases h38 : a == 38 with
    | true =>
     simp only [cond_true]
     exact mM hk hw ha hi hok hx n m r (g ++ [u]) out (by omega) (by omega) (by rw [List.length_append, List.length_singleton]; omega) ho hg'
    | false =>
     simp only [cond_false]
     rw [bR (by simp only [List.length_singleton, l4]; omega)]
     simp only [Option.bind_some]
     have hne : ((a.toNat : Int) != 124) = !(a == 124) := by rw [← vC]; rfl
     rw [hne]
     cases h124 : a == 124 with
     | true =>
      simp only [Bool.not_true, cond_false, cond_true]
      exact mM hk hw ha hi hok hx n m r [] (out ++ [g ++ [u]]) (by omega) (by omega) (by simp only [List.length_append, List.length_singleton, List.length_nil]; omega) ho' (by intro q hq; cases hq)
     | false =>
      simp only [Bool.not_false, cond_true, hcond, Option.bind_some, cond_false]
      rfl
theorem ni {k : Nat} {b : a8} {t : Int} {x : b9} {s : Str} (hk : maxLen + 14 ≤ k) (hw : d8 b) (ha : s6 b [t] = 0) (hi : idx b.fTypes t = some x) (hok : A2 x = true) (hx : x.fFields.length ≤ maxLen) (hs : s.length ≤ 100000) : P0 k b t s = some (uT x (P3 x (s.length + 1) s [] [])) := by
 have e63 := m8
 obtain ⟨k, rfl, hq⟩ := i8 (c := maxLen + 13) hk
 unfold P0
 exact mM hq hw ha hi hok hx _ k s [] [] (Nat.lt_succ_self _) (by omega) (by simp; omega) (by intro q hq; cases hq) (by intro q hq; cases hq)
def Ds (e : Str) : Prop := ∀ c r, e = c :: r → (c == 38) = false ∧ (c == 124) = false
theorem sr {x : b9} (hok : A2 x = true) {e : Str} (he : Ds e) : ∀ (cs : y5), (∀ h ∈ cs, h ≠ [] ∧ ∀ u ∈ h, S3 x u = true) → ∀ (ts : List a6) (t : a6) (n : Nat) (g : List a6) (out : y5), (∀ u ∈ t :: ts, S3 x u = true) → (E7 t ++ (O0 ts ++ (T4 cs ++ e))).length < n →
  P3 x n (E7 t ++ (O0 ts ++ (T4 cs ++ e))) g out = some (out ++ [g ++ t :: ts] ++ cs, e) := by
 intro cs
 induction cs with
 | nil =>
  intro _ ts
  induction ts with
  | nil =>
   intro t n g out ht hn
   obtain ⟨n, rfl⟩ : ∃ q, n = q + 1 := ⟨n - 1, by omega⟩
   unfold P3
   rw [X4 _ hok (ht t (by simp))]
   simp only [O0, T4, List.nil_append, List.append_nil]
   cases e with
   | nil => rfl
   | cons c r =>
    obtain ⟨h1, h2⟩ := he c r rfl
    simp only [h1, h2, cond_false]
  | cons u us ih =>
   intro t n g out ht hn
   obtain ⟨n, rfl⟩ : ∃ q, n = q + 1 := ⟨n - 1, by omega⟩
   unfold P3
   rw [X4 _ hok (ht t (by simp))]
   simp only [O0, List.cons_append, List.length_append, List.length_cons, show ((38 : UInt8) == 38) = true by rfl, cond_true] at hn ⊢
   rw [List.append_assoc, ih u n (g ++ [t]) out (fun v hv => ht v (List.mem_cons_of_mem _ hv)) (by simp only [List.length_append]; omega)]
   simp only [List.append_assoc, List.cons_append, List.nil_append]
 | cons h cs ihc =>
  intro hcs ts
  have hh := hcs h (by simp)
  have ihc := ihc (fun q hq => hcs q (by simp [hq]))
  induction ts with
  | nil =>
   intro t n g out ht hn
   obtain ⟨n, rfl⟩ : ∃ q, n = q + 1 := ⟨n - 1, by omega⟩
   unfold P3
   rw [X4 _ hok (ht t (by simp))]
   obtain ⟨v, vs, rfl⟩ : ∃ v vs, h = v :: vs := by
    cases h with
    | nil => exact absurd rfl hh.1
    | cons v vs => exact ⟨v, vs, rfl⟩
   simp only [O0, T4, List.nil_append, D0, List.cons_append, List.length_append, List.length_cons, show ((124 : UInt8) == 38) = false by rfl, show ((124 : UInt8) == 124) = true by rfl, cond_true, cond_false] at hn ⊢
   rw [List.append_assoc, List.append_assoc, ihc vs v n [] (out ++ [g ++ [t]]) hh.2 (by simp only [List.length_append]; omega)]
   simp only [List.append_assoc, List.cons_append, List.nil_append]
  | cons u us ih =>
   intro t n g out ht hn
   obtain ⟨n, rfl⟩ : ∃ q, n = q + 1 := ⟨n - 1, by omega⟩
   unfold P3
   rw [X4 _ hok (ht t (by simp))]
   simp only [O0, List.cons_append, List.length_append, List.length_cons, show ((38 : UInt8) == 38) = true by rfl, cond_true] at hn ⊢
   rw [List.append_assoc, ih u n (g ++ [t]) out (fun v hv => ht v (List.mem_cons_of_mem _ hv)) (by simp only [List.length_append]; omega)]
   simp only [List.append_assoc, List.cons_append, List.nil_append]
theorem kN {x : b9} (hok : A2 x = true) : ∀ (n : Nat) (s : Str) (g : List a6) (out c : y5) (e : Str), P3 x n s g out = some (c, e) → ∃ t ts cs, c = out ++ [g ++ t :: ts] ++ cs ∧ s = D0 (t :: ts) ++ (T4 cs ++ e)
 | 0, s, g, out, c, e, h => by cases h
 | n + 1, s, g, out, c, e, h => by
  unfold P3 at h
  cases hf : W7 x s with
  | none => rw [hf] at h; cases h
  | some q =>
   obtain ⟨t, r⟩ := q
   obtain ⟨h1, _, _⟩ := gE hok hf
   rw [hf] at h
   simp only at h
   cases r with
   | nil =>
    obtain ⟨rfl, rfl⟩ := Prod.mk.inj (Option.some.inj h)
    exact ⟨t, [], [], by simp, by rw [h1]; simp [D0, O0, T4]⟩
   | cons a r =>
    simp only at h
    cases h38 : a == 38 with
    | true =>
     rw [h38, cond_true] at h
     obtain ⟨t', ts, cs, e1, e2⟩ := kN hok n r _ out c e h
     refine ⟨t, t' :: ts, cs, by rw [e1]; simp, ?_⟩
     rw [h1, e2, eq_of_beq h38]
     simp [D0, O0]
    | false =>
     rw [h38, cond_false] at h
     cases h124 : a == 124 with
     | true =>
      rw [h124, cond_true] at h
      obtain ⟨t', ts, cs, e1, e2⟩ := kN hok n r [] _ c e h
      refine ⟨t, [], (t' :: ts) :: cs, by rw [e1]; simp, ?_⟩
      rw [h1, e2, eq_of_beq h124]
      simp [D0, O0, T4]
     | false =>
      rw [h124, cond_false] at h
      obtain ⟨rfl, rfl⟩ := Prod.mk.inj (Option.some.inj h)
      exact ⟨t, [], [], by simp, by rw [h1]; simp [D0, O0, T4]⟩
theorem ui {x : b9} (hok : A2 x = true) {c : y5} {e : Str} (hc : B4 x c = true) (hne : c ≠ []) (he : Ds e) (n : Nat) (hn : (R6 c ++ e).length < n) : P3 x n (R6 c ++ e) [] [] = some (c, e) := by
 have hgs := fQ hc
 cases hcc : c with
 | nil => exact absurd hcc hne
 | cons g cs =>
  rw [hcc] at hgs hn
  obtain ⟨v, vs, rfl⟩ : ∃ v vs, g = v :: vs := by
   cases g with
   | nil => exact absurd rfl (hgs [] (by simp)).1
   | cons v vs => exact ⟨v, vs, rfl⟩
  have e1 : R6 ((v :: vs) :: cs) ++ e = E7 v ++ (O0 vs ++ (T4 cs ++ e)) := by simp only [R6, D0, List.append_assoc]
  rw [e1] at hn ⊢
  rw [sr hok he cs (fun q hq => hgs q (by simp [hq])) vs v n [] [] (fun u hu => (hgs (v :: vs) (by simp)).2 u hu) hn]
  simp only [List.nil_append, List.singleton_append]
theorem oe {x : b9} (hok : A2 x = true) {n : Nat} {s e : Str} {c : y5} (h : P3 x n s [] [] = some (c, e)) : c ≠ [] ∧ s = R6 c ++ e := by
 obtain ⟨t, ts, cs, e1, e2⟩ := kN hok n s [] [] c e h
 simp only [List.nil_append, List.singleton_append] at e1
 subst e1
 exact ⟨by simp, by rw [e2]; simp only [R6, List.append_assoc]⟩
def T7 : Str → Str
 | [] => []
 | c :: r => 42 :: c :: r
def G9 : y5 → Str
 | [] => [32]
 | g :: r => 40 :: (R6 (g :: r) ++ [41])
def U8 (a : b8) : Str := ae a.fSegment ++ (T7 a.fCodes ++ G9 a.fWhen)
def bD (b : a8) (a : b8) : Bool := (D5 b (-1) a).1 == sOK
def F3 (b : a8) (a : b8) : Str × Int := bif !valid b then ([], 100) else bif !rightB b a then ([], 2) else (U8 a, 0)
theorem gg : ∀ (s : Str) (a : Nat), D3 a s = true → ∀ c ∈ s, c = 68 ∨ c = 76 ∨ c = 80
 | [], a, _, c, hc => by cases hc
 | d :: r, a, h, c, hc => by
  rw [D3] at h
  rcases fD a d with ⟨h1, h2, h3⟩ | ⟨h1, h2, h3⟩ | ⟨h1, h2, h3⟩ | ⟨h1, _⟩ <;> rw [h1] at h
  ·rcases List.mem_cons.1 hc with e | e
   ·exact .inl (e.trans h3)
   ·exact gg r 1 h c e
  ·rcases List.mem_cons.1 hc with e | e
   ·exact .inr (.inl (e.trans h3))
   ·exact gg r 2 h c e
  ·rcases List.mem_cons.1 hc with e | e
   ·exact .inr (.inr (e.trans h3))
   ·exact gg r 3 h c e
  ·cases h
theorem oE {p : UInt8 → Bool} {d : UInt8} {r : Str} (hd : p d = false) : ∀ l : Str, (∀ c ∈ l, p c = true) → (l ++ d :: r).takeWhile p = l ∧ (l ++ d :: r).dropWhile p = d :: r
 | [], _ => by simp [List.takeWhile_cons, List.dropWhile_cons, hd]
 | c :: l, h => by
  obtain ⟨h1, h2⟩ := oE hd l (fun q hq => h q (List.mem_cons_of_mem _ hq))
  have hc := h c (by simp)
  rw [List.cons_append, List.takeWhile_cons, List.dropWhile_cons, if_pos hc, if_pos hc, h1, h2]
  exact ⟨rfl, rfl⟩
theorem ke (w : y5) (r : Str) : ∃ d q, G9 w ++ r = d :: q ∧ (d = 32 ∨ d = 40) := by
 cases w with
 | nil => exact ⟨32, r, rfl, .inl rfl⟩
 | cons g c => exact ⟨40, R6 (g :: c) ++ [41] ++ r, rfl, .inr rfl⟩
theorem kG {b : a8} (hv : valid b = true) (nm : Str) : ((r8 b nm).2 != 0) = true ∨ ∃ j, ∃ hj : j < b.fTypes.length, r8 b nm = ((j : Int), 0) ∧ (b.fTypes[j]).fName = nm ∧ s6 b [(j : Int)] = 0 ∧ A2 b.fTypes[j] = true ∧ idx b.fTypes (j : Int) = some b.fTypes[j] := by
 have ha0 : s6 b [] = 0 := by unfold s6; rw [hv]; rfl
 have et : r8 b nm = dK (pos b.fTypes (fun t => t.fName == nm)) := by
  unfold r8
  rw [ha0]
  rfl
 rcases L7 b.fTypes (fun t => t.fName == nm) with ⟨_, hp⟩ | ⟨j, hj, hj2, _, hp⟩
 ·left
  rw [et, hp]
  rfl
 ·right
  have ei : r8 b nm = ((j : Int), 0) := by
   rw [et, hp]
   unfold dK
   rw [decide_eq_false (by omega)]
   rfl
  refine ⟨j, hj, ei, eq_of_beq hj2, ?_, ov hv hj, p6 hj⟩
  unfold s6
  rw [hv]
  simp only [Bool.not_true, cond_false, List.any_cons, List.any_nil, Bool.or_false, aA, decide_eq_false (show ¬ ((j : Int) < 0) by omega), decide_eq_false (show ¬ ((j : Int) ≥ (b.fTypes.length : Int)) by omega)]
theorem tu {b : a8} {a : b8} {j : Int} {x : b9} (h1 : D3 0 a.fCodes = true) (h2 : r8 b a.fSegment = (j, 0)) (h3 : s6 b [j] = 0) (h4 : idx b.fTypes j = some x) (h5 : B4 x a.fWhen = true) : bD b a = true := by
 have e : N9 b a = j := by unfold N9; rw [h2]
 have hv : (N7 b j a.fWhen).1 = true := by unfold N7; rw [h3, h4]; exact h5
 unfold bD D5
 rw [h1, h2, e, hv]
 rfl
structure aap (b : a8) (a : b8) (j : Int) (x : b9) : Prop where
 codes : D3 0 a.fCodes = true
 ty : r8 b a.fSegment = (j, 0)
 ask : s6 b [j] = 0
 ix : idx b.fTypes j = some x
 ok : A2 x = true
 name : D6 a.fSegment = true ∧ a.fSegment.length ≤ 8
 cond : B4 x a.fWhen = true
theorem cd {b : a8} {a : b8} (hw : d8 b) (hv : valid b = true) (h : bD b a = true) : ∃ j x, aap b a j x := by
 obtain ⟨h1, h2, ⟨x, hx, hok, hn, hco⟩, h4, h5, h6, h7⟩ := sm hw hv h
 have hnm := qZ hok
 have hnl := sQ hnm
 rw [hn] at hnm hnl
 exact ⟨N9 b a, x, h1, by unfold N9; rw [← h2], h6, hx, hok, ⟨hnm, hnl.2⟩, hco⟩
def fF (c : UInt8) : Bool := (c == 68) || ((c == 76) || (c == 80))
def F4 (c : UInt8) : Str → Bool
 | [] => false
 | d :: _ => d == c
def eP (r : Str) : Str × Str := bif F4 42 r then ((r.drop 1).takeWhile fF, (r.drop 1).dropWhile fF) else ([], r)
def zT (r : Str) : Str := (r.take (r.length - 1)).drop 1
def nN (b : a8) (t : Int) (r : Str) : y5 × Int := bif decide ((r.length : Int) > 2) && (F4 40 r && F4 41 r.reverse) then aD b t (zT r) else ([], 0)
def P7 (s : Str) : Str := trimRightB (s.take 8) 32
def gr (b : a8) (s : Str) : b8 := { fSegment := P7 s, fCodes := (eP (s.drop 8)).1, fWhen := (nN b (r8 b (P7 s)).1 (eP (s.drop 8)).2).1 }
def okP (b : a8) (s : Str) : Bool := decide (8 < s.length) && ((r8 b (P7 s)).2 == 0 && ((nN b (r8 b (P7 s)).1 (eP (s.drop 8)).2).2 == 0 && ((F3 b (gr b s)).2 == 0 && ((F3 b (gr b s)).1 == s))))
theorem uW (codes : Str) (w : y5) (h : D3 0 codes = true) : eP (T7 codes ++ G9 w) = (codes, G9 w) := by
 obtain ⟨d, q, e, hd⟩ := ke w []
 rw [List.append_nil] at e
 have hp : fF d = false := by rcases hd with rfl | rfl <;> rfl
 cases codes with
 | nil =>
  show eP (G9 w) = _
  unfold eP
  rw [e]
  have : F4 42 (d :: q) = false := by rcases hd with rfl | rfl <;> rfl
  rw [this]
  rfl
 | cons c r =>
  have ha : ∀ u ∈ c :: r, fF u = true := fun u hu => by
   rcases gg _ _ h u hu with rfl | rfl | rfl <;> rfl
  obtain ⟨h1, h2⟩ := oE (r := q) hp (c :: r) ha
  show (((c :: r) ++ G9 w).takeWhile fF, ((c :: r) ++ G9 w).dropWhile fF) = _
  rw [e, h1, h2]
theorem pY {a : b8} (h : D6 a.fSegment = true ∧ a.fSegment.length ≤ 8) (r : Str) : (U8 a ++ r).take 8 = ae a.fSegment ∧ P7 (U8 a ++ r) = a.fSegment ∧ (U8 a ++ r).drop 8 = T7 a.fCodes ++ (G9 a.fWhen ++ r) ∧ 8 < (U8 a ++ r).length := by
 have hpl := ao h.2
 have e : U8 a ++ r = ae a.fSegment ++ (T7 a.fCodes ++ (G9 a.fWhen ++ r)) := by simp only [U8, List.append_assoc]
 have h8 : (U8 a ++ r).take 8 = ae a.fSegment := by rw [e]; exact List.take_left' hpl
 refine ⟨h8, ?_, by rw [e]; exact List.drop_left' hpl, ?_⟩
 ·unfold P7
  rw [h8]
  exact mV h.1 _
 ·obtain ⟨d, q, e2, _⟩ := ke a.fWhen r
  rw [e, e2]
  simp only [List.length_append, List.length_cons, hpl]
  omega
theorem wK {x : b9} (hok : A2 x = true) {g : List a6} {c : y5} (h : B4 x (g :: c) = true) : 10 ≤ (R6 (g :: c)).length := by
 have hgs := fQ h
 cases g with
 | nil => exact absurd rfl (hgs [] (by simp)).1
 | cons v vs =>
  have hv := bj hok ((hgs (v :: vs) (by simp)).2 v (by simp))
  simp only [R6, D0, List.length_append, en hv]
  omega
theorem rv {b : a8} {a : b8} (hw : d8 b) (hv : valid b = true) (h : bD b a = true) : gr b (U8 a) = a ∧ okP b (U8 a) = true := by
 obtain ⟨j, x, hr⟩ := cd hw hv h
 obtain ⟨_, h1, h2, h3⟩ := pY hr.name []
 rw [List.append_nil] at h1 h2 h3
 rw [List.append_nil] at h2
 have hs := uW a.fCodes a.fWhen hr.codes
 have hp : nN b j (G9 a.fWhen) = (a.fWhen, 0) := by
  have hc := hr.cond
  cases hww : a.fWhen with
  | nil => rfl
  | cons g c =>
   rw [hww] at hc
   have hcl := wK hr.ok hc
   unfold nN
   have e1 : G9 (g :: c) = (40 :: R6 (g :: c)) ++ [41] := rfl
   have e2 : F4 41 (G9 (g :: c)).reverse = true := by rw [e1, List.reverse_append]; rfl
   have e3 : zT (G9 (g :: c)) = R6 (g :: c) := by
    unfold zT
    rw [e1, List.length_append, List.length_singleton, Nat.add_sub_cancel, List.take_left']
    ·rfl
    ·rfl
   have e4 : decide (((G9 (g :: c)).length : Int) > 2) = true := by
    rw [e1]
    simp only [List.length_append, List.length_cons, List.length_nil, decide_eq_true_eq]
    omega
   have e5 : F4 40 (G9 (g :: c)) = true := rfl
   rw [e2, e3, e4, e5]
   have hf : V2 b j (g :: c) = (R6 (g :: c), 0) := by
    unfold V2 R8
    simp only [hr.ask, hr.ix, bne_self_eq_false, cond_false, List.any_cons, List.any_nil, hc, Bool.not_true, Bool.or_false]
   have := (Jy (c := g :: c) (t := j) hw (by rw [hf])).1
   rw [hf] at this
   exact this
 have e : gr b (U8 a) = a := by
  unfold gr
  rw [h1, h2, hs, hr.ty]
  simp only [hp]
 refine ⟨e, ?_⟩
 unfold okP
 rw [e, h1, h2, hs, hr.ty]
 unfold F3
 rw [hv, h]
 simp only [h3, decide_true, hp, Bool.not_true, cond_false, beq_self_eq_true, Bool.and_true]
theorem oJ {b : a8} {s : Str} (hv : valid b = true) (h : okP b s = true) : bD b (gr b s) = true ∧ U8 (gr b s) = s := by
 unfold okP at h
 simp only [Bool.and_eq_true] at h
 obtain ⟨_, _, _, h1, h2⟩ := h
 unfold F3 at h1 h2
 rw [hv] at h1 h2
 cases hr : bD b (gr b s) with
 | false => rw [hr] at h1; cases h1
 | true => rw [hr] at h2; exact ⟨rfl, eq_of_beq h2⟩
def azL (c : UInt8) : Bool := decide ((c.toNat : Int) ≥ 65) && decide ((c.toNat : Int) ≤ 90)
def iV (r : Str) : Option (Str × Str) := bif F4 42 r then (bif ((r.drop 1).takeWhile azL == []) || (!codesGo 0 ((r.drop 1).takeWhile azL) || ((r.drop 1).dropWhile azL == [])) then none else some ((r.drop 1).takeWhile azL, (r.drop 1).dropWhile azL)) else some ([], r)
def oB (x : b9) (r : Str) : Option (y5 × Str) := bif F4 32 r then some ([], r.drop 1) else match P3 x ((r.drop 1).length + 1) (r.drop 1) [] [] with
 | none => none
 | some q => bif F4 40 r && (B4 x q.1 && F4 41 q.2) then some (q.1, q.2.drop 1) else none
def gH (b : a8) (s : Str) : Option (b8 × Str) := bif decide (s.length ≤ 8) then none else bif (r8 b (P7 s)).2 != 0 then none else match idx b.fTypes (r8 b (P7 s)).1 with
 | none => none
 | some x => (iV (s.drop 8)).bind fun q => (oB x q.2).map fun w => ({ fSegment := P7 s, fCodes := q.1, fWhen := w.1 }, w.2)
theorem uO {b : a8} {a : b8} (hw : d8 b) (hv : valid b = true) (h : bD b a = true) (r : Str) : gH b (U8 a ++ r) = some (a, r) := by
 obtain ⟨j, x, hr⟩ := cd hw hv h
 obtain ⟨_, h1, h2, h3⟩ := pY hr.name r
 have hc : iV (T7 a.fCodes ++ (G9 a.fWhen ++ r)) = some (a.fCodes, G9 a.fWhen ++ r) := by
  obtain ⟨d, q, e, hd⟩ := ke a.fWhen r
  have hp : azL d = false := by rcases hd with rfl | rfl <;> rfl
  have hcg := hr.codes
  cases hcc : a.fCodes with
  | nil =>
   show iV (G9 a.fWhen ++ r) = _
   unfold iV
   rw [e]
   have : F4 42 (d :: q) = false := by rcases hd with rfl | rfl <;> rfl
   rw [this]
   rfl
  | cons c l =>
   rw [hcc] at hcg
   have ha : ∀ u ∈ c :: l, azL u = true := fun u hu => by
    rcases gg _ _ hcg u hu with rfl | rfl | rfl <;> rfl
   obtain ⟨g1, g2⟩ := oE (r := q) hp (c :: l) ha
   have e42 : F4 42 (T7 (c :: l) ++ (G9 a.fWhen ++ r)) = true := rfl
   have ed : (T7 (c :: l) ++ (G9 a.fWhen ++ r)).drop 1 = (c :: l) ++ (G9 a.fWhen ++ r) := rfl
   unfold iV
   rw [e42, ed, e, g1, g2, hcg]
   rfl
 have hwn : oB x (G9 a.fWhen ++ r) = some (a.fWhen, r) := by
  have hco := hr.cond
  cases hww : a.fWhen with
  | nil => rfl
  | cons g c =>
   rw [hww] at hco
   have e1 : G9 (g :: c) ++ r = 40 :: (R6 (g :: c) ++ 41 :: r) := by simp [G9]
   have hb := ui hr.ok hco (by simp) (e := 41 :: r) (fun c' r' e' => by obtain ⟨rfl, _⟩ := List.cons.inj e'; exact ⟨rfl, rfl⟩) _ (Nat.lt_succ_self _)
   unfold oB
   rw [e1]
   have e32 : F4 32 (40 :: (R6 (g :: c) ++ 41 :: r)) = false := rfl
   have e40 : F4 40 (40 :: (R6 (g :: c) ++ 41 :: r)) = true := rfl
   rw [e32, e40]
   simp only [cond_false, List.drop_succ_cons, List.drop_zero, hb, hco, F4, beq_self_eq_true, Bool.and_true, cond_true]
 unfold gH
 rw [h1, h2, hr.ty, hc]
 have hd : decide ((U8 a ++ r).length ≤ 8) = false := by simp only [decide_eq_false_iff_not]; omega
 simp only [hd, bne_self_eq_false, cond_false, hr.ix, Option.bind_some, hwn, Option.map_some]
theorem fI {c : UInt8} {r : Str} (h : F4 c r = true) : r = c :: r.drop 1 := by
 cases r with
 | nil => cases h
 | cons d r => rw [eq_of_beq h]; rfl
theorem nP {b : a8} {s r : Str} {a : b8} (hv : valid b = true) (h : gH b s = some (a, r)) : bD b a = true ∧ s = U8 a ++ r := by
 unfold gH at h
 cases hl : decide (s.length ≤ 8) with
 | true => rw [hl] at h; cases h
 | false =>
  rw [hl, cond_false] at h
  have hlen : 8 < s.length := by simpa using hl
  rcases kG hv (P7 s) with he | ⟨j, hj, h1, h2, h3, h4, h5⟩
  ·rw [he] at h; cases h
  ·rw [h1] at h
   simp only [bne_self_eq_false, cond_false, h5] at h
   cases hc : iV (s.drop 8) with
   | none => rw [hc] at h; cases h
   | some q =>
    obtain ⟨cs, q⟩ := q
    rw [hc] at h
    simp only [Option.bind_some] at h
    cases hwn : oB b.fTypes[j] q with
    | none => rw [hwn] at h; cases h
    | some w =>
     obtain ⟨w, r'⟩ := w
     rw [hwn] at h
     simp only [Option.map_some] at h
     obtain ⟨rfl, rfl⟩ := Prod.mk.inj (Option.some.inj h)
     have hcs : s.drop 8 = T7 cs ++ q ∧ D3 0 cs = true := by
      unfold iV at hc
      cases h42 : F4 42 (s.drop 8) with
      | false =>
       rw [h42, cond_false] at hc
       obtain ⟨rfl, rfl⟩ := Prod.mk.inj (Option.some.inj hc)
       exact ⟨rfl, rfl⟩
      | true =>
       rw [h42, cond_true] at hc
       have hd := fI h42
       generalize (s.drop 8).drop 1 = u at hc hd
       cases hno : (u.takeWhile azL == []) || (!codesGo 0 (u.takeWhile azL) || (u.dropWhile azL == [])) with
       | true => rw [hno] at hc; cases hc
       | false =>
        rw [hno, cond_false] at hc
        obtain ⟨rfl, rfl⟩ := Prod.mk.inj (Option.some.inj hc)
        simp only [Bool.or_eq_false_iff, Bool.not_eq_false'] at hno
        obtain ⟨n1, n2, _⟩ := hno
        refine ⟨?_, n2⟩
        rw [hd]
        cases ht : u.takeWhile azL with
        | nil => rw [ht] at n1; cases n1
        | cons c l =>
         show _ = 42 :: (c :: l ++ u.dropWhile azL)
         rw [← ht, List.takeWhile_append_dropWhile]
     have hws : q = G9 w ++ r' ∧ B4 b.fTypes[j] w = true := by
      unfold oB at hwn
      cases h32 : F4 32 q with
      | true =>
       rw [h32, cond_true] at hwn
       obtain ⟨rfl, rfl⟩ := Prod.mk.inj (Option.some.inj hwn)
       exact ⟨fI h32, rfl⟩
      | false =>
       rw [h32, cond_false] at hwn
       cases hb : P3 b.fTypes[j] ((q.drop 1).length + 1) (q.drop 1) [] [] with
       | none => rw [hb] at hwn; cases hwn
       | some p =>
        obtain ⟨c, e⟩ := p
        rw [hb] at hwn
        simp only at hwn
        cases hall : F4 40 q && (B4 b.fTypes[j] c && F4 41 e) with
        | false => rw [hall] at hwn; cases hwn
        | true =>
         rw [hall, cond_true] at hwn
         obtain ⟨rfl, rfl⟩ := Prod.mk.inj (Option.some.inj hwn)
         simp only [Bool.and_eq_true] at hall
         obtain ⟨h40, hco, h41⟩ := hall
         obtain ⟨hne, hs⟩ := oe h4 hb
         refine ⟨?_, hco⟩
         rw [fI h40, hs]
         cases c with
         | nil => exact absurd rfl hne
         | cons g c =>
          rw [G9, List.cons_append, List.append_assoc, List.singleton_append, ← fI h41]
     refine ⟨tu hcs.2 h1 h3 h5 hws.2, ?_⟩
     have h8 : (s.take 8).length = 8 := by rw [List.length_take]; omega
     unfold U8
     simp only
     rw [show ae (P7 s) = s.take 8 from ny h8, List.append_assoc, List.append_assoc, ← hws.1, ← hcs.1, List.take_append_drop]
theorem ud {b : a8} {s : Str} (hw : d8 b) (hv : valid b = true) : (okP b s = true ∧ gH b s = some (gr b s, [])) ∨ (okP b s = false ∧ ∀ a, gH b s ≠ some (a, [])) := by
 cases h : okP b s with
 | true =>
  obtain ⟨h1, h2⟩ := oJ hv h
  have := uO hw hv h1 []
  rw [List.append_nil, h2] at this
  exact .inl ⟨rfl, this⟩
 | false =>
  refine .inr ⟨rfl, fun a ha => ?_⟩
  obtain ⟨h1, h2⟩ := nP hv ha
  rw [List.append_nil] at h2
  have := (rv hw hv h1).2
  rw [← h2, h] at this
  cases this
end Go.Sh

namespace Go.Sh
open Go.AE
open Go.Lib (trimRightB)
set_option linter.unusedVariables false
set_option linter.unusedSimpArgs false
def sV : b8 := { fSegment := [], fCodes := [], fWhen := [] }
theorem rc (b : a8) (a : b8) : cn b [a] = bif !valid b then ([], 100) else bif !rightB b a then ([], 2) else ([N9 b a], 0) := by
 unfold cn aG bD
 cases valid b with
 | false => rfl
 | true =>
  have hd : decide ((([a] : List b8).length : Int) > 5) = false := rfl
  rw [hd]
  simp only [Bool.not_true, cond_false, Y9]
  cases h : (D5 b (-1) a).1 == sOK with
  | false => simp only [Bool.not_false, cond_true, h]
  | true =>
   have := jc h
   simp only [Bool.not_true, cond_false, this, List.nil_append]
   rfl
theorem U6 {k : Nat} {b : a8} {a : b8} (hk : maxLen + 40 ≤ k) (hw : d8 b) (ha : s9 a) : z7 k b a = some (F3 b a) := by
 have e63 := m8
 obtain ⟨k, rfl, hq⟩ := i8 (c := maxLen + 39) hk
 simp only [z7, bt (show maxLen + 19 ≤ k by omega) hw (rJ ha), rc, Option.bind_some, F3]
 cases hv : valid b with
 | false => rfl
 | true =>
  cases hr : bD b a with
  | false => rfl
  | true =>
   obtain ⟨j, x, h⟩ := cd hw hv hr
   have hcl := bV a.fCodes 0 h.codes
   have hti : N9 b a = j := by unfold N9; rw [h.ty]
   have hwl := eb (T6 h.ok h.cond)
   have hpl := ao h.name.2
   have hf : G2 k b j a.fWhen = some (R6 a.fWhen, 0) := by
    rw [me (by omega) hw ha.2.2.1]
    unfold V2 R8
    simp only [h.ask, h.ix, bne_self_eq_false, cond_false, List.any_cons, List.any_nil, h.cond, Bool.not_true, Bool.or_false]
   have hrep : strings_Repeat k [32] (Go.IntKind.wrap .i64 (8 - (a.fSegment.length : Int))) = some (List.replicate (8 - a.fSegment.length) 32) := by
    obtain ⟨k, rfl, _⟩ := i8 (show 0 + 1 ≤ k by omega)
    exact tf h.name.2
   have hp : a.fSegment ++ List.replicate (8 - a.fSegment.length) 32 = ae a.fSegment := rfl
   have hi : idx [j] 0 = some j := rfl
   simp only [Bool.not_true, cond_false, bne_self_eq_false, hrep, Option.bind_some, hti]
   rw [w9 (by rw [List.length_replicate]; simp only [l4]; have := h.name.2; omega), Option.bind_some, hp]
   cases hcc : a.fCodes with
   | nil =>
    simp only [show (!(([] : Str) == ([] : Str))) = false by rfl, cond_false]
    cases hww : a.fWhen with
    | nil =>
     simp only [show ((([] : y5).length : Int) == 0) = true by rfl, cond_true]
     rw [w9 (by simp only [List.length_singleton, l4]; omega)]
     simp only [Option.bind_some, U8, hcc, hww, T7, G9, List.nil_append]
    | cons g r =>
     rw [hww] at hf hwl
     simp only [show (((g :: r : y5).length : Int) == 0) = false by simp only [List.length_cons, beq_eq_false_iff_ne]; omega, cond_false, hi, Option.bind_some, hf, bne_self_eq_false]
     rw [w9 (by simp only [List.length_singleton, l4]; omega), Option.bind_some, w9 (by simp only [List.length_append, List.length_singleton, l4]; omega), Option.bind_some, w9 (by simp only [List.length_append, List.length_singleton, l4]; omega)]
     simp only [Option.bind_some, U8, hcc, hww, T7, G9, List.nil_append, List.append_assoc, List.singleton_append, List.cons_append]
   | cons c l =>
    rw [hcc] at hcl
    simp only [show (!((c :: l : Str) == ([] : Str))) = true by rfl, cond_true]
    rw [w9 (by simp only [List.length_singleton, l4]; omega), Option.bind_some, w9 (by simp only [List.length_append, List.length_singleton, l4]; omega), Option.bind_some]
    cases hww : a.fWhen with
    | nil =>
     simp only [show ((([] : y5).length : Int) == 0) = true by rfl, cond_true]
     rw [w9 (by simp only [List.length_append, List.length_singleton, l4]; omega)]
     simp only [Option.bind_some, U8, hcc, hww, T7, G9, List.nil_append, List.append_assoc, List.singleton_append, List.cons_append]
    | cons g r =>
     rw [hww] at hf hwl
     simp only [show (((g :: r : y5).length : Int) == 0) = false by simp only [List.length_cons, beq_eq_false_iff_ne]; omega, cond_false, hi, Option.bind_some, hf, bne_self_eq_false]
     rw [w9 (by simp only [List.length_append, List.length_singleton, l4]; omega), Option.bind_some, w9 (by simp only [List.length_append, List.length_singleton, l4]; omega), Option.bind_some, w9 (by simp only [List.length_append, List.length_singleton, l4]; omega)]
     simp only [Option.bind_some, U8, hcc, hww, T7, G9, List.nil_append, List.append_assoc, List.singleton_append, List.cons_append]
theorem lh {k : Nat} {b : a8} {a : b8} (hk : maxLen + 40 ≤ k) (hw : d8 b) (ha : s9 a) : bs k b a = some (F3 b a) := by
 have e63 := m8
 obtain ⟨k, rfl, hq⟩ := i8 (c := maxLen + 39) hk
 simp only [bs, eo (show maxLen + 20 ≤ k by omega) hw (rJ ha), rc, Option.bind_some, F3]
 cases hv : valid b with
 | false => rfl
 | true =>
  cases hr : bD b a with
  | false => rfl
  | true =>
   obtain ⟨j, x, h⟩ := cd hw hv hr
   have hcl := bV a.fCodes 0 h.codes
   have hti : N9 b a = j := by unfold N9; rw [h.ty]
   have hwl := eb (T6 h.ok h.cond)
   have hpl := ao h.name.2
   have hf : K5 k b j a.fWhen = some (R6 a.fWhen, 0) := by
    rw [lY (by omega) hw ha.2.2.1]
    unfold V2 R8
    simp only [h.ask, h.ix, bne_self_eq_false, cond_false, List.any_cons, List.any_nil, h.cond, Bool.not_true, Bool.or_false]
   have hi : idx [j] 0 = some j := rfl
   simp only [Bool.not_true, cond_false, bne_self_eq_false, w4 (show 10 ≤ k by omega) (show a.fSegment.length ≤ 1000000 by have := h.name.2; omega), Option.bind_some, hti]
   cases hcc : a.fCodes with
   | nil =>
    simp only [show (!(([] : Str) == ([] : Str))) = false by rfl, cond_false]
    cases hww : a.fWhen with
    | nil =>
     simp only [show ((([] : y5).length : Int) == 0) = true by rfl, cond_true]
     rw [w9 (by simp only [List.length_singleton, l4]; omega)]
     simp only [Option.bind_some, U8, hcc, hww, T7, G9, List.nil_append]
    | cons g r =>
     rw [hww] at hf hwl
     simp only [show (((g :: r : y5).length : Int) == 0) = false by simp only [List.length_cons, beq_eq_false_iff_ne]; omega, cond_false, hi, Option.bind_some, hf]
     rw [w9 (by simp only [List.length_singleton, l4]; omega), Option.bind_some, w9 (by simp only [List.length_append, List.length_singleton, l4]; omega), Option.bind_some, w9 (by simp only [List.length_append, List.length_singleton, l4]; omega)]
     simp only [Option.bind_some, U8, hcc, hww, T7, G9, List.nil_append, List.append_assoc, List.singleton_append, List.cons_append]
   | cons c l =>
    rw [hcc] at hcl
    simp only [show (!((c :: l : Str) == ([] : Str))) = true by rfl, cond_true]
    rw [w9 (by simp only [List.length_singleton, l4]; omega), Option.bind_some, w9 (by simp only [List.length_append, List.length_singleton, l4]; omega), Option.bind_some]
    cases hww : a.fWhen with
    | nil =>
     simp only [show ((([] : y5).length : Int) == 0) = true by rfl, cond_true]
     rw [w9 (by simp only [List.length_append, List.length_singleton, l4]; omega)]
     simp only [Option.bind_some, U8, hcc, hww, T7, G9, List.nil_append, List.append_assoc, List.singleton_append, List.cons_append]
    | cons g r =>
     rw [hww] at hf hwl
     simp only [show (((g :: r : y5).length : Int) == 0) = false by simp only [List.length_cons, beq_eq_false_iff_ne]; omega, cond_false, hi, Option.bind_some, hf]
     rw [w9 (by simp only [List.length_append, List.length_singleton, l4]; omega), Option.bind_some, w9 (by simp only [List.length_append, List.length_singleton, l4]; omega), Option.bind_some, w9 (by simp only [List.length_append, List.length_singleton, l4]; omega)]
     simp only [Option.bind_some, U8, hcc, hww, T7, G9, List.nil_append, List.append_assoc, List.singleton_append, List.cons_append]
theorem vJ (p : UInt8 → Bool) (r : Str) : r.take (r.takeWhile p).length = r.takeWhile p ∧ r.drop (r.takeWhile p).length = r.dropWhile p := by
 have h := List.takeWhile_append_dropWhile (p := p) (l := r)
 constructor
 ·conv => lhs; rw [← h]
  exact List.take_left' (by rw [h])
 ·conv => lhs; rw [← h]
  exact List.drop_left' (by rw [h])
theorem qP {c : UInt8} {r : Str} (n : Nat) (hc : c.toNat = n) (h : 0 < r.length) : ((J7 r 0).bind fun v => some (v == (n : Int))) = some (F4 c r) := by
 subst hc
 cases r with
 | nil => cases h
 | cons d r =>
  rw [em, Option.bind_some, nF]
  rfl
theorem xF {β : Type} {L : Nat → Int → β} {K : Int → β} {l : Str} {p : UInt8 → Bool} (hl : l.length ≤ 1000000)
  (hs : ∀ m (i : Nat) (h : i < l.length), L (m + 1) (i : Int) = bif p l[i] then L m ((i + 1 : Nat) : Int) else K (i : Int)) (he : ∀ m, L (m + 1) (l.length : Int) = K (l.length : Int)) :
  ∀ (d i m : Nat), i + d = l.length → d < m → L m (i : Int) = K ((i + ((l.drop i).takeWhile p).length : Nat) : Int)
 | 0, i, m, hd, hm => by
  obtain ⟨m, rfl⟩ : ∃ q, m = q + 1 := ⟨m - 1, by omega⟩
  obtain rfl : i = l.length := by omega
  rw [he, List.drop_length]
  rfl
 | d + 1, i, m, hd, hm => by
  obtain ⟨m, rfl⟩ : ∃ q, m = q + 1 := ⟨m - 1, by omega⟩
  have hi : i < l.length := by omega
  rw [hs m i hi, List.drop_eq_getElem_cons hi, List.takeWhile_cons]
  cases hp : p l[i] with
  | false => simp
  | true =>
   rw [cond_true, xF hl hs he d (i + 1) m (by omega) (by omega), if_pos rfl, List.length_cons]
   congr 2
   omega
theorem uy (c : UInt8) : decide (gW [68, 76, 80] c ≥ 0) = fF c := by
 have hn : gW [] c = -1 := rfl
 by_cases h1 : c = 68
 ·subst h1; rfl
 by_cases h2 : c = 76
 ·subst h2; rfl
 by_cases h3 : c = 80
 ·subst h3; rfl
 rw [Z3 h1, Z3 h2, Z3 h3, hn]
 unfold fF
 rw [beq_eq_false_iff_ne.2 h1, beq_eq_false_iff_ne.2 h2, beq_eq_false_iff_ne.2 h3]
 rfl
theorem vg (c : UInt8) : ((c.toNat : Int)).toNat.toUInt8 = c := by
 rw [Int.toNat_natCast]
 exact UInt8.ofNat_toNat
theorem wu {k : Nat} {o : Str} {K : Int → Option (b8 × Bool)} (hk : 1 ≤ k) (hl : o.length ≤ 1000000) {m : Nat} (h1 : 1 ≤ o.length) (hm : o.length < m) : P9 k o K m 1 = K (((1 + ((o.drop 1).takeWhile fF).length : Nat)) : Int) := by
 have e63 := m8
 obtain ⟨k, rfl, _⟩ := i8 (show 0 + 1 ≤ k by omega)
 refine xF (L := fun m i => P9 (k + 1) o K m i) (p := fF) hl ?_ ?_ (o.length - 1) 1 m (by omega) (by omega)
 ·intro m i hi
  have hx : strings_IndexByte (k + 1) [68, 76, 80] ((o[i]).toNat : Int) = some (gW [68, 76, 80] o[i]) := by
   show some (gW [68, 76, 80] ((o[i]).toNat : Int).toNat.toUInt8) = _
   rw [vg]
  simp only [P9, show decide ((i : Int) < (o.length : Int)) = true by simp; omega, cond_true, mc hi, Option.bind_some, hx, uy, m0 hi (by omega)]
 ·intro m
  simp only [P9, show decide ((o.length : Int) < (o.length : Int)) = false by simp, cond_false, Option.bind_some]
theorem zb {o : Str} {K : Int → Option (b8 × Str × Bool)} (hl : o.length ≤ 1000000) {m : Nat} (h1 : 1 ≤ o.length) (hm : o.length < m) : I1 o K m 1 = K (((1 + ((o.drop 1).takeWhile azL).length : Nat)) : Int) := by
 have e63 := m8
 refine xF (L := fun m i => I1 o K m i) (p := azL) hl ?_ ?_ (o.length - 1) 1 m (by omega) (by omega)
 ·intro m i hi
  simp only [I1, show decide ((i : Int) < (o.length : Int)) = true by simp; omega, cond_true, mc hi, Option.bind_some, m0 hi (by omega)]
  unfold azL
  cases decide (((o[i]).toNat : Int) ≥ 65) <;> cases decide (((o[i]).toNat : Int) ≤ 90) <;> rfl
 ·intro m
  simp only [I1, show decide ((o.length : Int) < (o.length : Int)) = false by simp, cond_false, Option.bind_some]
def qA (k : Nat) (b : a8) (s : Str) (a : b8) (r : Str) : Option (b8 × Bool) :=
 (((cw k b a.fSegment).bind fun v20 => (some (v20.1, v20.2))).bind fun o21 =>
      (bif (o21.2 != 0) then (some (({ fSegment := [], fCodes := [], fWhen := ([] : List (List a6)) } : b8), false)) else
      ((bif (decide ((r.length : Int) > 2)) then ((J7 r 0).bind fun v22 => (bif (v22 == 40) then ((J7 r (Go.IntKind.wrap .i64 ((r.length : Int) - 1))).bind fun v23 => (some ((v23 == 41)))) else (some (false)))) else (some (false))).bind fun o24 =>
       (bif o24 then (((cut r 1 (Go.IntKind.wrap .i64 ((r.length : Int) - 1))).bind fun v25 => ((Q2 k b o21.1 v25).bind fun v26 => (some (v26.2, { a with fWhen := v26.1 })))).bind fun o27 =>
        (bif (o27.1 != 0) then (some (({ fSegment := [], fCodes := [], fWhen := ([] : List (List a6)) } : b8), false)) else
        (((z7 k b o27.2).bind fun v28 => (some (v28.2, v28.1))).bind fun o29 =>
         ((bif (o29.1 == 0) then (some ((o29.2 == s), o27.2)) else (some (false, o27.2))).bind fun o30 =>
         (some (o30.2, o30.1)))))) else
        (((z7 k b a).bind fun v31 => (some (v31.2, v31.1))).bind fun o32 =>
         ((bif (o32.1 == 0) then (some ((o32.2 == s), a)) else (some (false, a))).bind fun o33 =>
         (some (o33.2, o33.1))))))))
def pm (b : a8) (n cs r : Str) : b8 := { fSegment := n, fCodes := cs, fWhen := (nN b (r8 b n).1 r).1 }
def wV (b : a8) (s n cs r : Str) : Bool := (r8 b n).2 == 0 && ((nN b (r8 b n).1 r).2 == 0 && ((F3 b (pm b n cs r)).2 == 0 && ((F3 b (pm b n cs r)).1 == s)))
theorem xO {r : Str} (h : 2 < r.length) : ∃ c m d, r = c :: (m ++ [d]) := by
 cases r with
 | nil => simp at h
 | cons c q =>
  rcases List.eq_nil_or_concat q with e | ⟨m, d, e⟩
  ·subst e; simp at h
  ·exact ⟨c, m, d, by rw [e]; simp⟩
theorem lz {k : Nat} {b : a8} {s n cs r : Str} (hk : maxLen + 40 ≤ k) (hw : d8 b) (hn : n.length ≤ 1000) (hcs : cs.length ≤ 100000) (hr : r.length ≤ 100000) :
  ∃ a, qA k b s { fSegment := n, fCodes := cs, fWhen := [] } r = some (a, wV b s n cs r) ∧ (wV b s n cs r = true → a = pm b n cs r) := by
 have e63 := m8
 unfold qA wV pm
 simp only [jO (show maxLen + 11 ≤ k by omega) hw, Option.bind_some]
 have hnil : wfL (wfL o0) ([] : y5) := ⟨by simp, fun g hg => by cases hg⟩
 have hne : ((r8 b n).2 != 0) = !((r8 b n).2 == 0) := rfl
 rw [hne]
 generalize he : ((r8 b n).2 == 0) = e
 cases e with
 | false => exact ⟨_, rfl, fun h => by cases h⟩
 | true =>
  simp only [Bool.not_true, cond_false, Bool.true_and]
  by_cases hl : 2 < r.length
  ·obtain ⟨c, m, d, rfl⟩ := xO hl
   have hlen : (c :: (m ++ [d])).length = m.length + 2 := by simp
   have hd : decide ((((c :: (m ++ [d])) : Str).length : Int) > 2) = true := by rw [hlen, decide_eq_true_eq]; rw [hlen] at hl; omega
   have hwr : Go.IntKind.wrap .i64 ((((c :: (m ++ [d])) : Str).length : Int) - 1) = ((m.length + 1 : Nat) : Int) := by
    rw [hlen, W6 (by omega) (by rw [hlen] at hr; omega)]
    omega
   have hlast : J7 (c :: (m ++ [d])) ((m.length + 1 : Nat) : Int) = some (d.toNat : Int) := by
    unfold J7
    rw [if_pos (by omega), Int.toNat_natCast, List.getElem?_cons_succ, List.getElem?_append_right (Nat.le_refl _), Nat.sub_self]
    rfl
   have hcut : cut (c :: (m ++ [d])) 1 ((m.length + 1 : Nat) : Int) = some m := by
    have := dW (l := c :: (m ++ [d])) (i := 1) (j := m.length + 1) (by omega) (by rw [hlen]; omega)
    rw [show ((1 : Nat) : Int) = 1 by rfl] at this
    rw [this, List.take_succ_cons, List.drop_succ_cons, List.drop_zero, List.take_left]
   have hmid : zT (c :: (m ++ [d])) = m := by
    unfold zT
    rw [hlen, show m.length + 2 - 1 = m.length + 1 by omega, List.take_succ_cons, List.drop_succ_cons, List.drop_zero, List.take_left]
   have h40 : F4 40 (c :: (m ++ [d])) = (c == 40) := rfl
   have h41 : F4 41 (c :: (m ++ [d])).reverse = (d == 41) := by
    rw [List.reverse_cons, List.reverse_append, List.reverse_singleton]
    rfl
   have b40 : ((c.toNat : Int) == 40) = (c == 40) := nF c 40
   have b41 : ((d.toNat : Int) == 41) = (d == 41) := nF d 41
   unfold nN
   rw [hd, h40, h41, hmid]
   simp only [cond_true, em, Option.bind_some, b40, hwr, hlast, b41, hcut, Bool.true_and]
   have main : ∀ u : y5 × Int, u.2 = 0 ∨ True → True := fun _ _ => trivial
   cases c == 40 <;> cases d == 41
   all_goals simp only [cond_true, cond_false, Option.bind_some, Bool.and_true, Bool.and_false, Bool.true_and, Bool.false_and]
   all_goals first
    | (rw [mI (show maxLen + 20 ≤ k by omega) hw (show m.length ≤ 100000 by rw [hlen] at hr; omega)]
      have hpw := xH (t := (r8 b n).1) (s := m) hw (by rw [hlen] at hr; omega)
      simp only [Option.bind_some, U6 (a := { fSegment := n, fCodes := cs, fWhen := (aD b (r8 b n).1 m).1 }) hk hw ⟨by show n.length ≤ maxLen; omega, by show cs.length ≤ maxLen; omega, hpw, trivial⟩]
      have hne2 : ((aD b (r8 b n).1 m).2 != 0) = !((aD b (r8 b n).1 m).2 == 0) := rfl
      rw [hne2]
      cases (aD b (r8 b n).1 m).2 == 0 with
      | false => exact ⟨_, rfl, fun h => by cases h⟩
      | true =>
       simp only [Bool.not_true, cond_false, Bool.true_and]
       cases (F3 b { fSegment := n, fCodes := cs, fWhen := (aD b (r8 b n).1 m).1 }).2 == 0 with
       | false => exact ⟨_, rfl, fun h => by cases h⟩
       | true => exact ⟨_, rfl, fun _ => rfl⟩)
    | (simp only [U6 (a := { fSegment := n, fCodes := cs, fWhen := [] }) hk hw ⟨by show n.length ≤ maxLen; omega, by show cs.length ≤ maxLen; omega, hnil, trivial⟩, Option.bind_some, beq_self_eq_true, Bool.true_and]
      cases (F3 b { fSegment := n, fCodes := cs, fWhen := [] }).2 == 0 with
      | false => exact ⟨_, rfl, fun h => by cases h⟩
      | true => exact ⟨_, rfl, fun _ => rfl⟩)
  ·have hd : decide ((r.length : Int) > 2) = false := by simp only [decide_eq_false_iff_not]; omega
   unfold nN
   rw [hd]
   simp only [cond_false, Option.bind_some, Bool.false_and, U6 (a := { fSegment := n, fCodes := cs, fWhen := [] }) hk hw ⟨by show n.length ≤ maxLen; omega, by show cs.length ≤ maxLen; omega, hnil, trivial⟩, beq_self_eq_true, Bool.true_and]
   cases (F3 b { fSegment := n, fCodes := cs, fWhen := [] }).2 == 0 with
   | false => exact ⟨_, rfl, fun h => by cases h⟩
   | true => exact ⟨_, rfl, fun _ => rfl⟩
theorem oZ {k : Nat} {b : a8} {s : Str} (hk : maxLen + 41 ≤ k) (hw : d8 b) (hs : s.length ≤ 100000) : ∃ a, gv k b s = some (a, okP b s) ∧ (okP b s = true → a = gr b s) := by
 have e63 := m8
 obtain ⟨k, rfl, hq⟩ := i8 (c := maxLen + 40) hk
 simp only [gv]
 by_cases h8 : s.length ≤ 8
 ·have hd : decide ((s.length : Int) ≤ 8) = true := by rw [decide_eq_true_eq]; omega
  have hf : okP b s = false := by
   unfold okP
   rw [decide_eq_false (show ¬ 8 < s.length by omega)]
   rfl
  rw [hd, hf]
  exact ⟨_, rfl, fun h => by cases h⟩
 have hd : decide ((s.length : Int) ≤ 8) = false := by rw [decide_eq_false_iff_not]; omega
 have hcut : cut s 0 8 = some (s.take 8) := by
  have := dW (l := s) (i := 0) (j := 8) (by omega) (by omega)
  simpa using this
 have htrim : F8 k (s.take 8) [32] = some (P7 s) := by
  obtain ⟨k, rfl, _⟩ := i8 (show 0 + 1 ≤ k by omega)
  simp only [F8, qS]
  rw [if_pos ⟨by decide, by rw [List.length_take]; omega⟩]
  rfl
 have hcut8 : cut s 8 (s.length : Int) = some (s.drop 8) := cU (i := 8) (by omega)
 have hdl : (s.drop 8).length = s.length - 8 := List.length_drop
 have hnl : (P7 s).length ≤ 1000 := by
  obtain ⟨m, hm⟩ := js 32 _ (s.take 8) rfl
  have : (s.take 8).length = (P7 s).length + m := by
   conv => lhs; rw [hm]
   rw [List.length_append, List.length_replicate]
   rfl
  rw [List.length_take] at this
  omega
 simp only [hd, cond_false, hcut, Option.bind_some, htrim, hcut8]
 have e42 : ((J7 (s.drop 8) 0).bind fun v6 => some (v6 == 42)) = some (F4 42 (s.drop 8)) := qP (c := 42) 42 rfl (by omega)
 rw [e42]
 simp only [Option.bind_some]
 have hok : okP b s = wV b s (P7 s) (eP (s.drop 8)).1 (eP (s.drop 8)).2 := by
  unfold okP wV
  rw [decide_eq_true (show 8 < s.length by omega)]
  rfl
 have hca : gr b s = pm b (P7 s) (eP (s.drop 8)).1 (eP (s.drop 8)).2 := rfl
 rw [hok, hca]
 unfold eP
 cases h42 : F4 42 (s.drop 8) with
 | false =>
  simp only [cond_false]
  exact lz (by omega) hw hnl (by simp) (by omega)
 | true =>
  simp only [cond_true]
  rw [wu (by omega) (by omega) (by omega) (by omega)]
  obtain ⟨t1, t2⟩ := vJ fF ((s.drop 8).drop 1)
  generalize hw1 : ((s.drop 8).drop 1).takeWhile fF = tw at t1 t2 ⊢
  generalize hw2 : ((s.drop 8).drop 1).dropWhile fF = dw at t2 ⊢
  have htl : tw.length + dw.length = s.length - 9 := by
   have := congrArg List.length (List.takeWhile_append_dropWhile (p := fF) (l := (s.drop 8).drop 1))
   rw [List.length_append, hw1, hw2, List.length_drop, hdl] at this
   omega
  have c1 : cut (s.drop 8) 1 ((1 + tw.length : Nat) : Int) = some tw := by
   have := dW (l := s.drop 8) (i := 1) (j := 1 + tw.length) (by omega) (by omega)
   rw [show ((1 : Nat) : Int) = 1 by rfl] at this
   rw [this, List.drop_take, show 1 + tw.length - 1 = tw.length by omega, t1]
  have c2 : cut (s.drop 8) ((1 + tw.length : Nat) : Int) ((s.drop 8).length : Int) = some dw := by
   rw [cU (by omega), ← List.drop_drop, t2]
  simp only [c1, c2, Option.bind_some]
  exact lz (by omega) hw hnl (by omega) (by omega)
end Go.Sh

namespace Go.Sh
open Go.AE
open Go.Lib (trimRightB)
set_option linter.unusedVariables false
set_option linter.unusedSimpArgs false
section
variable {β : Type} {L : Nat → Int → Int → β} {K : Int → Int → β} {n : Nat} {hit : Nat → Bool}
theorem vu (hs : ∀ m (i : Nat) x, i < n → L (m + 1) x (i : Int) = bif hit i then L m (i : Int) ((i + 1 : Nat) : Int) else L m x ((i + 1 : Nat) : Int)) (he : ∀ m x, L (m + 1) x (n : Int) = K x (n : Int)) :
  ∀ (d i m : Nat) (x : Int), i + d = n → d < m → (∀ q, i ≤ q → q < n → hit q = false) → L m x (i : Int) = K x (n : Int)
 | 0, i, m, x, hd, hm, _ => by
  obtain ⟨m, rfl⟩ : ∃ q, m = q + 1 := ⟨m - 1, by omega⟩
  obtain rfl : i = n := by omega
  exact he m x
 | d + 1, i, m, x, hd, hm, h => by
  obtain ⟨m, rfl⟩ : ∃ q, m = q + 1 := ⟨m - 1, by omega⟩
  rw [hs m i x (by omega), h i (Nat.le_refl i) (by omega), cond_false]
  exact vu hs he d (i + 1) m x (by omega) (by omega) (fun q h1 h2 => h q (by omega) h2)
theorem xk (hs : ∀ m (i : Nat) x, i < n → L (m + 1) x (i : Int) = bif hit i then L m (i : Int) ((i + 1 : Nat) : Int) else L m x ((i + 1 : Nat) : Int)) (he : ∀ m x, L (m + 1) x (n : Int) = K x (n : Int)) {j : Nat} (hj : j < n) (hh : hit j = true) (ho : ∀ q, q < n → q ≠ j → hit q = false) :
  ∀ (d i m : Nat) (x : Int), i + d = n → d < m → i ≤ j → L m x (i : Int) = K (j : Int) (n : Int)
 | 0, i, m, x, hd, hm, hi => by omega
 | d + 1, i, m, x, hd, hm, hi => by
  obtain ⟨m, rfl⟩ : ∃ q, m = q + 1 := ⟨m - 1, by omega⟩
  rw [hs m i x (by omega)]
  by_cases e : i = j
  ·subst e
   rw [hh, cond_true]
   exact vu hs he d (i + 1) m _ (by omega) (by omega) (fun q h1 h2 => ho q h2 (by omega))
  ·rw [ho i (by omega) e, cond_false]
   exact xk hs he hj hh ho d (i + 1) m x (by omega) (by omega) (by omega)
end
theorem tz {b : a8} (hv : valid b = true) {i j : Nat} (hi : i < b.fTypes.length) (hj : j < b.fTypes.length) (hne : i ≠ j) : (b.fTypes[i]).fName ≠ (b.fTypes[j]).fName := by
 have key : ∀ p q (hp : p < b.fTypes.length) (hq : q < b.fTypes.length), p < q → (b.fTypes[p]).fName ≠ (b.fTypes[q]).fName := by
  intro p q hp hq hpq e
  have hv' := hv
  unfold valid fq at hv'
  simp only [Bool.and_eq_true, Bool.not_eq_true'] at hv'
  have := U1.1 hv'.2.2.2.1.2 q hq
  rw [aE, u7 hq] at this
  simp only [Bool.or_eq_false_iff] at this
  have hd := this.1.2
  rw [fK, u7 hq, List.any_eq_false] at hd
  exact hd b.fTypes[p] (by rw [List.mem_take_iff_getElem]; exact ⟨p, by omega, rfl⟩) (by rw [e, beq_self_eq_true])
 rcases Nat.lt_or_ge i j with h | h
 ·exact key i j hi hj h
 ·exact fun e => key j i hj hi (by omega) e.symm
theorem xC {k : Nat} {b : a8} {s : Str} {K : Int → Int → Option (b8 × Str × Bool)} {m : Nat} (hk : 10 ≤ k) (hv : valid b = true) (hl : b.fTypes.length ≤ maxLen) (hs : s.length ≤ 100000) (hm : b.fTypes.length < m) :
  u3 k b s K m (-1) 0 = K (bif decide (8 < s.length) && ((r8 b (P7 s)).2 == 0) then (r8 b (P7 s)).1 else -1) (b.fTypes.length : Int) := by
 have e63 := m8
 have step : ∀ m (i : Nat) x, i < b.fTypes.length → u3 k b s K (m + 1) x (i : Int) = bif (decide (8 < s.length) && at' b.fTypes (fun t => t.fName == P7 s) i) then u3 k b s K m (i : Int) ((i + 1 : Nat) : Int) else u3 k b s K m x ((i + 1 : Nat) : Int) := by
  intro m i x hi
  have hno := qZ (ov hv hi)
  have hnl := sQ hno
  simp only [u3, show decide ((i : Int) < (b.fTypes.length : Int)) = true by simp; omega, cond_true, p6 hi, Option.bind_some, w4 hk (show (b.fTypes[i]).fName.length ≤ 1000000 by omega), m0 hi hl, u7 hi]
  by_cases h8 : 8 < s.length
  ·have d1 : decide ((s.length : Int) > 8) = true := by rw [decide_eq_true_eq]; omega
   have hcut : cut s 0 8 = some (s.take 8) := by
    have := dW (l := s) (i := 0) (j := 8) (by omega) (by omega)
    simpa using this
   rw [d1, decide_eq_true h8]
   simp only [cond_true, hcut, Option.bind_some, Bool.true_and, tx hno hnl.2 (show (s.take 8).length = 8 by rw [List.length_take]; omega)]
   rfl
  ·have d1 : decide ((s.length : Int) > 8) = false := by rw [decide_eq_false_iff_not]; omega
   rw [d1, decide_eq_false h8]
   rfl
 have fin : ∀ m x, u3 k b s K (m + 1) x (b.fTypes.length : Int) = K x (b.fTypes.length : Int) := by
  intro m x
  simp only [u3, show decide ((b.fTypes.length : Int) < (b.fTypes.length : Int)) = false by simp, cond_false]
 by_cases h8 : 8 < s.length
 ·rcases kG hv (P7 s) with he | ⟨j, hj, h1, h2, _⟩
  ·have hz : ((r8 b (P7 s)).2 == 0) = false := by
    have : ((r8 b (P7 s)).2 != 0) = !((r8 b (P7 s)).2 == 0) := rfl
    rw [this] at he
    simpa using he
   rw [hz, Bool.and_false, cond_false]
   refine vu (L := fun m x i => u3 k b s K m x i) step fin b.fTypes.length 0 m (-1) (by omega) hm (fun q _ hq => ?_)
   rw [u7 hq]
   cases hc : (b.fTypes[q]).fName == P7 s with
   | false => simp
   | true =>
    exfalso
    have ha0 : s6 b [] = 0 := by unfold s6; rw [hv]; rfl
    unfold r8 at hz
    rw [ha0] at hz
    rcases L7 b.fTypes (fun t => t.fName == P7 s) with ⟨hn, _⟩ | ⟨j, hj, _, _, hp⟩
    ·rw [hn q hq] at hc; cases hc
    ·rw [hp] at hz
     unfold dK at hz
     rw [decide_eq_false (show ¬ ((j : Int) < 0) by omega)] at hz
     cases hz
  ·rw [h1, decide_eq_true h8]
   simp only [beq_self_eq_true, Bool.and_self, cond_true]
   refine xk (L := fun m x i => u3 k b s K m x i) step fin hj ?_ (fun q hq hne => ?_) b.fTypes.length 0 m (-1) (by omega) hm (Nat.zero_le _)
   ·rw [u7 hj, h2, decide_eq_true h8, beq_self_eq_true]
    rfl
   ·rw [u7 hq]
    have := tz hv hq hj hne
    rw [h2] at this
    rw [beq_eq_false_iff_ne.2 this, Bool.and_false]
 ·rw [decide_eq_false h8, Bool.false_and, cond_false]
  refine vu (L := fun m x i => u3 k b s K m x i) step fin b.fTypes.length 0 m (-1) (by omega) hm (fun q _ hq => ?_)
  rw [decide_eq_false h8, Bool.false_and]
def qz (k : Nat) (b : a8) (y : Int) (o : b8) (r : Str) : Option (b8 × Str × Bool) :=
 (((J7 r 0).bind fun v47 => (some ((v47 == 32)))).bind fun o48 =>
      (bif o48 then (((cut r 1 (r.length : Int)).bind fun v49 => (some (v49, true, o))).bind fun o50 =>
       (some (o50.2.2, o50.1, o50.2.1))) else
      (((cut r 1 (r.length : Int)).bind fun v51 => ((P0 k b y v51).bind fun v52 => (some (v52.1, v52.2.1, v52.2.2)))).bind fun o53 =>
       (((J7 r 0).bind fun v54 => (bif (v54 != 40) then (some (true)) else (bif (!o53.2.2) then (some (true)) else (bif (o53.2.1 == ([] : Str)) then (some (true)) else ((J7 o53.2.1 0).bind fun v55 => (some ((v55 != 41)))))))).bind fun o56 =>
       (bif o56 then (some (({ fSegment := [], fCodes := [], fWhen := ([] : List (List a6)) } : b8), ([] : Str), false)) else
       (((cut o53.2.1 1 (o53.2.1.length : Int)).bind fun v57 => (some (v57, true, { o with fWhen := o53.1 }))).bind fun o58 =>
        (some (o58.2.2, o58.1, o58.2.1))))))))
def Rr : Option (b8 × Str) → b8 × Str × Bool
 | none => (sV, [], false)
 | some q => (q.1, q.2, true)
theorem la {k : Nat} {b : a8} {t : Int} {x : b9} {n cs r : Str} (hk : maxLen + 14 ≤ k) (hw : d8 b) (ha : s6 b [t] = 0) (hi : idx b.fTypes t = some x) (hok : A2 x = true) (hx : x.fFields.length ≤ maxLen) (hr : r.length ≤ 100000) (h0 : 0 < r.length) :
  qz k b t { fSegment := n, fCodes := cs, fWhen := [] } r = some (Rr ((oB x r).map fun w => ({ fSegment := n, fCodes := cs, fWhen := w.1 }, w.2))) := by
 cases r with
 | nil => cases h0
 | cons d q =>
  simp only [List.length_cons] at hr
  have b32 : ((d.toNat : Int) == 32) = (d == 32) := nF d 32
  have b40 : ((d.toNat : Int) != 40) = !(d == 40) := by
   have : ((d.toNat : Int) == 40) = (d == 40) := nF d 40
   rw [← this]
   rfl
  unfold qz oB
  simp only [em, Option.bind_some, b32, b40, ln, F4, List.drop_succ_cons, List.drop_zero, ni hk hw ha hi hok hx (show q.length ≤ 100000 by omega)]
  cases d == 32 with
  | true => rfl
  | false =>
   simp only [cond_false]
   cases P3 x (q.length + 1) q [] [] with
   | none => cases d == 40 <;> rfl
   | some p =>
    obtain ⟨c, e⟩ := p
    simp only [uT]
    cases e with
    | nil => cases d == 40 <;> cases B4 x c <;> rfl
    | cons f e =>
     have b41 : ((f.toNat : Int) != 41) = !(f == 41) := by
      have : ((f.toNat : Int) == 41) = (f == 41) := nF f 41
      rw [← this]
      rfl
     simp only [show ((f :: e : Str) == ([] : Str)) = false by rfl, cond_false, em, Option.bind_some, b41, ln, F4, List.drop_succ_cons, List.drop_zero]
     cases d == 40 <;> cases B4 x c <;> cases f == 41 <;> rfl
theorem mq {k : Nat} {b : a8} {s : Str} (hk : maxLen + 41 ≤ k) (hw : d8 b) (hv : valid b = true) (hs : s.length ≤ 100000) : cM k b s = some (Rr (gH b s)) := by
 have e63 := m8
 have hl : b.fTypes.length ≤ maxLen := hw.2.2.1.1
 obtain ⟨k, rfl, hq⟩ := i8 (c := maxLen + 40) hk
 simp only [cM]
 rw [xC (by omega) hv hl hs (by omega)]
 unfold gH
 by_cases h8 : 8 < s.length
 ·have hd : decide (s.length ≤ 8) = false := by rw [decide_eq_false_iff_not]; omega
  rw [decide_eq_true h8, hd]
  simp only [Bool.true_and, cond_false]
  rcases kG hv (P7 s) with he | ⟨j, hj, h1, h2, h3, h4, h5⟩
  ·have hz : ((r8 b (P7 s)).2 == 0) = false := by
    have : ((r8 b (P7 s)).2 != 0) = !((r8 b (P7 s)).2 == 0) := rfl
    rw [this] at he
    simpa using he
   rw [hz, he]
   rfl
  ·rw [h1]
   have hfl : (b.fTypes[j]).fFields.length ≤ maxLen := (hw.2.2.1.2 _ (List.getElem_mem hj)).2.2.2.2.1.1
   have hj0 : decide ((j : Int) < 0) = false := by rw [decide_eq_false_iff_not]; omega
   have hcut8 : cut s 8 (s.length : Int) = some (s.drop 8) := cU (i := 8) (by omega)
   have hdl : (s.drop 8).length = s.length - 8 := List.length_drop
   have e42 : ((J7 (s.drop 8) 0).bind fun v6 => some (v6 == 42)) = some (F4 42 (s.drop 8)) := qP (c := 42) 42 rfl (by omega)
   simp only [beq_self_eq_true, bne_self_eq_false, cond_true, cond_false, hj0, h5, Option.bind_some, h2, hcut8, e42]
   unfold iV
   cases h42 : F4 42 (s.drop 8) with
   | false =>
    simp only [cond_false, Option.bind_some]
    exact la (by omega) hw h3 h5 h4 hfl (by omega) (by omega)
   | true =>
    simp only [cond_true]
    rw [zb (by omega) (by omega) (by omega)]
    obtain ⟨t1, t2⟩ := vJ azL ((s.drop 8).drop 1)
    generalize hw1 : ((s.drop 8).drop 1).takeWhile azL = tw at t1 t2 ⊢
    generalize hw2 : ((s.drop 8).drop 1).dropWhile azL = dw at t2 ⊢
    have htl : tw.length + dw.length = s.length - 9 := by
     have := congrArg List.length (List.takeWhile_append_dropWhile (p := azL) (l := (s.drop 8).drop 1))
     rw [List.length_append, hw1, hw2, List.length_drop, hdl] at this
     omega
    have c1 : cut (s.drop 8) 1 ((1 + tw.length : Nat) : Int) = some tw := by
     have := dW (l := s.drop 8) (i := 1) (j := 1 + tw.length) (by omega) (by omega)
     rw [show ((1 : Nat) : Int) = 1 by rfl] at this
     rw [this, List.drop_take, show 1 + tw.length - 1 = tw.length by omega, t1]
    have c2 : cut (s.drop 8) ((1 + tw.length : Nat) : Int) ((s.drop 8).length : Int) = some dw := by
     rw [cU (by omega), ← List.drop_drop, t2]
    simp only [c1, c2, Option.bind_some, S0 (show maxLen + 5 ≤ k by omega) (show tw.length ≤ maxLen by omega)]
    cases htw : tw == ([] : Str) with
    | true => rfl
    | false =>
     cases hcg : D3 0 tw with
     | false => rfl
     | true =>
      cases hdw : dw == ([] : Str) with
      | true => rfl
      | false =>
       simp only [Bool.not_true, cond_false, Bool.or_self, Option.bind_some]
       refine la (by omega) hw h3 h5 h4 hfl (by omega) ?_
       cases dw with
       | nil => cases hdw
       | cons c l => simp
 ·have hd : decide (s.length ≤ 8) = true := by rw [decide_eq_true_eq]; omega
  rw [decide_eq_false h8, hd]
  rfl
def bF (b : a8) (s : Str) : b8 × Int := bif !valid b then (sV, 100) else bif okP b s then (gr b s, 0) else (sV, 3)
theorem je {k : Nat} {b : a8} {s : Str} (hk : maxLen + 43 ≤ k) (hw : d8 b) (hs : s.length ≤ 100000) : bY k b s = some (bF b s) := by
 obtain ⟨k, rfl, hq⟩ := i8 (c := maxLen + 42) hk
 obtain ⟨a, h1, h2⟩ := oZ (k := k) (s := s) (by omega) hw hs
 simp only [bY, mt (show maxLen + 9 ≤ k by omega) hw, h1, Option.bind_some, bF]
 cases valid b with
 | false => rfl
 | true =>
  cases ho : okP b s with
  | false => rfl
  | true => rw [h2 ho]; rfl
theorem ng {k : Nat} {b : a8} {s : Str} (hk : maxLen + 43 ≤ k) (hw : d8 b) (hs : s.length ≤ 100000) : dc k b s = some (bF b s) := by
 obtain ⟨k, rfl, hq⟩ := i8 (c := maxLen + 42) hk
 simp only [dc, fE (show maxLen + 9 ≤ k by omega) hw, Option.bind_some, bF]
 cases hv : valid b with
 | false => rfl
 | true =>
  simp only [Bool.not_true, cond_false, mq (show maxLen + 41 ≤ k by omega) hw hv hs, Option.bind_some]
  rcases ud (s := s) hw hv with ⟨h1, h2⟩ | ⟨h1, h2⟩
  ·rw [h1, h2]
   rfl
  ·rw [h1]
   cases hb : gH b s with
   | none => rfl
   | some q =>
    obtain ⟨a, r⟩ := q
    cases r with
    | nil => exact absurd hb (h2 a)
    | cons c r => rfl
theorem Bk {x : b9} {c : y5} (hok : A2 x = true) (h : B4 x c = true) : wfL (wfL o0) c := by
 have hs := T6 hok h
 exact ow (fun g hg => ⟨by have := (hs.2 g hg).1; omega, (hs.2 g hg).2⟩) (by have := hs.1; omega)
theorem tM : s9 sV := ⟨G3 (by decide), G3 (by decide), ⟨by simp [sV], fun g hg => by cases hg⟩, trivial⟩
theorem ws {b : a8} {s : Str} (hw : d8 b) : s9 (bF b s).1 := by
 unfold bF
 cases hv : valid b with
 | false => exact tM
 | true =>
  cases ho : okP b s with
  | false => exact tM
  | true =>
   obtain ⟨h1, _⟩ := oJ hv ho
   obtain ⟨j, x, h⟩ := cd hw hv h1
   have hcl := bV _ 0 h.codes
   show s9 (gr b s)
   exact ⟨G3 (by have := h.name.2; omega), G3 (by omega), Bk h.ok h.cond, trivial⟩
theorem qg {k : Nat} {a : b8} (hk : maxLen + 8 ≤ k) (ha : s9 a) : iQ k a a = some true := by
 obtain ⟨k, rfl, hq⟩ := i8 (c := maxLen + 7) hk
 simp only [iQ, beq_self_eq_true, cond_true, fP (show maxLen + 6 ≤ k by omega) ha.2.2.1, sN, Option.bind_some]
theorem ob {k : Nat} {a : b8} (hk : maxLen + 8 ≤ k) (ha : s9 a) : fb k a a = some true := by
 obtain ⟨k, rfl, hq⟩ := i8 (c := maxLen + 7) hk
 simp only [fb, beq_self_eq_true, cond_true, fM (show maxLen + 3 ≤ k by omega) ha.2.2.1, sN, Option.bind_some]
theorem AV {b : a8} {a : b8} (hw : d8 b) (h : (F3 b a).2 = 0) : bF b (F3 b a).1 = (a, 0) ∧ (F3 b a).1.length ≤ 2000 := by
 unfold F3 at h ⊢
 cases hv : valid b with
 | false => rw [hv] at h; cases h
 | true =>
  rw [hv] at h
  cases hr : bD b a with
  | false => rw [hr] at h; cases h
  | true =>
   simp only [Bool.not_true, cond_false]
   obtain ⟨h1, h2⟩ := rv hw hv hr
   refine ⟨by unfold bF; rw [hv, h2, h1]; rfl, ?_⟩
   obtain ⟨j, x, g⟩ := cd hw hv hr
   have hcl := bV _ 0 g.codes
   have hwl := eb (T6 g.ok g.cond)
   have hpl := ao g.name.2
   have e1 : (T7 a.fCodes).length ≤ 4 := by
    cases hc : a.fCodes with
    | nil => simp [T7]
    | cons c l => rw [hc] at hcl; simp only [T7, List.length_cons] at hcl ⊢; omega
   have e2 : (G9 a.fWhen).length ≤ 1026 := by
    cases hc : a.fWhen with
    | nil => simp [G9]
    | cons c l => rw [hc] at hwl; simp only [G9, List.length_cons, List.length_append, List.length_nil]; omega
   unfold U8
   simp only [List.length_append, hpl]
   omega
theorem Bz {b : a8} {s : Str} (hw : d8 b) (h : (bF b s).2 = 0) : F3 b (bF b s).1 = (s, 0) := by
 unfold bF at h ⊢
 cases hv : valid b with
 | false => rw [hv] at h; cases h
 | true =>
  rw [hv] at h
  cases ho : okP b s with
  | false => rw [ho] at h; cases h
  | true =>
   obtain ⟨h1, h2⟩ := oJ hv ho
   simp only [Bool.not_true, cond_false, cond_true]
   unfold F3
   rw [hv, h1, h2]
   rfl
theorem kp (b : a8) (a : b8) (s : Str) (hb : d8 b) (ha : s9 a) (hs : wfS s) : ∃ k, Y1 k b a s = some true := by
 have e63 := m8
 refine ⟨maxLen + 50, ?_⟩
 obtain ⟨r1, h1⟩ := ta (k := maxLen + 49) (by omega) hb
 obtain ⟨r2, h2⟩ := rN (k := maxLen + 49) (l := [a]) (by omega) (aR (by simp) (rJ ha))
 have h5 := AU (k := maxLen + 49) (by omega)
 show Y1 (maxLen + 49 + 1) b a s = some true
 simp only [Y1, h1, h2, h5, Option.bind_some]
 by_cases hl : (s.length : Int) > 1000
 ·have hd : decide ((s.length : Int) > 1000) = true := by simpa using hl
  rw [hd]
  cases r1 <;> cases r2 <;> rfl
 have hd : decide ((s.length : Int) > 1000) = false := by simpa using hl
 rw [hd]
 have hsl : s.length ≤ 100000 := by omega
 have p1 := U6 (k := maxLen + 49) (by omega) hb ha
 have p2 := lh (k := maxLen + 49) (by omega) hb ha
 have p3 := je (k := maxLen + 49) (s := s) (by omega) hb hsl
 have p4 := ng (k := maxLen + 49) (s := s) (by omega) hb hsl
 have w3 := ws (s := s) hb
 have p5 := U6 (k := maxLen + 49) (by omega) hb w3
 simp only [p1, p2, p3, p4, p5, Option.bind_some, ob (show maxLen + 8 ≤ maxLen + 49 by omega) w3, beq_self_eq_true, bne_self_eq_false, Bool.not_true, cond_true, cond_false]
 have q1 : (F3 b a).2 == 0 → bY (maxLen + 49) b (F3 b a).1 = some (a, 0) := fun e => by
  obtain ⟨g1, g2⟩ := AV hb (eq_of_beq e)
  rw [je (by omega) hb (by omega), g1]
 have q2 : (bF b s).2 == 0 → F3 b (bF b s).1 = (s, 0) := fun e => Bz hb (eq_of_beq e)
 have w1 := qg (k := maxLen + 49) (by omega) ha
 generalize ((bF b s).2 == 0) = e2 at q2 ⊢
 generalize ((F3 b a).2 == 0) = e1 at q1 ⊢
 cases e1 with
 | false =>
  cases e2 with
  | false => cases r1 <;> cases r2 <;> rfl
  | true =>
   rw [q2 rfl]
   simp only [cond_true, cond_false, Option.bind_some, bne_self_eq_false, beq_self_eq_true, Bool.not_true]
   cases r1 <;> cases r2 <;> rfl
 | true =>
  rw [q1 rfl]
  simp only [cond_true, cond_false, Option.bind_some, bne_self_eq_false, w1, Bool.not_true]
  cases e2 with
  | false => cases r1 <;> cases r2 <;> rfl
  | true =>
   rw [q2 rfl]
   simp only [cond_true, cond_false, Option.bind_some, bne_self_eq_false, beq_self_eq_true, Bool.not_true]
   cases r1 <;> cases r2 <;> rfl
end Go.Sh

