/- The functions as functions on lists, and what they come to: no program in sight. Conditions: those that each theorem names. -/
import Derived.Test.YtnpeekncggidcaaGreatDoorB1
namespace Go.Sh
open Go.AE
open Go.Lib (trimRightB)
set_option linter.unusedVariables false
set_option linter.unusedSimpArgs false
def N4 (x : b7) : Nat → Str → List a6 → A5 → Option (A5 × Str)
 | 0, _, _, _ => none
 | n + 1, s, g, out => match U5 x s with
  | none => none
  | some (t, r) => match r with
   | [] => some (out ++ [g ++ [t]], [])
   | c :: r => bif c == 38 then N4 x n r (g ++ [t]) out else bif c == 124 then N4 x n r [] (out ++ [g ++ [t]]) else some (out ++ [g ++ [t]], c :: r)
def tA (x : b7) : Option (A5 × Str) → A5 × Str × Bool
 | none => ([], [], false)
 | some r => (r.1, r.2, B3 x r.1)
theorem lR {k : Nat} {b : a7} {t : Int} {x : b7} (hk : maxLen + 13 ≤ k) (hw : i1 b) (ha : u4 b [t] = 0) (hi : idx b.fTypes t = some x) (hok : y4 x = true) (hx : x.fFields.length ≤ maxLen) :
  ∀ (n m : Nat) (s : Str) (g : List a6) (out : A5), s.length < n → n ≤ m → s.length + g.length + out.length ≤ 1000000 → qa out → (∀ u ∈ g, au u) → M1 k b t m s g out = some (tA x (N4 x n s g out))
 | 0, m, s, g, out, h, _, _, _, _ => by omega
 | n + 1, m, s, g, out, h, hm, hb, ho, hg => by
  obtain ⟨m, rfl⟩ : ∃ q, m = q + 1 := ⟨m - 1, by omega⟩
  have e63 := m0
  simp only [M1, ew (show maxLen + 6 ≤ k by omega) hi hok hx (show s.length ≤ maxLen by omega), Option.bind_some]
  unfold N4
  cases hf : U5 x s with
  | none => rfl
  | some q =>
   obtain ⟨u, r⟩ := q
   obtain ⟨_, h2, h3⟩ := gn hok hf
   have hg' := qy hg (bk hok h2)
   have hgl : (g ++ [u]).length ≤ 1000000 := by rw [List.length_append, List.length_singleton]; omega
   have ho' := ot ho hgl hg'
   have hcond : H3 k b t (out ++ [g ++ [u]]) = some (B3 x (out ++ [g ++ [u]])) := W4 hk hw (nK ho' (by rw [List.length_append, List.length_singleton]; omega)) ha hi
   simp only [pm, Bool.not_true, cond_false]
   rw [aG (by simp only [List.length_singleton, p4]; omega)]
   simp only [Option.bind_some]
   cases r with
   | nil =>
    simp only [show (([] : Str) == ([] : Str)) = true by rfl, Bool.not_true, cond_false, cond_true, Option.bind_some]
    rw [aG (by simp only [List.length_singleton, p4]; omega)]
    simp only [Option.bind_some, hcond]
    rfl
   | cons a r =>
    simp only [List.length_cons] at h3
    simp only [show ((a :: r : Str) == ([] : Str)) = false by rfl, Bool.not_false, cond_false, cond_true, dJ, Option.bind_some, wt, kG]
    cases h38 : a == 38 with
    | true =>
     simp only [cond_true]
     exact lR hk hw ha hi hok hx n m r (g ++ [u]) out (by omega) (by omega) (by rw [List.length_append, List.length_singleton]; omega) ho hg'
    | false =>
     simp only [cond_false]
     rw [aG (by simp only [List.length_singleton, p4]; omega)]
     simp only [Option.bind_some]
     have hne : ((a.toNat : Int) != 124) = !(a == 124) := by rw [← uN]; rfl
     rw [hne]
     cases h124 : a == 124 with
     | true =>
      simp only [Bool.not_true, cond_false, cond_true]
      exact lR hk hw ha hi hok hx n m r [] (out ++ [g ++ [u]]) (by omega) (by omega) (by simp only [List.length_append, List.length_singleton, List.length_nil]; omega) ho' (by intro q hq; cases hq)
     | false =>
      simp only [Bool.not_false, cond_true, hcond, Option.bind_some, cond_false]
      rfl
theorem mJ {k : Nat} {b : a7} {t : Int} {x : b7} {s : Str} (hk : maxLen + 14 ≤ k) (hw : i1 b) (ha : u4 b [t] = 0) (hi : idx b.fTypes t = some x) (hok : y4 x = true) (hx : x.fFields.length ≤ maxLen) (hs : s.length ≤ 100000) : O4 k b t s = some (tA x (N4 x (s.length + 1) s [] [])) := by
 have e63 := m0
 obtain ⟨k, rfl, hq⟩ := i8 (c := maxLen + 13) hk
 unfold O4
 exact lR hq hw ha hi hok hx _ k s [] [] (Nat.lt_succ_self _) (by omega) (by simp; omega) (by intro q hq; cases hq) (by intro q hq; cases hq)
def EC (e : Str) : Prop := ∀ c r, e = c :: r → (c == 38) = false ∧ (c == 124) = false
theorem qK {x : b7} (hok : y4 x = true) {e : Str} (he : EC e) : ∀ (cs : A5), (∀ h ∈ cs, h ≠ [] ∧ ∀ u ∈ h, R4 x u = true) → ∀ (ts : List a6) (t : a6) (n : Nat) (g : List a6) (out : A5), (∀ u ∈ t :: ts, R4 x u = true) → (F7 t ++ (T6 ts ++ (Z7 cs ++ e))).length < n →
  N4 x n (F7 t ++ (T6 ts ++ (Z7 cs ++ e))) g out = some (out ++ [g ++ t :: ts] ++ cs, e) := by
 intro cs
 induction cs with
 | nil =>
  intro _ ts
  induction ts with
  | nil =>
   intro t n g out ht hn
   obtain ⟨n, rfl⟩ : ∃ q, n = q + 1 := ⟨n - 1, by omega⟩
   unfold N4
   rw [V1 _ hok (ht t (by simp))]
   simp only [T6, Z7, List.nil_append, List.append_nil]
   cases e with
   | nil => rfl
   | cons c r =>
    obtain ⟨h1, h2⟩ := he c r rfl
    simp only [h1, h2, cond_false]
  | cons u us ih =>
   intro t n g out ht hn
   obtain ⟨n, rfl⟩ : ∃ q, n = q + 1 := ⟨n - 1, by omega⟩
   unfold N4
   rw [V1 _ hok (ht t (by simp))]
   simp only [T6, List.cons_append, List.length_append, List.length_cons, show ((38 : UInt8) == 38) = true by rfl, cond_true] at hn ⊢
   rw [List.append_assoc, ih u n (g ++ [t]) out (fun v hv => ht v (List.mem_cons_of_mem _ hv)) (by simp only [List.length_append]; omega)]
   simp only [List.append_assoc, List.cons_append, List.nil_append]
 | cons h cs ihc =>
  intro hcs ts
  have hh := hcs h (by simp)
  have ihc := ihc (fun q hq => hcs q (by simp [hq]))
  induction ts with
  | nil =>
   intro t n g out ht hn
   obtain ⟨n, rfl⟩ : ∃ q, n = q + 1 := ⟨n - 1, by omega⟩
   unfold N4
   rw [V1 _ hok (ht t (by simp))]
   obtain ⟨v, vs, rfl⟩ : ∃ v vs, h = v :: vs := by
    cases h with
    | nil => exact absurd rfl hh.1
    | cons v vs => exact ⟨v, vs, rfl⟩
   simp only [T6, Z7, List.nil_append, F5, List.cons_append, List.length_append, List.length_cons, show ((124 : UInt8) == 38) = false by rfl, show ((124 : UInt8) == 124) = true by rfl, cond_true, cond_false] at hn ⊢
   rw [List.append_assoc, List.append_assoc, ihc vs v n [] (out ++ [g ++ [t]]) hh.2 (by simp only [List.length_append]; omega)]
   simp only [List.append_assoc, List.cons_append, List.nil_append]
  | cons u us ih =>
   intro t n g out ht hn
   obtain ⟨n, rfl⟩ : ∃ q, n = q + 1 := ⟨n - 1, by omega⟩
   unfold N4
   rw [V1 _ hok (ht t (by simp))]
   simp only [T6, List.cons_append, List.length_append, List.length_cons, show ((38 : UInt8) == 38) = true by rfl, cond_true] at hn ⊢
   rw [List.append_assoc, ih u n (g ++ [t]) out (fun v hv => ht v (List.mem_cons_of_mem _ hv)) (by simp only [List.length_append]; omega)]
   simp only [List.append_assoc, List.cons_append, List.nil_append]
theorem jE {x : b7} (hok : y4 x = true) : ∀ (n : Nat) (s : Str) (g : List a6) (out c : A5) (e : Str), N4 x n s g out = some (c, e) → ∃ t ts cs, c = out ++ [g ++ t :: ts] ++ cs ∧ s = F5 (t :: ts) ++ (Z7 cs ++ e)
 | 0, s, g, out, c, e, h => by cases h
 | n + 1, s, g, out, c, e, h => by
  unfold N4 at h
  cases hf : U5 x s with
  | none => rw [hf] at h; cases h
  | some q =>
   obtain ⟨t, r⟩ := q
   obtain ⟨h1, _, _⟩ := gn hok hf
   rw [hf] at h
   simp only at h
   cases r with
   | nil =>
    obtain ⟨rfl, rfl⟩ := Prod.mk.inj (Option.some.inj h)
    exact ⟨t, [], [], by simp, by rw [h1]; simp [F5, T6, Z7]⟩
   | cons a r =>
    simp only at h
    cases h38 : a == 38 with
    | true =>
     rw [h38, cond_true] at h
     obtain ⟨t', ts, cs, e1, e2⟩ := jE hok n r _ out c e h
     refine ⟨t, t' :: ts, cs, by rw [e1]; simp, ?_⟩
     rw [h1, e2, eq_of_beq h38]
     simp [F5, T6]
    | false =>
     rw [h38, cond_false] at h
     cases h124 : a == 124 with
     | true =>
      rw [h124, cond_true] at h
      obtain ⟨t', ts, cs, e1, e2⟩ := jE hok n r [] _ c e h
      refine ⟨t, [], (t' :: ts) :: cs, by rw [e1]; simp, ?_⟩
      rw [h1, e2, eq_of_beq h124]
      simp [F5, T6, Z7]
     | false =>
      rw [h124, cond_false] at h
      obtain ⟨rfl, rfl⟩ := Prod.mk.inj (Option.some.inj h)
      exact ⟨t, [], [], by simp, by rw [h1]; simp [F5, T6, Z7]⟩
theorem tx {x : b7} (hok : y4 x = true) {c : A5} {e : Str} (hc : B3 x c = true) (hne : c ≠ []) (he : EC e) (n : Nat) (hn : (S6 c ++ e).length < n) : N4 x n (S6 c ++ e) [] [] = some (c, e) := by
 have hgs := fj hc
 cases hcc : c with
 | nil => exact absurd hcc hne
 | cons g cs =>
  rw [hcc] at hgs hn
  obtain ⟨v, vs, rfl⟩ : ∃ v vs, g = v :: vs := by
   cases g with
   | nil => exact absurd rfl (hgs [] (by simp)).1
   | cons v vs => exact ⟨v, vs, rfl⟩
  have e1 : S6 ((v :: vs) :: cs) ++ e = F7 v ++ (T6 vs ++ (Z7 cs ++ e)) := by simp only [S6, F5, List.append_assoc]
  rw [e1] at hn ⊢
  rw [qK hok he cs (fun q hq => hgs q (by simp [hq])) vs v n [] [] (fun u hu => (hgs (v :: vs) (by simp)).2 u hu) hn]
  simp only [List.nil_append, List.singleton_append]
theorem nn {x : b7} (hok : y4 x = true) {n : Nat} {s e : Str} {c : A5} (h : N4 x n s [] [] = some (c, e)) : c ≠ [] ∧ s = S6 c ++ e := by
 obtain ⟨t, ts, cs, e1, e2⟩ := jE hok n s [] [] c e h
 simp only [List.nil_append, List.singleton_append] at e1
 subst e1
 exact ⟨by simp, by rw [e2]; simp only [S6, List.append_assoc]⟩
def cG : Str → Str
 | [] => []
 | c :: r => 42 :: c :: r
def M6 : A5 → Str
 | [] => [32]
 | g :: r => 40 :: (S6 (g :: r) ++ [41])
def aF (a : a8) : Str := Z5 a.fSegment ++ (cG a.fCodes ++ M6 a.fWhen)
def cX (b : a7) (a : a8) : Bool := (I9 b (-1) a).1 == sOK
def aO (b : a7) (a : a8) : Str × Int := bif !valid b then ([], 100) else bif !cX b a then ([], 2) else (aF a, 0)
theorem fE : ∀ (s : Str) (a : Nat), C7 a s = true → ∀ c ∈ s, c = 68 ∨ c = 76 ∨ c = 80
 | [], a, _, c, hc => by cases hc
 | d :: r, a, h, c, hc => by
  rw [C7] at h
  rcases eZ a d with ⟨h1, h2, h3⟩ | ⟨h1, h2, h3⟩ | ⟨h1, h2, h3⟩ | ⟨h1, _⟩ <;> rw [h1] at h
  ·rcases List.mem_cons.1 hc with e | e
   ·exact .inl (e.trans h3)
   ·exact fE r 1 h c e
  ·rcases List.mem_cons.1 hc with e | e
   ·exact .inr (.inl (e.trans h3))
   ·exact fE r 2 h c e
  ·rcases List.mem_cons.1 hc with e | e
   ·exact .inr (.inr (e.trans h3))
   ·exact fE r 3 h c e
  ·cases h
theorem pn {p : UInt8 → Bool} {d : UInt8} {r : Str} (hd : p d = false) : ∀ l : Str, (∀ c ∈ l, p c = true) → (l ++ d :: r).takeWhile p = l ∧ (l ++ d :: r).dropWhile p = d :: r
 | [], _ => by simp [List.takeWhile_cons, List.dropWhile_cons, hd]
 | c :: l, h => by
  obtain ⟨h1, h2⟩ := pn hd l (fun q hq => h q (List.mem_cons_of_mem _ hq))
  have hc := h c (by simp)
  rw [List.cons_append, List.takeWhile_cons, List.dropWhile_cons, if_pos hc, if_pos hc, h1, h2]
  exact ⟨rfl, rfl⟩
theorem kw (w : A5) (r : Str) : ∃ d q, M6 w ++ r = d :: q ∧ (d = 32 ∨ d = 40) := by
 cases w with
 | nil => exact ⟨32, r, rfl, .inl rfl⟩
 | cons g c => exact ⟨40, S6 (g :: c) ++ [41] ++ r, rfl, .inr rfl⟩
theorem kv {b : a7} (hv : valid b = true) (nm : Str) : ((u0 b nm).2 != 0) = true ∨ ∃ j, ∃ hj : j < b.fTypes.length, u0 b nm = ((j : Int), 0) ∧ (b.fTypes[j]).fName = nm ∧ u4 b [(j : Int)] = 0 ∧ y4 b.fTypes[j] = true ∧ idx b.fTypes (j : Int) = some b.fTypes[j] := by
 have ha0 : u4 b [] = 0 := by unfold u4; rw [hv]; rfl
 have et : u0 b nm = dl (pos b.fTypes (fun t => t.fName == nm)) := by
  unfold u0
  rw [ha0]
  rfl
 rcases K4 b.fTypes (fun t => t.fName == nm) with ⟨_, hp⟩ | ⟨j, hj, hj2, _, hp⟩
 ·left
  rw [et, hp]
  rfl
 ·right
  have ei : u0 b nm = ((j : Int), 0) := by
   rw [et, hp]
   unfold dl
   rw [decide_eq_false (by omega)]
   rfl
  refine ⟨j, hj, ei, eq_of_beq hj2, ?_, nL hv hj, n7 hj⟩
  unfold u4
  rw [hv]
  simp only [Bool.not_true, cond_false, List.any_cons, List.any_nil, Bool.or_false, aW, decide_eq_false (show ¬ ((j : Int) < 0) by omega), decide_eq_false (show ¬ ((j : Int) ≥ (b.fTypes.length : Int)) by omega)]
theorem sW {b : a7} {a : a8} {j : Int} {x : b7} (h1 : C7 0 a.fCodes = true) (h2 : u0 b a.fSegment = (j, 0)) (h3 : u4 b [j] = 0) (h4 : idx b.fTypes j = some x) (h5 : B3 x a.fWhen = true) : cX b a = true := by
 have e : T7 b a = j := by unfold T7; rw [h2]
 have hv : (bl b j a.fWhen).1 = true := by unfold bl; rw [h3, h4]; exact h5
 unfold cX I9
 rw [h1, h2, e, hv]
 rfl
structure Fs (b : a7) (a : a8) (j : Int) (x : b7) : Prop where
 codes : C7 0 a.fCodes = true
 ty : u0 b a.fSegment = (j, 0)
 ask : u4 b [j] = 0
 ix : idx b.fTypes j = some x
 ok : y4 x = true
 name : C3 a.fSegment = true ∧ a.fSegment.length ≤ 8
 cond : B3 x a.fWhen = true
theorem gD {b : a7} {a : a8} (hw : i1 b) (hv : valid b = true) (h : cX b a = true) : ∃ j x, Fs b a j x := by
 obtain ⟨h1, h2, ⟨x, hx, hok, hn, hco⟩, h4, h5, h6, h7⟩ := rL hw hv h
 have hnm := qG hok
 have hnl := sN hnm
 rw [hn] at hnm hnl
 exact ⟨T7 b a, x, h1, by unfold T7; rw [← h2], h6, hx, hok, ⟨hnm, hnl.2⟩, hco⟩
def eO (c : UInt8) : Bool := (c == 68) || ((c == 76) || (c == 80))
def D8 (c : UInt8) : Str → Bool
 | [] => false
 | d :: _ => d == c
def eI (r : Str) : Str × Str := bif D8 42 r then ((r.drop 1).takeWhile eO, (r.drop 1).dropWhile eO) else ([], r)
def yV (r : Str) : Str := (r.take (r.length - 1)).drop 1
def nk (b : a7) (t : Int) (r : Str) : A5 × Int := bif decide ((r.length : Int) > 2) && (D8 40 r && D8 41 r.reverse) then ag b t (yV r) else ([], 0)
def O0 (s : Str) : Str := trimRightB (s.take 8) 32
def di (b : a7) (s : Str) : a8 := { fSegment := O0 s, fCodes := (eI (s.drop 8)).1, fWhen := (nk b (u0 b (O0 s)).1 (eI (s.drop 8)).2).1 }
def okP (b : a7) (s : Str) : Bool := decide (8 < s.length) && ((u0 b (O0 s)).2 == 0 && ((nk b (u0 b (O0 s)).1 (eI (s.drop 8)).2).2 == 0 && ((aO b (di b s)).2 == 0 && ((aO b (di b s)).1 == s))))
theorem uB (codes : Str) (w : A5) (h : C7 0 codes = true) : eI (cG codes ++ M6 w) = (codes, M6 w) := by
 obtain ⟨d, q, e, hd⟩ := kw w []
 rw [List.append_nil] at e
 have hp : eO d = false := by rcases hd with rfl | rfl <;> rfl
 cases codes with
 | nil =>
  show eI (M6 w) = _
  unfold eI
  rw [e]
  have : D8 42 (d :: q) = false := by rcases hd with rfl | rfl <;> rfl
  rw [this]
  rfl
 | cons c r =>
  have ha : ∀ u ∈ c :: r, eO u = true := fun u hu => by
   rcases fE _ _ h u hu with rfl | rfl | rfl <;> rfl
  obtain ⟨h1, h2⟩ := pn (r := q) hp (c :: r) ha
  show (((c :: r) ++ M6 w).takeWhile eO, ((c :: r) ++ M6 w).dropWhile eO) = _
  rw [e, h1, h2]
theorem po {a : a8} (h : C3 a.fSegment = true ∧ a.fSegment.length ≤ 8) (r : Str) : (aF a ++ r).take 8 = Z5 a.fSegment ∧ O0 (aF a ++ r) = a.fSegment ∧ (aF a ++ r).drop 8 = cG a.fCodes ++ (M6 a.fWhen ++ r) ∧ 8 < (aF a ++ r).length := by
 have hpl := fN h.2
 have e : aF a ++ r = Z5 a.fSegment ++ (cG a.fCodes ++ (M6 a.fWhen ++ r)) := by simp only [aF, List.append_assoc]
 have h8 : (aF a ++ r).take 8 = Z5 a.fSegment := by rw [e]; exact List.take_left' hpl
 refine ⟨h8, ?_, by rw [e]; exact List.drop_left' hpl, ?_⟩
 ·unfold O0
  rw [h8]
  exact mz h.1 _
 ·obtain ⟨d, q, e2, _⟩ := kw a.fWhen r
  rw [e, e2]
  simp only [List.length_append, List.length_cons, hpl]
  omega
theorem vw {x : b7} (hok : y4 x = true) {g : List a6} {c : A5} (h : B3 x (g :: c) = true) : 10 ≤ (S6 (g :: c)).length := by
 have hgs := fj h
 cases g with
 | nil => exact absurd rfl (hgs [] (by simp)).1
 | cons v vs =>
  have hv := bk hok ((hgs (v :: vs) (by simp)).2 v (by simp))
  simp only [S6, F5, List.length_append, jg hv]
  omega
theorem vq {b : a7} {a : a8} (hw : i1 b) (hv : valid b = true) (h : cX b a = true) : di b (aF a) = a ∧ okP b (aF a) = true := by
 obtain ⟨j, x, hr⟩ := gD hw hv h
 obtain ⟨_, h1, h2, h3⟩ := po hr.name []
 rw [List.append_nil] at h1 h2 h3
 rw [List.append_nil] at h2
 have hs := uB a.fCodes a.fWhen hr.codes
 have hp : nk b j (M6 a.fWhen) = (a.fWhen, 0) := by
  have hc := hr.cond
  cases hww : a.fWhen with
  | nil => rfl
  | cons g c =>
   rw [hww] at hc
   have hcl := vw hr.ok hc
   unfold nk
   have e1 : M6 (g :: c) = (40 :: S6 (g :: c)) ++ [41] := rfl
   have e2 : D8 41 (M6 (g :: c)).reverse = true := by rw [e1, List.reverse_append]; rfl
   have e3 : yV (M6 (g :: c)) = S6 (g :: c) := by
    unfold yV
    rw [e1, List.length_append, List.length_singleton, Nat.add_sub_cancel, List.take_left']
    ·rfl
    ·rfl
   have e4 : decide (((M6 (g :: c)).length : Int) > 2) = true := by
    rw [e1]
    simp only [List.length_append, List.length_cons, List.length_nil, decide_eq_true_eq]
    omega
   have e5 : D8 40 (M6 (g :: c)) = true := rfl
   rw [e2, e3, e4, e5]
   have hf : aP b j (g :: c) = (S6 (g :: c), 0) := by
    unfold aP X2
    simp only [hr.ask, hr.ix, bne_self_eq_false, cond_false, List.any_cons, List.any_nil, hc, Bool.not_true, Bool.or_false]
   have := (Fl (c := g :: c) (t := j) hw (by rw [hf])).1
   rw [hf] at this
   exact this
 have e : di b (aF a) = a := by
  unfold di
  rw [h1, h2, hs, hr.ty]
  simp only [hp]
 refine ⟨e, ?_⟩
 unfold okP
 rw [e, h1, h2, hs, hr.ty]
 unfold aO
 rw [hv, h]
 simp only [h3, decide_true, hp, Bool.not_true, cond_false, beq_self_eq_true, Bool.and_true]
theorem sP {b : a7} {s : Str} (hv : valid b = true) (h : okP b s = true) : cX b (di b s) = true ∧ aF (di b s) = s := by
 unfold okP at h
 simp only [Bool.and_eq_true] at h
 obtain ⟨_, _, _, h1, h2⟩ := h
 unfold aO at h1 h2
 rw [hv] at h1 h2
 cases hr : cX b (di b s) with
 | false => rw [hr] at h1; cases h1
 | true => rw [hr] at h2; exact ⟨rfl, eq_of_beq h2⟩
def azL (c : UInt8) : Bool := decide ((c.toNat : Int) ≥ 65) && decide ((c.toNat : Int) ≤ 90)
def ic (r : Str) : Option (Str × Str) := bif D8 42 r then (bif ((r.drop 1).takeWhile azL == []) || (!C7 0 ((r.drop 1).takeWhile azL) || ((r.drop 1).dropWhile azL == [])) then none else some ((r.drop 1).takeWhile azL, (r.drop 1).dropWhile azL)) else some ([], r)
def pu (x : b7) (r : Str) : Option (A5 × Str) := bif D8 32 r then some ([], r.drop 1) else match N4 x ((r.drop 1).length + 1) (r.drop 1) [] [] with
 | none => none
 | some q => bif D8 40 r && (B3 x q.1 && D8 41 q.2) then some (q.1, q.2.drop 1) else none
def gc (b : a7) (s : Str) : Option (a8 × Str) := bif decide (s.length ≤ 8) then none else bif (u0 b (O0 s)).2 != 0 then none else match idx b.fTypes (u0 b (O0 s)).1 with
 | none => none
 | some x => (ic (s.drop 8)).bind fun q => (pu x q.2).map fun w => ({ fSegment := O0 s, fCodes := q.1, fWhen := w.1 }, w.2)
theorem tz {b : a7} {a : a8} (hw : i1 b) (hv : valid b = true) (h : cX b a = true) (r : Str) : gc b (aF a ++ r) = some (a, r) := by
 obtain ⟨j, x, hr⟩ := gD hw hv h
 obtain ⟨_, h1, h2, h3⟩ := po hr.name r
 have hc : ic (cG a.fCodes ++ (M6 a.fWhen ++ r)) = some (a.fCodes, M6 a.fWhen ++ r) := by
  obtain ⟨d, q, e, hd⟩ := kw a.fWhen r
  have hp : azL d = false := by rcases hd with rfl | rfl <;> rfl
  have hcg := hr.codes
  cases hcc : a.fCodes with
  | nil =>
   show ic (M6 a.fWhen ++ r) = _
   unfold ic
   rw [e]
   have : D8 42 (d :: q) = false := by rcases hd with rfl | rfl <;> rfl
   rw [this]
   rfl
  | cons c l =>
   rw [hcc] at hcg
   have ha : ∀ u ∈ c :: l, azL u = true := fun u hu => by
    rcases fE _ _ hcg u hu with rfl | rfl | rfl <;> rfl
   obtain ⟨g1, g2⟩ := pn (r := q) hp (c :: l) ha
   have e42 : D8 42 (cG (c :: l) ++ (M6 a.fWhen ++ r)) = true := rfl
   have ed : (cG (c :: l) ++ (M6 a.fWhen ++ r)).drop 1 = (c :: l) ++ (M6 a.fWhen ++ r) := rfl
   unfold ic
   rw [e42, ed, e, g1, g2, hcg]
   rfl
 have hwn : pu x (M6 a.fWhen ++ r) = some (a.fWhen, r) := by
  have hco := hr.cond
  cases hww : a.fWhen with
  | nil => rfl
  | cons g c =>
   rw [hww] at hco
   have e1 : M6 (g :: c) ++ r = 40 :: (S6 (g :: c) ++ 41 :: r) := by simp [M6]
   have hb := tx hr.ok hco (by simp) (e := 41 :: r) (fun c' r' e' => by obtain ⟨rfl, _⟩ := List.cons.inj e'; exact ⟨rfl, rfl⟩) _ (Nat.lt_succ_self _)
   unfold pu
   rw [e1]
   have e32 : D8 32 (40 :: (S6 (g :: c) ++ 41 :: r)) = false := rfl
   have e40 : D8 40 (40 :: (S6 (g :: c) ++ 41 :: r)) = true := rfl
   rw [e32, e40]
   simp only [cond_false, List.drop_succ_cons, List.drop_zero, hb, hco, D8, beq_self_eq_true, Bool.and_true, cond_true]
 unfold gc
 rw [h1, h2, hr.ty, hc]
 have hd : decide ((aF a ++ r).length ≤ 8) = false := by simp only [decide_eq_false_iff_not]; omega
 simp only [hd, bne_self_eq_false, cond_false, hr.ix, Option.bind_some, hwn, Option.map_some]
theorem eU {c : UInt8} {r : Str} (h : D8 c r = true) : r = c :: r.drop 1 := by
 cases r with
 | nil => cases h
 | cons d r => rw [eq_of_beq h]; rfl
theorem nl {b : a7} {s r : Str} {a : a8} (hv : valid b = true) (h : gc b s = some (a, r)) : cX b a = true ∧ s = aF a ++ r := by
 unfold gc at h
 cases hl : decide (s.length ≤ 8) with
 | true => rw [hl] at h; cases h
 | false =>
  rw [hl, cond_false] at h
  have hlen : 8 < s.length := by simpa using hl
  rcases kv hv (O0 s) with he | ⟨j, hj, h1, h2, h3, h4, h5⟩
  ·rw [he] at h; cases h
  ·rw [h1] at h
   simp only [bne_self_eq_false, cond_false, h5] at h
   cases hc : ic (s.drop 8) with
   | none => rw [hc] at h; cases h
   | some q =>
    obtain ⟨cs, q⟩ := q
    rw [hc] at h
    simp only [Option.bind_some] at h
    cases hwn : pu b.fTypes[j] q with
    | none => rw [hwn] at h; cases h
    | some w =>
     obtain ⟨w, r'⟩ := w
     rw [hwn] at h
     simp only [Option.map_some] at h
     obtain ⟨rfl, rfl⟩ := Prod.mk.inj (Option.some.inj h)
     have hcs : s.drop 8 = cG cs ++ q ∧ C7 0 cs = true := by
      unfold ic at hc
      cases h42 : D8 42 (s.drop 8) with
      | false =>
       rw [h42, cond_false] at hc
       obtain ⟨rfl, rfl⟩ := Prod.mk.inj (Option.some.inj hc)
       exact ⟨rfl, rfl⟩
      | true =>
       rw [h42, cond_true] at hc
       have hd := eU h42
       generalize (s.drop 8).drop 1 = u at hc hd
       cases hno : (u.takeWhile azL == []) || (!C7 0 (u.takeWhile azL) || (u.dropWhile azL == [])) with
       | true => rw [hno] at hc; cases hc
       | false =>
        rw [hno, cond_false] at hc
        obtain ⟨rfl, rfl⟩ := Prod.mk.inj (Option.some.inj hc)
        simp only [Bool.or_eq_false_iff, Bool.not_eq_false'] at hno
        obtain ⟨n1, n2, _⟩ := hno
        refine ⟨?_, n2⟩
        rw [hd]
        cases ht : u.takeWhile azL with
        | nil => rw [ht] at n1; cases n1
        | cons c l =>
         show _ = 42 :: (c :: l ++ u.dropWhile azL)
         rw [← ht, List.takeWhile_append_dropWhile]
     have hws : q = M6 w ++ r' ∧ B3 b.fTypes[j] w = true := by
      unfold pu at hwn
      cases h32 : D8 32 q with
      | true =>
       rw [h32, cond_true] at hwn
       obtain ⟨rfl, rfl⟩ := Prod.mk.inj (Option.some.inj hwn)
       exact ⟨eU h32, rfl⟩
      | false =>
       rw [h32, cond_false] at hwn
       cases hb : N4 b.fTypes[j] ((q.drop 1).length + 1) (q.drop 1) [] [] with
       | none => rw [hb] at hwn; cases hwn
       | some p =>
        obtain ⟨c, e⟩ := p
        rw [hb] at hwn
        simp only at hwn
        cases hall : D8 40 q && (B3 b.fTypes[j] c && D8 41 e) with
        | false => rw [hall] at hwn; cases hwn
        | true =>
         rw [hall, cond_true] at hwn
         obtain ⟨rfl, rfl⟩ := Prod.mk.inj (Option.some.inj hwn)
         simp only [Bool.and_eq_true] at hall
         obtain ⟨h40, hco, h41⟩ := hall
         obtain ⟨hne, hs⟩ := nn h4 hb
         refine ⟨?_, hco⟩
         rw [eU h40, hs]
         cases c with
         | nil => exact absurd rfl hne
         | cons g c =>
          rw [M6, List.cons_append, List.append_assoc, List.singleton_append, ← eU h41]
     refine ⟨sW hcs.2 h1 h3 h5 hws.2, ?_⟩
     have h8 : (s.take 8).length = 8 := by rw [List.length_take]; omega
     unfold aF
     simp only
     rw [show Z5 (O0 s) = s.take 8 from ni h8, List.append_assoc, List.append_assoc, ← hws.1, ← hcs.1, List.take_append_drop]
theorem uw {b : a7} {s : Str} (hw : i1 b) (hv : valid b = true) : (okP b s = true ∧ gc b s = some (di b s, [])) ∨ (okP b s = false ∧ ∀ a, gc b s ≠ some (a, [])) := by
 cases h : okP b s with
 | true =>
  obtain ⟨h1, h2⟩ := sP hv h
  have := tz hw hv h1 []
  rw [List.append_nil, h2] at this
  exact .inl ⟨rfl, this⟩
 | false =>
  refine .inr ⟨rfl, fun a ha => ?_⟩
  obtain ⟨h1, h2⟩ := nl hv ha
  rw [List.append_nil] at h2
  have := (vq hw hv h1).2
  rw [← h2, h] at this
  cases this
end Go.Sh

namespace Go.Sh
open Go.AE
open Go.Lib (trimRightB)
set_option linter.unusedVariables false
set_option linter.unusedSimpArgs false
def ti : a8 := { fSegment := [], fCodes := [], fWhen := [] }
theorem we (b : a7) (a : a8) : fg b [a] = bif !valid b then ([], 100) else bif !cX b a then ([], 2) else ([T7 b a], 0) := by
 unfold fg gd cX
 cases valid b with
 | false => rfl
 | true =>
  have hd : decide ((([a] : List a8).length : Int) > 5) = false := rfl
  rw [hd]
  simp only [Bool.not_true, cond_false, iZ]
  cases h : (I9 b (-1) a).1 == sOK with
  | false => simp only [Bool.not_false, cond_true, h]
  | true =>
   have := tb h
   simp only [Bool.not_true, cond_false, this, List.nil_append]
   rfl
theorem de {k : Nat} {b : a7} {a : a8} (hk : maxLen + 40 ≤ k) (hw : i1 b) (ha : n6 a) : B2 k b a = some (aO b a) := by
 have e63 := m0
 obtain ⟨k, rfl, hq⟩ := i8 (c := maxLen + 39) hk
 simp only [B2, bj (show maxLen + 19 ≤ k by omega) hw (zN ha), we, Option.bind_some, aO]
 cases hv : valid b with
 | false => rfl
 | true =>
  cases hr : cX b a with
  | false => rfl
  | true =>
   obtain ⟨j, x, h⟩ := gD hw hv hr
   have hcl := fF a.fCodes 0 h.codes
   have hti : T7 b a = j := by unfold T7; rw [h.ty]
   have hwl := lS (dt h.ok h.cond)
   have hpl := fN h.name.2
   have hf : E4 k b j a.fWhen = some (S6 a.fWhen, 0) := by
    rw [lb (by omega) hw ha.2.2.1]
    unfold aP X2
    simp only [h.ask, h.ix, bne_self_eq_false, cond_false, List.any_cons, List.any_nil, h.cond, Bool.not_true, Bool.or_false]
   have hrep : strings_Repeat k [32] (Go.IntKind.wrap .i64 (8 - (a.fSegment.length : Int))) = some (List.replicate (8 - a.fSegment.length) 32) := by
    obtain ⟨k, rfl, _⟩ := i8 (show 0 + 1 ≤ k by omega)
    exact sU h.name.2
   have hp : a.fSegment ++ List.replicate (8 - a.fSegment.length) 32 = Z5 a.fSegment := rfl
   have hi : idx [j] 0 = some j := rfl
   simp only [Bool.not_true, cond_false, bne_self_eq_false, hrep, Option.bind_some, hti]
   rw [Q0 (by rw [List.length_replicate]; simp only [p4]; have := h.name.2; omega), Option.bind_some, hp]
   cases hcc : a.fCodes with
   | nil =>
    simp only [show (!(([] : Str) == ([] : Str))) = false by rfl, cond_false]
    cases hww : a.fWhen with
    | nil =>
     simp only [show ((([] : A5).length : Int) == 0) = true by rfl, cond_true]
     rw [Q0 (by simp only [List.length_singleton, p4]; omega)]
     simp only [Option.bind_some, aF, hcc, hww, cG, M6, List.nil_append]
    | cons g r =>
     rw [hww] at hf hwl
     simp only [show (((g :: r : A5).length : Int) == 0) = false by simp only [List.length_cons, beq_eq_false_iff_ne]; omega, cond_false, hi, Option.bind_some, hf, bne_self_eq_false]
     rw [Q0 (by simp only [List.length_singleton, p4]; omega), Option.bind_some, Q0 (by simp only [List.length_append, List.length_singleton, p4]; omega), Option.bind_some, Q0 (by simp only [List.length_append, List.length_singleton, p4]; omega)]
     simp only [Option.bind_some, aF, hcc, hww, cG, M6, List.nil_append, List.append_assoc, List.singleton_append, List.cons_append]
   | cons c l =>
    rw [hcc] at hcl
    simp only [show (!((c :: l : Str) == ([] : Str))) = true by rfl, cond_true]
    rw [Q0 (by simp only [List.length_singleton, p4]; omega), Option.bind_some, Q0 (by simp only [List.length_append, List.length_singleton, p4]; omega), Option.bind_some]
    cases hww : a.fWhen with
    | nil =>
     simp only [show ((([] : A5).length : Int) == 0) = true by rfl, cond_true]
     rw [Q0 (by simp only [List.length_append, List.length_singleton, p4]; omega)]
     simp only [Option.bind_some, aF, hcc, hww, cG, M6, List.nil_append, List.append_assoc, List.singleton_append, List.cons_append]
    | cons g r =>
     rw [hww] at hf hwl
     simp only [show (((g :: r : A5).length : Int) == 0) = false by simp only [List.length_cons, beq_eq_false_iff_ne]; omega, cond_false, hi, Option.bind_some, hf, bne_self_eq_false]
     rw [Q0 (by simp only [List.length_append, List.length_singleton, p4]; omega), Option.bind_some, Q0 (by simp only [List.length_append, List.length_singleton, p4]; omega), Option.bind_some, Q0 (by simp only [List.length_append, List.length_singleton, p4]; omega)]
     simp only [Option.bind_some, aF, hcc, hww, cG, M6, List.nil_append, List.append_assoc, List.singleton_append, List.cons_append]
theorem vd (p : UInt8 → Bool) (r : Str) : r.take (r.takeWhile p).length = r.takeWhile p ∧ r.drop (r.takeWhile p).length = r.dropWhile p := by
 have h := List.takeWhile_append_dropWhile (p := p) (l := r)
 constructor
 ·conv => lhs; rw [← h]
  exact List.take_left' (by rw [h])
 ·conv => lhs; rw [← h]
  exact List.drop_left' (by rw [h])
theorem qb {c : UInt8} {r : Str} (n : Nat) (hc : c.toNat = n) (h : 0 < r.length) : ((G0 r 0).bind fun v => some (v == (n : Int))) = some (D8 c r) := by
 subst hc
 cases r with
 | nil => cases h
 | cons d r =>
  rw [dJ, Option.bind_some, kB]
  rfl
theorem zy {β : Type} {L : Nat → Int → β} {K : Int → β} {l : Str} {p : UInt8 → Bool} (hl : l.length ≤ 1000000)
  (hs : ∀ m (i : Nat) (h : i < l.length), L (m + 1) (i : Int) = bif p l[i] then L m ((i + 1 : Nat) : Int) else K (i : Int)) (he : ∀ m, L (m + 1) (l.length : Int) = K (l.length : Int)) :
  ∀ (d i m : Nat), i + d = l.length → d < m → L m (i : Int) = K ((i + ((l.drop i).takeWhile p).length : Nat) : Int)
 | 0, i, m, hd, hm => by
  obtain ⟨m, rfl⟩ : ∃ q, m = q + 1 := ⟨m - 1, by omega⟩
  obtain rfl : i = l.length := by omega
  rw [he, List.drop_length]
  rfl
 | d + 1, i, m, hd, hm => by
  obtain ⟨m, rfl⟩ : ∃ q, m = q + 1 := ⟨m - 1, by omega⟩
  have hi : i < l.length := by omega
  rw [hs m i hi, List.drop_eq_getElem_cons hi, List.takeWhile_cons]
  cases hp : p l[i] with
  | false => simp
  | true =>
   rw [cond_true, zy hl hs he d (i + 1) m (by omega) (by omega), if_pos rfl, List.length_cons]
   congr 2
   omega
theorem ud (c : UInt8) : decide (cg [68, 76, 80] c ≥ 0) = eO c := by
 have hn : cg [] c = -1 := rfl
 by_cases h1 : c = 68
 ·subst h1; rfl
 by_cases h2 : c = 76
 ·subst h2; rfl
 by_cases h3 : c = 80
 ·subst h3; rfl
 rw [X4 h1, X4 h2, X4 h3, hn]
 unfold eO
 rw [beq_eq_false_iff_ne.2 h1, beq_eq_false_iff_ne.2 h2, beq_eq_false_iff_ne.2 h3]
 rfl
theorem nS (c : UInt8) : ((c.toNat : Int)).toNat.toUInt8 = c := by
 rw [Int.toNat_natCast]
 exact UInt8.ofNat_toNat
theorem vN {k : Nat} {o : Str} {K : Int → Option (a8 × Bool)} (hk : 1 ≤ k) (hl : o.length ≤ 1000000) {m : Nat} (h1 : 1 ≤ o.length) (hm : o.length < m) : O8 k o K m 1 = K (((1 + ((o.drop 1).takeWhile eO).length : Nat)) : Int) := by
 have e63 := m0
 obtain ⟨k, rfl, _⟩ := i8 (show 0 + 1 ≤ k by omega)
 refine zy (L := fun m i => O8 (k + 1) o K m i) (p := eO) hl ?_ ?_ (o.length - 1) 1 m (by omega) (by omega)
 ·intro m i hi
  have hx : strings_IndexByte (k + 1) [68, 76, 80] ((o[i]).toNat : Int) = some (cg [68, 76, 80] o[i]) := by
   show some (cg [68, 76, 80] ((o[i]).toNat : Int).toNat.toUInt8) = _
   rw [nS]
  simp only [O8, show decide ((i : Int) < (o.length : Int)) = true by simp; omega, cond_true, gp hi, Option.bind_some, hx, ud, l4 hi (by omega)]
 ·intro m
  simp only [O8, show decide ((o.length : Int) < (o.length : Int)) = false by simp, cond_false, Option.bind_some]
theorem zt {o : Str} {K : Int → Option (a8 × Str × Bool)} (hl : o.length ≤ 1000000) {m : Nat} (h1 : 1 ≤ o.length) (hm : o.length < m) : H2 o K m 1 = K (((1 + ((o.drop 1).takeWhile azL).length : Nat)) : Int) := by
 have e63 := m0
 refine zy (L := fun m i => H2 o K m i) (p := azL) hl ?_ ?_ (o.length - 1) 1 m (by omega) (by omega)
 ·intro m i hi
  simp only [H2, show decide ((i : Int) < (o.length : Int)) = true by simp; omega, cond_true, gp hi, Option.bind_some, l4 hi (by omega)]
  unfold azL
  cases decide (((o[i]).toNat : Int) ≥ 65) <;> cases decide (((o[i]).toNat : Int) ≤ 90) <;> rfl
 ·intro m
  simp only [H2, show decide ((o.length : Int) < (o.length : Int)) = false by simp, cond_false, Option.bind_some]
def qu (k : Nat) (b : a7) (s : Str) (a : a8) (r : Str) : Option (a8 × Bool) :=
 (((cd k b a.fSegment).bind fun v20 => (some (v20.1, v20.2))).bind fun o21 =>
      (bif (o21.2 != 0) then (some (({ fSegment := [], fCodes := [], fWhen := ([] : List (List a6)) } : a8), false)) else
      ((bif (decide ((r.length : Int) > 2)) then ((G0 r 0).bind fun v22 => (bif (v22 == 40) then ((G0 r (Go.IntKind.wrap .i64 ((r.length : Int) - 1))).bind fun v23 => (some ((v23 == 41)))) else (some (false)))) else (some (false))).bind fun o24 =>
       (bif o24 then (((cut r 1 (Go.IntKind.wrap .i64 ((r.length : Int) - 1))).bind fun v25 => ((N9 k b o21.1 v25).bind fun v26 => (some (v26.2, { a with fWhen := v26.1 })))).bind fun o27 =>
        (bif (o27.1 != 0) then (some (({ fSegment := [], fCodes := [], fWhen := ([] : List (List a6)) } : a8), false)) else
        (((B2 k b o27.2).bind fun v28 => (some (v28.2, v28.1))).bind fun o29 =>
         ((bif (o29.1 == 0) then (some ((o29.2 == s), o27.2)) else (some (false, o27.2))).bind fun o30 =>
         (some (o30.2, o30.1)))))) else
        (((B2 k b a).bind fun v31 => (some (v31.2, v31.1))).bind fun o32 =>
         ((bif (o32.1 == 0) then (some ((o32.2 == s), a)) else (some (false, a))).bind fun o33 =>
         (some (o33.2, o33.1))))))))
def nU (b : a7) (n cs r : Str) : a8 := { fSegment := n, fCodes := cs, fWhen := (nk b (u0 b n).1 r).1 }
def yY (b : a7) (s n cs r : Str) : Bool := (u0 b n).2 == 0 && ((nk b (u0 b n).1 r).2 == 0 && ((aO b (nU b n cs r)).2 == 0 && ((aO b (nU b n cs r)).1 == s)))
theorem wr {r : Str} (h : 2 < r.length) : ∃ c m d, r = c :: (m ++ [d]) := by
 cases r with
 | nil => simp at h
 | cons c q =>
  rcases List.eq_nil_or_concat q with e | ⟨m, d, e⟩
  ·subst e; simp at h
  ·exact ⟨c, m, d, by rw [e]; simp⟩
theorem ll {k : Nat} {b : a7} {s n cs r : Str} (hk : maxLen + 40 ≤ k) (hw : i1 b) (hn : n.length ≤ 1000) (hcs : cs.length ≤ 100000) (hr : r.length ≤ 100000) :
  ∃ a, qu k b s { fSegment := n, fCodes := cs, fWhen := [] } r = some (a, yY b s n cs r) ∧ (yY b s n cs r = true → a = nU b n cs r) := by
 have e63 := m0
 unfold qu yY nU
 simp only [jy (show maxLen + 11 ≤ k by omega) hw, Option.bind_some]
 have hnil : wfL (wfL u3) ([] : A5) := ⟨by simp, fun g hg => by cases hg⟩
 have hne : ((u0 b n).2 != 0) = !((u0 b n).2 == 0) := rfl
 rw [hne]
 generalize he : ((u0 b n).2 == 0) = e
 cases e with
 | false => exact ⟨_, rfl, fun h => by cases h⟩
 | true =>
  simp only [Bool.not_true, cond_false, Bool.true_and]
  by_cases hl : 2 < r.length
  ·obtain ⟨c, m, d, rfl⟩ := wr hl
   have hlen : (c :: (m ++ [d])).length = m.length + 2 := by simp
   have hd : decide ((((c :: (m ++ [d])) : Str).length : Int) > 2) = true := by rw [hlen, decide_eq_true_eq]; rw [hlen] at hl; omega
   have hwr : Go.IntKind.wrap .i64 ((((c :: (m ++ [d])) : Str).length : Int) - 1) = ((m.length + 1 : Nat) : Int) := by
    rw [hlen, U7 (by omega) (by rw [hlen] at hr; omega)]
    omega
   have hlast : G0 (c :: (m ++ [d])) ((m.length + 1 : Nat) : Int) = some (d.toNat : Int) := by
    unfold G0
    rw [if_pos (by omega), Int.toNat_natCast, List.getElem?_cons_succ, List.getElem?_append_right (Nat.le_refl _), Nat.sub_self]
    rfl
   have hcut : cut (c :: (m ++ [d])) 1 ((m.length + 1 : Nat) : Int) = some m := by
    have := du (l := c :: (m ++ [d])) (i := 1) (j := m.length + 1) (by omega) (by rw [hlen]; omega)
    rw [show ((1 : Nat) : Int) = 1 by rfl] at this
    rw [this, List.take_succ_cons, List.drop_succ_cons, List.drop_zero, List.take_left]
   have hmid : yV (c :: (m ++ [d])) = m := by
    unfold yV
    rw [hlen, show m.length + 2 - 1 = m.length + 1 by omega, List.take_succ_cons, List.drop_succ_cons, List.drop_zero, List.take_left]
   have h40 : D8 40 (c :: (m ++ [d])) = (c == 40) := rfl
   have h41 : D8 41 (c :: (m ++ [d])).reverse = (d == 41) := by
    rw [List.reverse_cons, List.reverse_append, List.reverse_singleton]
    rfl
   have b40 : ((c.toNat : Int) == 40) = (c == 40) := kB c 40
   have b41 : ((d.toNat : Int) == 41) = (d == 41) := kB d 41
   unfold nk
   rw [hd, h40, h41, hmid]
   simp only [cond_true, dJ, Option.bind_some, b40, hwr, hlast, b41, hcut, Bool.true_and]
   have main : ∀ u : A5 × Int, u.2 = 0 ∨ True → True := fun _ _ => trivial
   cases c == 40 <;> cases d == 41
   all_goals simp only [cond_true, cond_false, Option.bind_some, Bool.and_true, Bool.and_false, Bool.true_and, Bool.false_and]
   all_goals first
    | (rw [mu (show maxLen + 20 ≤ k by omega) hw (show m.length ≤ 100000 by rw [hlen] at hr; omega)]
       have hpw := zp (t := (u0 b n).1) (s := m) hw (by rw [hlen] at hr; omega)
       simp only [Option.bind_some, de (a := { fSegment := n, fCodes := cs, fWhen := (ag b (u0 b n).1 m).1 }) hk hw ⟨by show n.length ≤ maxLen; omega, by show cs.length ≤ maxLen; omega, hpw, trivial⟩]
       have hne2 : ((ag b (u0 b n).1 m).2 != 0) = !((ag b (u0 b n).1 m).2 == 0) := rfl
       rw [hne2]
       cases (ag b (u0 b n).1 m).2 == 0 with
       | false => exact ⟨_, rfl, fun h => by cases h⟩
       | true =>
         simp only [Bool.not_true, cond_false, Bool.true_and]
         cases (aO b { fSegment := n, fCodes := cs, fWhen := (ag b (u0 b n).1 m).1 }).2 == 0 with
         | false => exact ⟨_, rfl, fun h => by cases h⟩
         | true => exact ⟨_, rfl, fun _ => rfl⟩)
    | (simp only [de (a := { fSegment := n, fCodes := cs, fWhen := [] }) hk hw ⟨by show n.length ≤ maxLen; omega, by show cs.length ≤ maxLen; omega, hnil, trivial⟩, Option.bind_some, beq_self_eq_true, Bool.true_and]
       cases (aO b { fSegment := n, fCodes := cs, fWhen := [] }).2 == 0 with
       | false => exact ⟨_, rfl, fun h => by cases h⟩
       | true => exact ⟨_, rfl, fun _ => rfl⟩)
  ·have hd : decide ((r.length : Int) > 2) = false := by simp only [decide_eq_false_iff_not]; omega
   unfold nk
   rw [hd]
   simp only [cond_false, Option.bind_some, Bool.false_and, de (a := { fSegment := n, fCodes := cs, fWhen := [] }) hk hw ⟨by show n.length ≤ maxLen; omega, by show cs.length ≤ maxLen; omega, hnil, trivial⟩, beq_self_eq_true, Bool.true_and]
   cases (aO b { fSegment := n, fCodes := cs, fWhen := [] }).2 == 0 with
   | false => exact ⟨_, rfl, fun h => by cases h⟩
   | true => exact ⟨_, rfl, fun _ => rfl⟩
theorem pj {k : Nat} {b : a7} {s : Str} (hk : maxLen + 41 ≤ k) (hw : i1 b) (hs : s.length ≤ 100000) : ∃ a, fU k b s = some (a, okP b s) ∧ (okP b s = true → a = di b s) := by
 have e63 := m0
 obtain ⟨k, rfl, hq⟩ := i8 (c := maxLen + 40) hk
 simp only [fU]
 by_cases h8 : s.length ≤ 8
 ·have hd : decide ((s.length : Int) ≤ 8) = true := by rw [decide_eq_true_eq]; omega
  have hf : okP b s = false := by
   unfold okP
   rw [decide_eq_false (show ¬ 8 < s.length by omega)]
   rfl
  rw [hd, hf]
  exact ⟨_, rfl, fun h => by cases h⟩
 have hd : decide ((s.length : Int) ≤ 8) = false := by rw [decide_eq_false_iff_not]; omega
 have hcut : cut s 0 8 = some (s.take 8) := by
  have := du (l := s) (i := 0) (j := 8) (by omega) (by omega)
  simpa using this
 have htrim : F0 k (s.take 8) [32] = some (O0 s) := by
  obtain ⟨k, rfl, _⟩ := i8 (show 0 + 1 ≤ k by omega)
  simp only [F0, qF]
  rw [if_pos ⟨by decide, by rw [List.length_take]; omega⟩]
  rfl
 have hcut8 : cut s 8 (s.length : Int) = some (s.drop 8) := ca (i := 8) (by omega)
 have hdl : (s.drop 8).length = s.length - 8 := List.length_drop
 have hnl : (O0 s).length ≤ 1000 := by
  obtain ⟨m, hm⟩ := jh 32 _ (s.take 8) rfl
  have : (s.take 8).length = (O0 s).length + m := by
   conv => lhs; rw [hm]
   rw [List.length_append, List.length_replicate]
   rfl
  rw [List.length_take] at this
  omega
 simp only [hd, cond_false, hcut, Option.bind_some, htrim, hcut8]
 have e42 : ((G0 (s.drop 8) 0).bind fun v6 => some (v6 == 42)) = some (D8 42 (s.drop 8)) := qb (c := 42) 42 rfl (by omega)
 rw [e42]
 simp only [Option.bind_some]
 have hok : okP b s = yY b s (O0 s) (eI (s.drop 8)).1 (eI (s.drop 8)).2 := by
  unfold okP yY
  rw [decide_eq_true (show 8 < s.length by omega)]
  rfl
 have hca : di b s = nU b (O0 s) (eI (s.drop 8)).1 (eI (s.drop 8)).2 := rfl
 rw [hok, hca]
 unfold eI
 cases h42 : D8 42 (s.drop 8) with
 | false =>
  simp only [cond_false]
  exact ll (by omega) hw hnl (by simp) (by omega)
 | true =>
  simp only [cond_true]
  rw [vN (by omega) (by omega) (by omega) (by omega)]
  obtain ⟨t1, t2⟩ := vd eO ((s.drop 8).drop 1)
  generalize hw1 : ((s.drop 8).drop 1).takeWhile eO = tw at t1 t2 ⊢
  generalize hw2 : ((s.drop 8).drop 1).dropWhile eO = dw at t2 ⊢
  have htl : tw.length + dw.length = s.length - 9 := by
   have := congrArg List.length (List.takeWhile_append_dropWhile (p := eO) (l := (s.drop 8).drop 1))
   rw [List.length_append, hw1, hw2, List.length_drop, hdl] at this
   omega
  have c1 : cut (s.drop 8) 1 ((1 + tw.length : Nat) : Int) = some tw := by
   have := du (l := s.drop 8) (i := 1) (j := 1 + tw.length) (by omega) (by omega)
   rw [show ((1 : Nat) : Int) = 1 by rfl] at this
   rw [this, List.drop_take, show 1 + tw.length - 1 = tw.length by omega, t1]
  have c2 : cut (s.drop 8) ((1 + tw.length : Nat) : Int) ((s.drop 8).length : Int) = some dw := by
   rw [ca (by omega), ← List.drop_drop, t2]
  simp only [c1, c2, Option.bind_some]
  exact ll (by omega) hw hnl (by omega) (by omega)
end Go.Sh

namespace Go.Sh
open Go.AE
open Go.Lib (trimRightB)
set_option linter.unusedVariables false
set_option linter.unusedSimpArgs false
section
variable {β : Type} {L : Nat → Int → Int → β} {K : Int → Int → β} {n : Nat} {hit : Nat → Bool}
theorem uX (hs : ∀ m (i : Nat) x, i < n → L (m + 1) x (i : Int) = bif hit i then L m (i : Int) ((i + 1 : Nat) : Int) else L m x ((i + 1 : Nat) : Int)) (he : ∀ m x, L (m + 1) x (n : Int) = K x (n : Int)) :
  ∀ (d i m : Nat) (x : Int), i + d = n → d < m → (∀ q, i ≤ q → q < n → hit q = false) → L m x (i : Int) = K x (n : Int)
 | 0, i, m, x, hd, hm, _ => by
  obtain ⟨m, rfl⟩ : ∃ q, m = q + 1 := ⟨m - 1, by omega⟩
  obtain rfl : i = n := by omega
  exact he m x
 | d + 1, i, m, x, hd, hm, h => by
  obtain ⟨m, rfl⟩ : ∃ q, m = q + 1 := ⟨m - 1, by omega⟩
  rw [hs m i x (by omega), h i (Nat.le_refl i) (by omega), cond_false]
  exact uX hs he d (i + 1) m x (by omega) (by omega) (fun q h1 h2 => h q (by omega) h2)
theorem yZ (hs : ∀ m (i : Nat) x, i < n → L (m + 1) x (i : Int) = bif hit i then L m (i : Int) ((i + 1 : Nat) : Int) else L m x ((i + 1 : Nat) : Int)) (he : ∀ m x, L (m + 1) x (n : Int) = K x (n : Int)) {j : Nat} (hj : j < n) (hh : hit j = true) (ho : ∀ q, q < n → q ≠ j → hit q = false) :
  ∀ (d i m : Nat) (x : Int), i + d = n → d < m → i ≤ j → L m x (i : Int) = K (j : Int) (n : Int)
 | 0, i, m, x, hd, hm, hi => by omega
 | d + 1, i, m, x, hd, hm, hi => by
  obtain ⟨m, rfl⟩ : ∃ q, m = q + 1 := ⟨m - 1, by omega⟩
  rw [hs m i x (by omega)]
  by_cases e : i = j
  ·subst e
   rw [hh, cond_true]
   exact uX hs he d (i + 1) m _ (by omega) (by omega) (fun q h1 h2 => ho q h2 (by omega))
  ·rw [ho i (by omega) e, cond_false]
   exact yZ hs he hj hh ho d (i + 1) m x (by omega) (by omega) (by omega)
end
theorem tf {b : a7} (hv : valid b = true) {i j : Nat} (hi : i < b.fTypes.length) (hj : j < b.fTypes.length) (hne : i ≠ j) : (b.fTypes[i]).fName ≠ (b.fTypes[j]).fName := by
 have key : ∀ p q (hp : p < b.fTypes.length) (hq : q < b.fTypes.length), p < q → (b.fTypes[p]).fName ≠ (b.fTypes[q]).fName := by
  intro p q hp hq hpq e
  have hv' := hv
  unfold valid fh at hv'
  simp only [Bool.and_eq_true, Bool.not_eq_true'] at hv'
  have := P1.1 hv'.2.2.2.1.2 q hq
  rw [ae, t6 hq] at this
  simp only [Bool.or_eq_false_iff] at this
  have hd := this.1.2
  rw [eP, t6 hq, List.any_eq_false] at hd
  exact hd b.fTypes[p] (by rw [List.mem_take_iff_getElem]; exact ⟨p, by omega, rfl⟩) (by rw [e, beq_self_eq_true])
 rcases Nat.lt_or_ge i j with h | h
 ·exact key i j hi hj h
 ·exact fun e => key j i hj hi (by omega) e.symm
theorem zu {k : Nat} {b : a7} {s : Str} {K : Int → Int → Option (a8 × Str × Bool)} {m : Nat} (hk : 10 ≤ k) (hv : valid b = true) (hl : b.fTypes.length ≤ maxLen) (hs : s.length ≤ 100000) (hm : b.fTypes.length < m) :
  t7 k b s K m (-1) 0 = K (bif decide (8 < s.length) && ((u0 b (O0 s)).2 == 0) then (u0 b (O0 s)).1 else -1) (b.fTypes.length : Int) := by
 have e63 := m0
 have step : ∀ m (i : Nat) x, i < b.fTypes.length → t7 k b s K (m + 1) x (i : Int) = bif (decide (8 < s.length) && at' b.fTypes (fun t => t.fName == O0 s) i) then t7 k b s K m (i : Int) ((i + 1 : Nat) : Int) else t7 k b s K m x ((i + 1 : Nat) : Int) := by
  intro m i x hi
  have hno := qG (nL hv hi)
  have hnl := sN hno
  simp only [t7, show decide ((i : Int) < (b.fTypes.length : Int)) = true by simp; omega, cond_true, n7 hi, Option.bind_some, T4 hk (show (b.fTypes[i]).fName.length ≤ 1000000 by omega), l4 hi hl, t6 hi]
  by_cases h8 : 8 < s.length
  ·have d1 : decide ((s.length : Int) > 8) = true := by rw [decide_eq_true_eq]; omega
   have hcut : cut s 0 8 = some (s.take 8) := by
    have := du (l := s) (i := 0) (j := 8) (by omega) (by omega)
    simpa using this
   rw [d1, decide_eq_true h8]
   simp only [cond_true, hcut, Option.bind_some, Bool.true_and, sR hno hnl.2 (show (s.take 8).length = 8 by rw [List.length_take]; omega)]
   rfl
  ·have d1 : decide ((s.length : Int) > 8) = false := by rw [decide_eq_false_iff_not]; omega
   rw [d1, decide_eq_false h8]
   rfl
 have fin : ∀ m x, t7 k b s K (m + 1) x (b.fTypes.length : Int) = K x (b.fTypes.length : Int) := by
  intro m x
  simp only [t7, show decide ((b.fTypes.length : Int) < (b.fTypes.length : Int)) = false by simp, cond_false]
 by_cases h8 : 8 < s.length
 ·rcases kv hv (O0 s) with he | ⟨j, hj, h1, h2, _⟩
  ·have hz : ((u0 b (O0 s)).2 == 0) = false := by
    have : ((u0 b (O0 s)).2 != 0) = !((u0 b (O0 s)).2 == 0) := rfl
    rw [this] at he
    simpa using he
   rw [hz, Bool.and_false, cond_false]
   refine uX (L := fun m x i => t7 k b s K m x i) step fin b.fTypes.length 0 m (-1) (by omega) hm (fun q _ hq => ?_)
   rw [t6 hq]
   cases hc : (b.fTypes[q]).fName == O0 s with
   | false => simp
   | true =>
    exfalso
    have ha0 : u4 b [] = 0 := by unfold u4; rw [hv]; rfl
    unfold u0 at hz
    rw [ha0] at hz
    rcases K4 b.fTypes (fun t => t.fName == O0 s) with ⟨hn, _⟩ | ⟨j, hj, _, _, hp⟩
    ·rw [hn q hq] at hc; cases hc
    ·rw [hp] at hz
     unfold dl at hz
     rw [decide_eq_false (show ¬ ((j : Int) < 0) by omega)] at hz
     cases hz
  ·rw [h1, decide_eq_true h8]
   simp only [beq_self_eq_true, Bool.and_self, cond_true]
   refine yZ (L := fun m x i => t7 k b s K m x i) step fin hj ?_ (fun q hq hne => ?_) b.fTypes.length 0 m (-1) (by omega) hm (Nat.zero_le _)
   ·rw [t6 hj, h2, decide_eq_true h8, beq_self_eq_true]
    rfl
   ·rw [t6 hq]
    have := tf hv hq hj hne
    rw [h2] at this
    rw [beq_eq_false_iff_ne.2 this, Bool.and_false]
 ·rw [decide_eq_false h8, Bool.false_and, cond_false]
  refine uX (L := fun m x i => t7 k b s K m x i) step fin b.fTypes.length 0 m (-1) (by omega) hm (fun q _ hq => ?_)
  rw [decide_eq_false h8, Bool.false_and]
def pR (k : Nat) (b : a7) (y : Int) (o : a8) (r : Str) : Option (a8 × Str × Bool) :=
 (((G0 r 0).bind fun v47 => (some ((v47 == 32)))).bind fun o48 =>
           (bif o48 then (((cut r 1 (r.length : Int)).bind fun v49 => (some (v49, true, o))).bind fun o50 =>
            (some (o50.2.2, o50.1, o50.2.1))) else
           (((cut r 1 (r.length : Int)).bind fun v51 => ((O4 k b y v51).bind fun v52 => (some (v52.1, v52.2.1, v52.2.2)))).bind fun o53 =>
            (((G0 r 0).bind fun v54 => (bif (v54 != 40) then (some (true)) else (bif (!o53.2.2) then (some (true)) else (bif (o53.2.1 == ([] : Str)) then (some (true)) else ((G0 o53.2.1 0).bind fun v55 => (some ((v55 != 41)))))))).bind fun o56 =>
            (bif o56 then (some (({ fSegment := [], fCodes := [], fWhen := ([] : List (List a6)) } : a8), ([] : Str), false)) else
            (((cut o53.2.1 1 (o53.2.1.length : Int)).bind fun v57 => (some (v57, true, { o with fWhen := o53.1 }))).bind fun o58 =>
             (some (o58.2.2, o58.1, o58.2.1))))))))
def Fu : Option (a8 × Str) → a8 × Str × Bool
 | none => (ti, [], false)
 | some q => (q.1, q.2, true)
theorem kA {k : Nat} {b : a7} {t : Int} {x : b7} {n cs r : Str} (hk : maxLen + 14 ≤ k) (hw : i1 b) (ha : u4 b [t] = 0) (hi : idx b.fTypes t = some x) (hok : y4 x = true) (hx : x.fFields.length ≤ maxLen) (hr : r.length ≤ 100000) (h0 : 0 < r.length) :
  pR k b t { fSegment := n, fCodes := cs, fWhen := [] } r = some (Fu ((pu x r).map fun w => ({ fSegment := n, fCodes := cs, fWhen := w.1 }, w.2))) := by
 cases r with
 | nil => cases h0
 | cons d q =>
  simp only [List.length_cons] at hr
  have b32 : ((d.toNat : Int) == 32) = (d == 32) := kB d 32
  have b40 : ((d.toNat : Int) != 40) = !(d == 40) := by
   have : ((d.toNat : Int) == 40) = (d == 40) := kB d 40
   rw [← this]
   rfl
  unfold pR pu
  simp only [dJ, Option.bind_some, b32, b40, kG, D8, List.drop_succ_cons, List.drop_zero, mJ hk hw ha hi hok hx (show q.length ≤ 100000 by omega)]
  cases d == 32 with
  | true => rfl
  | false =>
   simp only [cond_false]
   cases N4 x (q.length + 1) q [] [] with
   | none => cases d == 40 <;> rfl
   | some p =>
    obtain ⟨c, e⟩ := p
    simp only [tA]
    cases e with
    | nil => cases d == 40 <;> cases B3 x c <;> rfl
    | cons f e =>
     have b41 : ((f.toNat : Int) != 41) = !(f == 41) := by
      have : ((f.toNat : Int) == 41) = (f == 41) := kB f 41
      rw [← this]
      rfl
     simp only [show ((f :: e : Str) == ([] : Str)) = false by rfl, cond_false, dJ, Option.bind_some, b41, kG, D8, List.drop_succ_cons, List.drop_zero]
     cases d == 40 <;> cases B3 x c <;> cases f == 41 <;> rfl
theorem mN {k : Nat} {b : a7} {s : Str} (hk : maxLen + 41 ≤ k) (hw : i1 b) (hv : valid b = true) (hs : s.length ≤ 100000) : cq k b s = some (Fu (gc b s)) := by
 have e63 := m0
 have hl : b.fTypes.length ≤ maxLen := hw.2.2.1.1
 obtain ⟨k, rfl, hq⟩ := i8 (c := maxLen + 40) hk
 simp only [cq]
 rw [zu (by omega) hv hl hs (by omega)]
 unfold gc
 by_cases h8 : 8 < s.length
 ·have hd : decide (s.length ≤ 8) = false := by rw [decide_eq_false_iff_not]; omega
  rw [decide_eq_true h8, hd]
  simp only [Bool.true_and, cond_false]
  rcases kv hv (O0 s) with he | ⟨j, hj, h1, h2, h3, h4, h5⟩
  ·have hz : ((u0 b (O0 s)).2 == 0) = false := by
    have : ((u0 b (O0 s)).2 != 0) = !((u0 b (O0 s)).2 == 0) := rfl
    rw [this] at he
    simpa using he
   rw [hz, he]
   rfl
  ·rw [h1]
   have hfl : (b.fTypes[j]).fFields.length ≤ maxLen := (hw.2.2.1.2 _ (List.getElem_mem hj)).2.2.2.2.1.1
   have hj0 : decide ((j : Int) < 0) = false := by rw [decide_eq_false_iff_not]; omega
   have hcut8 : cut s 8 (s.length : Int) = some (s.drop 8) := ca (i := 8) (by omega)
   have hdl : (s.drop 8).length = s.length - 8 := List.length_drop
   have e42 : ((G0 (s.drop 8) 0).bind fun v6 => some (v6 == 42)) = some (D8 42 (s.drop 8)) := qb (c := 42) 42 rfl (by omega)
   simp only [beq_self_eq_true, bne_self_eq_false, cond_true, cond_false, hj0, h5, Option.bind_some, h2, hcut8, e42]
   unfold ic
   cases h42 : D8 42 (s.drop 8) with
   | false =>
    simp only [cond_false, Option.bind_some]
    exact kA (by omega) hw h3 h5 h4 hfl (by omega) (by omega)
   | true =>
    simp only [cond_true]
    rw [zt (by omega) (by omega) (by omega)]
    obtain ⟨t1, t2⟩ := vd azL ((s.drop 8).drop 1)
    generalize hw1 : ((s.drop 8).drop 1).takeWhile azL = tw at t1 t2 ⊢
    generalize hw2 : ((s.drop 8).drop 1).dropWhile azL = dw at t2 ⊢
    have htl : tw.length + dw.length = s.length - 9 := by
     have := congrArg List.length (List.takeWhile_append_dropWhile (p := azL) (l := (s.drop 8).drop 1))
     rw [List.length_append, hw1, hw2, List.length_drop, hdl] at this
     omega
    have c1 : cut (s.drop 8) 1 ((1 + tw.length : Nat) : Int) = some tw := by
     have := du (l := s.drop 8) (i := 1) (j := 1 + tw.length) (by omega) (by omega)
     rw [show ((1 : Nat) : Int) = 1 by rfl] at this
     rw [this, List.drop_take, show 1 + tw.length - 1 = tw.length by omega, t1]
    have c2 : cut (s.drop 8) ((1 + tw.length : Nat) : Int) ((s.drop 8).length : Int) = some dw := by
     rw [ca (by omega), ← List.drop_drop, t2]
    simp only [c1, c2, Option.bind_some, bG (show maxLen + 5 ≤ k by omega) (show tw.length ≤ maxLen by omega)]
    cases htw : tw == ([] : Str) with
    | true => rfl
    | false =>
     cases hcg : C7 0 tw with
     | false => rfl
     | true =>
      cases hdw : dw == ([] : Str) with
      | true => rfl
      | false =>
       simp only [Bool.not_true, cond_false, Bool.or_self, Option.bind_some]
       refine kA (by omega) hw h3 h5 h4 hfl (by omega) ?_
       cases dw with
       | nil => cases hdw
       | cons c l => simp
 ·have hd : decide (s.length ≤ 8) = true := by rw [decide_eq_true_eq]; omega
  rw [decide_eq_false h8, hd]
  rfl
def mB (b : a7) (s : Str) : a8 × Int := bif !valid b then (ti, 100) else bif okP b s then (di b s, 0) else (ti, 3)
theorem mO {k : Nat} {b : a7} {s : Str} (hk : maxLen + 43 ≤ k) (hw : i1 b) (hs : s.length ≤ 100000) : aB k b s = some (mB b s) := by
 obtain ⟨k, rfl, hq⟩ := i8 (c := maxLen + 42) hk
 simp only [aB, iN (show maxLen + 9 ≤ k by omega) hw, Option.bind_some, mB]
 cases hv : valid b with
 | false => rfl
 | true =>
  simp only [Bool.not_true, cond_false, mN (show maxLen + 41 ≤ k by omega) hw hv hs, Option.bind_some]
  rcases uw (s := s) hw hv with ⟨h1, h2⟩ | ⟨h1, h2⟩
  ·rw [h1, h2]
   rfl
  ·rw [h1]
   cases hb : gc b s with
   | none => rfl
   | some q =>
    obtain ⟨a, r⟩ := q
    cases r with
    | nil => exact absurd hb (h2 a)
    | cons c r => rfl
theorem zU {x : b7} {c : A5} (hok : y4 x = true) (h : B3 x c = true) : wfL (wfL u3) c := by
 have hs := dt hok h
 exact nK (fun g hg => ⟨by have := (hs.2 g hg).1; omega, (hs.2 g hg).2⟩) (by have := hs.1; omega)
theorem tj : n6 ti := ⟨F1 (by decide), F1 (by decide), ⟨by simp [ti], fun g hg => by cases hg⟩, trivial⟩
theorem vK {b : a7} {s : Str} (hw : i1 b) : n6 (mB b s).1 := by
 unfold mB
 cases hv : valid b with
 | false => exact tj
 | true =>
  cases ho : okP b s with
  | false => exact tj
  | true =>
   obtain ⟨h1, _⟩ := sP hv ho
   obtain ⟨j, x, h⟩ := gD hw hv h1
   have hcl := fF _ 0 h.codes
   show n6 (di b s)
   exact ⟨F1 (by have := h.name.2; omega), F1 (by omega), zU h.ok h.cond, trivial⟩
end Go.Sh

namespace Go.Sh
open Go.AE
set_option linter.unusedVariables false
set_option linter.unusedSimpArgs false
def aEq (a b : a8) : Bool := bif a.fSegment == b.fSegment then (bif a.fCodes == b.fCodes then cEq a.fWhen b.fWhen else false) else false
def aNe (l m : List a8) (j : Nat) : Bool := match l[j]?, m[j]? with | some a, some b => !aEq a b | _, _ => true
def vj (l m : List a8) : Bool := bif ((l.length : Int) != (m.length : Int)) then false else !P0 (aNe l m) l.length
theorem tp {l m : List a8} {j : Nat} (h1 : j < l.length) (h2 : j < m.length) : aNe l m j = !aEq l[j] m[j] := by
 unfold aNe; rw [List.getElem?_eq_getElem h1, List.getElem?_eq_getElem h2]
theorem wh (a : a8) : aEq a a = true := by
 unfold aEq
 rw [beq_self_eq_true, beq_self_eq_true, wu]
 rfl
theorem vk (l : List a8) : vj l l = true := by
 unfold vj
 rw [bne_self_eq_false, cond_false]
 have : P0 (aNe l l) l.length = false := P1.2 (fun i hi => by rw [tp hi hi, wh]; rfl)
 rw [this]; rfl
theorem cE {k : Nat} {a b : a8} (hk : maxLen + 8 ≤ k) (ha : n6 a) : bi k a b = some (aEq a b) := by
 obtain ⟨k, rfl, hq⟩ := i8 (c := maxLen + 7) hk
 simp only [bi, fk (show maxLen + 6 ≤ k by omega) ha.2.2.1, aEq]
 cases a.fSegment == b.fSegment <;> cases a.fCodes == b.fCodes <;> rfl
theorem Z6 {k : Nat} {a b : a8} (hk : maxLen + 8 ≤ k) (ha : n6 a) : W5 k a b = some (aEq a b) := by
 obtain ⟨k, rfl, hq⟩ := i8 (c := maxLen + 7) hk
 simp only [W5, fp (show maxLen + 3 ≤ k by omega) ha.2.2.1, aEq]
 cases a.fSegment == b.fSegment <;> cases a.fCodes == b.fCodes <;> rfl
theorem W9 {k : Nat} {l m : List a8} (hk : maxLen + 12 ≤ k) (hl : wfL n6 l) : R6 k l m = some (vj l m) := by
 obtain ⟨k, rfl, hq⟩ := i8 (c := maxLen + 11) hk
 obtain ⟨k, rfl, hq2⟩ := i8 (c := maxLen + 10) hq
 simp only [R6, G8, vj]
 cases hne : ((l.length : Int) != (m.length : Int)) with
 | true => rfl
 | false =>
  have hlm := mq hne
  simp only [cond_false]
  have : r7 k l m (fun j x0 x1 => bi j x0 x1) (fun y14 => some true) k 0 = some (!P0 (aNe l m) l.length) := by
   refine Eq.trans (S9 (L := fun q x => r7 k l m _ _ q x) (n := l.length) (g := aNe l m) (r := fun _ => some false) (z := some true) ?_ ?_ (by have := hl.1; omega)) ?_
   rotate_left 2
   ·rw [u7]; cases P0 (aNe l m) l.length <;> rfl
   ·intro q i hi _
    simp only [r7, n7 hi, n7 (show i < m.length by omega), tp hi (show i < m.length by omega), Option.bind_some, l4 hi hl.1, show decide ((i : Int) < (l.length : Int)) = true by simp; exact hi, cond_true, cE (show maxLen + 8 ≤ k by omega) (hl.2 _ (List.getElem_mem hi))]
   ·intro q _
    simp only [r7, show decide ((l.length : Int) < (l.length : Int)) = false by simp, cond_false]
  rw [this]
  rfl
theorem Y3 {k : Nat} {l m : List a8} (hk : maxLen + 12 ≤ k) (hl : wfL n6 l) : J8 k l m = some (vj l m) := by
 obtain ⟨k, rfl, hq⟩ := i8 (c := maxLen + 11) hk
 simp only [J8, vj]
 cases hne : ((l.length : Int) != (m.length : Int)) with
 | true => rfl
 | false =>
  have hlm := mq hne
  simp only [cond_false]
  refine Eq.trans (S9 (L := fun q x => G2 k l m _ q x) (n := l.length) (g := aNe l m) (r := fun _ => some false) (z := some true) ?_ ?_ (by have := hl.1; omega)) ?_
  rotate_left 2
  ·rw [u7]; cases P0 (aNe l m) l.length <;> rfl
  ·intro q i hi _
   simp only [G2, n7 hi, n7 (show i < m.length by omega), tp hi (show i < m.length by omega), Option.bind_some, l4 hi hl.1, show decide ((i : Int) < (l.length : Int)) = true by simp; exact hi, cond_true, Z6 (show maxLen + 8 ≤ k by omega) (hl.2 _ (List.getElem_mem hi))]
  ·intro q _
   simp only [G2, show decide ((l.length : Int) < (l.length : Int)) = false by simp, cond_false]
def hG (b : a7) : List Str → List a8 → List a8 × Int
 | [], out => (out, 0)
 | s :: r, out => bif okP b s then hG b r (out ++ [di b s]) else ([], 3)
def pN (b : a7) (l : List Str) : List a8 × Int := bif !valid b then ([], 100) else hG b l []
theorem pi {k : Nat} {b : a7} {l : List Str} (hk : maxLen + 41 ≤ k) (hw : i1 b) (hl : l.length ≤ 10) (hs : ∀ s ∈ l, s.length ≤ 300) : ∀ (d i m : Nat) (out : List a8), i + d = l.length → d < m → out.length ≤ i → I3 k b l (fun y17 _ => some (y17, 0)) m out (i : Int) = some (hG b (l.drop i) out)
 | 0, i, m, out, hd, hm, ho => by
  obtain ⟨m, rfl⟩ : ∃ q, m = q + 1 := ⟨m - 1, by omega⟩
  obtain rfl : i = l.length := by omega
  simp only [I3, show decide ((l.length : Int) < (l.length : Int)) = false by simp, cond_false, List.drop_length, hG]
 | d + 1, i, m, out, hd, hm, ho => by
  have e63 := m0
  obtain ⟨m, rfl⟩ : ∃ q, m = q + 1 := ⟨m - 1, by omega⟩
  have hi : i < l.length := by omega
  obtain ⟨a, h1, h2⟩ := pj (k := k) (s := l[i]) hk hw (by have := hs _ (List.getElem_mem hi); omega)
  rw [List.drop_eq_getElem_cons hi]
  simp only [I3, show decide ((i : Int) < (l.length : Int)) = true by simp; omega, cond_true, n7 hi, Option.bind_some, h1, hG]
  cases ho2 : okP b l[i] with
  | false => rfl
  | true =>
   rw [h2 ho2]
   simp only [Bool.not_true, cond_false, cond_true]
   rw [aG (by simp only [List.length_singleton, p4]; omega), Option.bind_some, l4 hi (by omega)]
   exact pi hk hw hl hs d (i + 1) m _ (by omega) (by omega) (by simp; omega)
theorem pd {k : Nat} {b : a7} {l : List Str} (hk : maxLen + 43 ≤ k) (hw : i1 b) (hv : valid b = true) (hl : l.length ≤ 10) (hs : ∀ s ∈ l, s.length ≤ 300) : ∀ (d i m : Nat) (out : List a8), i + d = l.length → d < m → out.length ≤ i → E7 k b l (fun y17 _ => some (y17, 0)) m out (i : Int) = some (hG b (l.drop i) out)
 | 0, i, m, out, hd, hm, ho => by
  obtain ⟨m, rfl⟩ : ∃ q, m = q + 1 := ⟨m - 1, by omega⟩
  obtain rfl : i = l.length := by omega
  simp only [E7, show decide ((l.length : Int) < (l.length : Int)) = false by simp, cond_false, List.drop_length, hG]
 | d + 1, i, m, out, hd, hm, ho => by
  have e63 := m0
  obtain ⟨m, rfl⟩ : ∃ q, m = q + 1 := ⟨m - 1, by omega⟩
  have hi : i < l.length := by omega
  rw [List.drop_eq_getElem_cons hi]
  simp only [E7, show decide ((i : Int) < (l.length : Int)) = true by simp; omega, cond_true, n7 hi, Option.bind_some, mO hk hw (show (l[i]).length ≤ 100000 by have := hs _ (List.getElem_mem hi); omega), hG, mB, hv, Bool.not_true, cond_false]
  cases ho2 : okP b l[i] with
  | false => rfl
  | true =>
   simp only [cond_true, bne_self_eq_false, cond_false]
   rw [aG (by simp only [List.length_singleton, p4]; omega), Option.bind_some, l4 hi (by omega)]
   exact pd hk hw hv hl hs d (i + 1) m _ (by omega) (by omega) (by simp; omega)
theorem df {k : Nat} {b : a7} {l : List Str} (hk : maxLen + 45 ≤ k) (hw : i1 b) (hl : l.length ≤ 10) (hs : ∀ s ∈ l, s.length ≤ 300) : Y6 k b l = some (pN b l) := by
 have e63 := m0
 obtain ⟨k, rfl, hq⟩ := i8 (c := maxLen + 44) hk
 simp only [Y6, lX (show maxLen + 9 ≤ k by omega) hw, Option.bind_some, pN]
 cases valid b with
 | false => rfl
 | true =>
  simp only [Bool.not_true, cond_false]
  exact pi (by omega) hw hl hs l.length 0 k [] (by omega) (by omega) (Nat.zero_le _)
theorem bc {k : Nat} {b : a7} {l : List Str} (hk : maxLen + 45 ≤ k) (hw : i1 b) (hl : l.length ≤ 10) (hs : ∀ s ∈ l, s.length ≤ 300) : R2 k b l = some (pN b l) := by
 have e63 := m0
 obtain ⟨k, rfl, hq⟩ := i8 (c := maxLen + 44) hk
 simp only [R2, iN (show maxLen + 9 ≤ k by omega) hw, Option.bind_some, pN]
 cases hv : valid b with
 | false => rfl
 | true =>
  simp only [Bool.not_true, cond_false]
  exact pd (by omega) hw hv hl hs l.length 0 k [] (by omega) (by omega) (Nat.zero_le _)
theorem rP {b : a7} (hw : i1 b) (hv : valid b = true) : ∀ (l : List Str) (out : List a8), (∀ a ∈ out, n6 a) → (∀ a ∈ (hG b l out).1, n6 a) ∧ (hG b l out).1.length ≤ out.length + l.length
 | [], out, h => ⟨h, Nat.le_refl _⟩
 | s :: r, out, h => by
  simp only [hG]
  cases ho : okP b s with
  | false => exact ⟨(fun a ha => by cases ha), Nat.zero_le _⟩
  | true =>
   have hc : n6 (di b s) := by
    have := vK (s := s) hw
    unfold mB at this
    rw [hv, ho] at this
    exact this
   simp only [cond_true]
   obtain ⟨h1, h2⟩ := rP hw hv r (out ++ [di b s]) (fun a ha => by
    rcases List.mem_append.1 ha with ha | ha
    ·exact h a ha
    ·rw [List.mem_singleton] at ha; subst ha; exact hc)
   refine ⟨h1, ?_⟩
   simp only [List.length_append, List.length_cons, List.length_nil] at h2 ⊢
   omega
theorem wj {b : a7} {l : List Str} (hw : i1 b) (hl : l.length ≤ 10) : wfL n6 (pN b l).1 := by
 have e63 := m0
 unfold pN
 cases hv : valid b with
 | false => exact ⟨by simp, fun a ha => by cases ha⟩
 | true =>
  obtain ⟨h1, h2⟩ := rP hw hv l [] (fun a ha => by cases ha)
  simp only [Bool.not_true, cond_false]
  exact ⟨by simp only [List.length_nil] at h2; omega, h1⟩
theorem sA (c : UInt8) : ∀ l : Str, -1 ≤ cg l c ∧ decide (cg l c ≥ 0) = l.any (· == c)
 | [] => ⟨show (-1 : Int) ≤ -1 by decide, rfl⟩
 | b :: l => by
  obtain ⟨h1, h2⟩ := sA c l
  rw [cg, List.any_cons]
  cases hb : b == c with
  | true => exact ⟨by simp, by simp⟩
  | false =>
   simp only [Bool.false_eq_true, if_false, Bool.false_or]
   rw [← h2]
   by_cases h : cg l c = -1
   ·rw [h]
    exact ⟨by simp, by simp⟩
   ·have : (cg l c == -1) = false := beq_eq_false_iff_ne.2 h
    rw [this]
    simp only [Bool.false_eq_true, if_false]
    refine ⟨by omega, ?_⟩
    rw [decide_eq_decide]
    omega
theorem Fh {k : Nat} {a : a8} (hk : maxLen + 3 ≤ k) (ha : n6 a) (c : UInt8) : ∃ r, jf k a (c.toNat : Int) = some r ∧ dM k a (c.toNat : Int) = some r := by
 have hcl : a.fCodes.length ≤ maxLen := ha.2.1
 obtain ⟨k, rfl, hq⟩ := i8 (c := maxLen + 2) hk
 refine ⟨a.fCodes.any (· == c), ?_, ?_⟩
 ·obtain ⟨k, rfl, _⟩ := i8 (c := maxLen + 1) hq
  have hx : strings_IndexByte (k + 1) a.fCodes (c.toNat : Int) = some (cg a.fCodes c) := by
   show some (cg a.fCodes (c.toNat : Int).toNat.toUInt8) = _
   rw [nS]
  simp only [jf, hx, Option.bind_some, (sA c a.fCodes).2]
 ·unfold dM
  refine Eq.trans (S9 (L := fun q x => S0 a (c.toNat : Int) _ q x) (n := a.fCodes.length) (g := at' a.fCodes (· == c)) (r := fun _ => some true) (z := some false) ?_ ?_ (by omega)) ?_
  rotate_left 2
  ·rw [u7, hJ]; cases a.fCodes.any (· == c) <;> rfl
  ·intro q i hi _
   simp only [S0, gp hi, Option.bind_some, l4 hi hcl, show decide ((i : Int) < (a.fCodes.length : Int)) = true by simp; exact hi, cond_true, kB, t6 hi]
  ·intro q _
   simp only [S0, show decide ((a.fCodes.length : Int) < (a.fCodes.length : Int)) = false by simp, cond_false]
theorem yU {k m : Nat} {l : List a8} {p : Nat} {K : Int → Option Bool} (hk : maxLen + 3 ≤ k) (hl : wfL n6 l) (hp : p < l.length) (hm : 4 < m) : E0 k l (p : Int) K m 0 = K 4 := by
 have e63 := m0
 refine Eq.trans (S9 (L := fun q x => E0 k l (p : Int) K q x) (n := 4) (g := fun _ => false) (r := fun _ => none) (z := K 4) ?_ ?_ hm) (aq 4 0 (fun q _ _ => rfl))
 ·intro q i hi _
  have hi4 : i < ([68, 76, 80, 88] : Str).length := hi
  obtain ⟨r, h1, h2⟩ := Fh (k := k) hk (hl.2 _ (List.getElem_mem hp)) (([68, 76, 80, 88] : Str)[i])
  simp only [E0, show decide ((i : Int) < 4) = true by simp; omega, cond_true, n7 hp, Option.bind_some, gp hi4, h1, h2, beq_self_eq_true, Bool.not_true, cond_false, l4 hi (show 4 ≤ maxLen by omega)]
 ·intro q _
  rfl
theorem yT {k m : Nat} {l : List a8} {K : Option Bool} (hk : maxLen + 8 ≤ k) (hl : wfL n6 l) (hm : l.length < m) : A2 k l (fun _ => K) m 0 = K := by
 have e63 := m0
 refine Eq.trans (S9 (L := fun q x => A2 k l (fun _ => K) q x) (n := l.length) (g := fun _ => false) (r := fun _ => none) (z := K) ?_ ?_ hm) (aq l.length 0 (fun q _ _ => rfl))
 ·intro q i hi _
  have h0 : 0 < l.length := by omega
  have e0 : idx l 0 = some l[0] := n7 (i := 0) h0
  simp only [A2, show decide ((i : Int) < (l.length : Int)) = true by simp; omega, cond_true]
  rw [yU (by omega) hl hi (by omega)]
  simp only [e0, n7 hi, Option.bind_some, cE hk (hl.2 _ (List.getElem_mem h0)), Z6 hk (hl.2 _ (List.getElem_mem h0)), beq_self_eq_true, Bool.not_true, cond_false, l4 hi hl.1]
 ·intro q _
  simp only [A2, show decide ((l.length : Int) < (l.length : Int)) = false by simp, cond_false]
theorem jV (b : a7) (texts : List Str) (l : List a8) (hb : i1 b) (ht : wfL wfS texts) (hl : wfL n6 l) : ∃ k, V6 k b texts l = some true := by
 have e63 := m0
 refine ⟨maxLen + 60, ?_⟩
 obtain ⟨r1, h1⟩ := sH (k := maxLen + 59) (by omega) hb
 obtain ⟨r2, h2⟩ := rk (k := maxLen + 59) (by omega) hl
 have h5 := zP (k := maxLen + 59) (by omega)
 show V6 (maxLen + 59 + 1) b texts l = some true
 simp only [V6, h1, h2, h5, Option.bind_some]
 by_cases hn : (texts.length : Int) > 10
 ·have hd : decide ((texts.length : Int) > 10) = true := by simpa using hn
  rw [hd]
  cases r1 <;> cases r2 <;> rfl
 have hd : decide ((texts.length : Int) > 10) = false := by simpa using hn
 rw [hd]
 have key : ∀ K : Int → Option Bool, (∀ y, (∀ s ∈ texts, s.length ≤ 300) → K y = some true) → C0 (maxLen + 59) texts K (maxLen + 59) 0 = some true := by
  intro K hK
  refine Eq.trans (S9 (L := fun q x => C0 (maxLen + 59) texts K q x) (n := texts.length) (g := at' texts fun s => decide ((s.length : Int) > 300)) (r := fun _ => some true) (z := some true) ?_ ?_ (by omega)) ?_
  ·intro q i hi _
   simp only [C0, show decide ((i : Int) < (texts.length : Int)) = true by simp; omega, cond_true, n7 hi, Option.bind_some, h5, t6 hi, l4 hi (show texts.length ≤ maxLen by omega)]
  ·intro q hq
   simp only [C0, show decide ((texts.length : Int) < (texts.length : Int)) = false by simp, cond_false]
   refine hK _ (fun s hs => ?_)
   obtain ⟨i, hi, rfl⟩ := List.mem_iff_getElem.1 hs
   have := hq i hi
   rw [t6 hi, decide_eq_false_iff_not] at this
   omega
  ·rw [u7]
   cases P0 (at' texts fun s => decide ((s.length : Int) > 300)) texts.length <;> rfl
 have fin := key _ (fun y hs => by
  have w := wj (l := texts) hb (by omega)
  have p1 := df (k := maxLen + 59) (by omega) hb (show texts.length ≤ 10 by omega) hs
  have p2 := bc (k := maxLen + 59) (by omega) hb (show texts.length ≤ 10 by omega) hs
  show (((Y6 (maxLen + 59) b texts).bind fun v16 => (some (v16.1, v16.2))).bind fun o17 =>
        (((R2 (maxLen + 59) b texts).bind fun v18 => (some (v18.1, v18.2))).bind fun o19 =>
        (((J8 (maxLen + 59) o17.1 o19.1).bind fun v20 => (bif (!v20) then (some (true)) else (bif (o17.2 != o19.2) then (some (true)) else ((R6 (maxLen + 59) o17.1 l).bind fun v21 => ((J8 (maxLen + 59) o19.1 l).bind fun v22 => (bif (!(v21 == v22)) then (some (true)) else ((R6 (maxLen + 59) l l).bind fun v23 => (some ((!v23)))))))))).bind fun o24 =>
        (bif o24 then (some false) else
        (A2 (maxLen + 59) l (fun _ => some true) (maxLen + 59) 0))))) = some true
  simp only [p1, p2, Option.bind_some, Y3 (show maxLen + 12 ≤ maxLen + 59 by omega) w, W9 (show maxLen + 12 ≤ maxLen + 59 by omega) w, W9 (show maxLen + 12 ≤ maxLen + 59 by omega) hl, vk, beq_self_eq_true, bne_self_eq_false, Bool.not_true, cond_false]
  exact yT (by omega) hl (by have := hl.1; omega))
 cases r1 with
 | true => rfl
 | false =>
  cases r2 with
  | true => rfl
  | false => exact fin
end Go.Sh

