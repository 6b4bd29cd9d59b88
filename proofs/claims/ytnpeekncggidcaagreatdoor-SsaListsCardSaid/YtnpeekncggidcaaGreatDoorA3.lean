/- An evaluator of the bodies of functions, and that what it says holds: a call of which it says a result returns just this result and leaves all that it does not own as it was. Conditions: none. -/
import Derived.Test.YtnpeekncggidcaaGreatDoorA2
import Derived.LoopN
import Derived.Scope
import Derived.Lib.Replace
import Derived.Lib.ItoaNum
import Derived.Lib.TrimByte
import Derived.WideShapes
import Derived.OpenShut
import Derived.DataReads
import Derived.ChangeOld
import Derived.Shelf.Slices.Reverse
import Derived.Shelf.Strings.Repeat
import Derived.Shelf.Strings.OnBuilder
import Derived.Shelf.Small.Strs
import Derived.Shelf.Strconv.Itoa3
import Derived.Shelf.Strings.Replace
import Derived.Shelf.Strings.Trim
import Derived.Lib.LaidTab
namespace Go.AE
open Go.RowKit
set_option linter.unusedSimpArgs false
set_option linter.unusedVariables false
section
variable {P : Program} {G : Glo} {w : World} {E : Bnd} {S F : Sit} {O : Own} {callH : Q3}
def X.out : X → Exit
 | .normal => .normal
 | .exit i => .exit i
 | .ret => .ret
theorem Rel.forgetL {a : Act} : ∀ (ds : List (Nat × w9)) {st : St}, Rel G F st a w E S O → Rel G F { st with t := AE.forget ds st.t } a w E S O
 | [], st, h => h
 | d :: r, st, h => by
  have h1 : Rel G F { st with t := del d.1 st.t } a w E S O := by
   refine ⟨fun q v hl => ?_, h.sites, h.live, h.size, h.own, h.defers, h.par, h.glob⟩
   simp only [N8] at hl
   split at hl
   ·cases hl
   ·exact h.tmps q v hl
  exact Rel.forgetL r h1
theorem zX (hm : P.follows .mixedOrders = true) (hcall : ∀ f args r outs, callH f args = some (r, outs) → dO G P f args r outs) {b9 : List (Nat × c8)} {n : Nat} : ∀ (c : Code) {st st2 : St} {x : X} {a : Act} {w : World} {E : Bnd} {S : Sit} {O : Own} {Q : Exit → Act → World → Prop},
  s7 P callH b9 n c st = some (x, st2) → Rel G F st a w E S O → (∀ a' w' E' S' O', p7 w E O w' E' O' → Rel G F st2 a' w' E' S' O' → Q x.out a' w') → c.wp P Q a w := by
 intro c
 induction c with
 | skip =>
  intro st st2 x a w E S O Q he h hn
  simp only [s7, Option.some.injEq, Prod.mk.injEq] at he
  obtain ⟨rfl, rfl⟩ := he
  exact wp_skip (hn a w E S O (p7.refl h.own) h)
 | label l =>
  intro st st2 x a w E S O Q he h hn
  simp only [s7, Option.some.injEq, Prod.mk.injEq] at he
  obtain ⟨rfl, rfl⟩ := he
  exact wp_label (hn a w E S O (p7.refl h.own) h)
 | region id ops draw =>
  intro st st2 x a w E S O Q he h hn
  simp only [s7] at he
  obtain ⟨s, hs, he⟩ := map_some he
  obtain ⟨rfl, rfl⟩ := Prod.mk.inj he
  exact ut hm hcall hs h hn
 | seq c1 c2 ih1 ih2 =>
  intro st st2 x a w E S O Q he h hn
  simp only [s7] at he
  obtain ⟨⟨x1, st1⟩, h1, he⟩ := bind_some he
  refine wp_seq (ih1 h1 h (fun a' w' E' S' O' hfr hrel => ?_))
  cases x1 with
  | normal => exact ih2 he hrel (fun a2 w2 E2 S2 O2 hfr2 hrel2 => hn a2 w2 E2 S2 O2 (hfr.trans hfr2) hrel2)
  | exit i =>
   obtain ⟨rfl, rfl⟩ := Prod.mk.inj (Option.some.inj he)
   exact hn a' w' E' S' O' hfr hrel
  | ret =>
   obtain ⟨rfl, rfl⟩ := Prod.mk.inj (Option.some.inj he)
   exact hn a' w' E' S' O' hfr hrel
 | cond c c1 c2 ih1 ih2 =>
  intro st st2 x a w E S O Q he h hn
  simp only [s7] at he
  obtain ⟨v, hv, he⟩ := bind_some he
  cases v with
  | bool t =>
   have hc := lJ (U3 h hv)
   have hk : ∃ S', Rel G F (cj b9 c st) a w E S' O := by
    cases c with
    | tmp d =>
     have hk2 : cj b9 (.tmp d) st = bif (d4 (100000 + d) b9).isSome then killOne d st else st := rfl
     rw [hk2]
     cases (d4 (100000 + d) b9).isSome with
     | true => exact h.killOne d
     | false => exact ⟨S, h⟩
    | _ => exact ⟨S, h⟩
   obtain ⟨S', h'⟩ := hk
   cases t with
   | true => exact wp_cond_true hc (ih1 he h' hn)
   | false => exact wp_cond_false hc (ih2 he h' hn)
  | _ => cases he
 | block id c ih =>
  intro st st2 x a w E S O Q he h hn
  simp only [s7] at he
  obtain ⟨⟨x1, st1⟩, h1, he⟩ := map_some he
  have h' : Rel G F (gh b9 id st) a w E S O := by
   unfold gh
   cases d4 (200000 + id) b9 with
   | none => exact h
   | some r => exact (h.untake r.kill).forgetL r.ops
  refine wp_block (ih h1 h' (fun a' w' E' S' O' hfr hrel => ?_))
  cases x1 with
  | normal =>
   obtain ⟨rfl, rfl⟩ := Prod.mk.inj he
   exact hn a' w' E' S' O' hfr hrel
  | exit i =>
   simp only at he
   show (if i = id then _ else _)
   by_cases e : i = id
   ·subst e
    have hb : Nat.beq i i = true := by simp
    rw [hb] at he
    obtain ⟨rfl, rfl⟩ := Prod.mk.inj he
    rw [if_pos rfl]
    exact hn a' w' E' S' O' hfr hrel
   ·rw [jF e] at he
    obtain ⟨rfl, rfl⟩ := Prod.mk.inj he
    rw [if_neg e]
    exact hn a' w' E' S' O' hfr hrel
  | ret =>
   obtain ⟨rfl, rfl⟩ := Prod.mk.inj he
   exact hn a' w' E' S' O' hfr hrel
 | loop c ih =>
  intro st st2 x a w E S O Q he h hn
  simp only [s7] at he
  refine wp_loop_rounds n ?_
  have key : ∀ (k : Nat) {st : St} {a : Act} {w : World} {E : Bnd} {S : Sit} {O : Own}, B5 (s7 P callH b9 n c) k st = some (x, st2) → Rel G F st a w E S O → (∀ a' w' E' S' O', p7 w E O w' E' O' → Rel G F st2 a' w' E' S' O' → Q x.out a' w') → Code.rounds P c Q k a w := by
   intro k
   induction k with
   | zero => intro st a w E S O he; cases he
   | succ k ihk =>
    intro st a w E S O he h hn
    simp only [B5] at he
    obtain ⟨⟨x1, st1⟩, h1, he⟩ := bind_some he
    rw [rounds_succ]
    refine ih h1 h (fun a' w' E' S' O' hfr hrel => ?_)
    cases x1 with
    | normal => exact ihk he hrel (fun a2 w2 E2 S2 O2 hfr2 hrel2 => hn a2 w2 E2 S2 O2 (hfr.trans hfr2) hrel2)
    | exit i =>
     obtain ⟨rfl, rfl⟩ := Prod.mk.inj (Option.some.inj he)
     exact hn a' w' E' S' O' hfr hrel
    | ret =>
     obtain ⟨rfl, rfl⟩ := Prod.mk.inj (Option.some.inj he)
     exact hn a' w' E' S' O' hfr hrel
  exact key n he h hn
 | scope c ih =>
  intro st st2 x a w E S O Q he h hn
  simp only [s7] at he
  refine wp_scope_straight (ih he h (fun a' w' E' S' O' hfr hrel => ?_))
  have := hn a' w' E' S' O' hfr hrel
  cases x <;> exact this
 | exit i =>
  intro st st2 x a w E S O Q he h hn
  simp only [s7, Option.some.injEq, Prod.mk.injEq] at he
  obtain ⟨rfl, rfl⟩ := he
  exact wp_exit (hn a w E S O (p7.refl h.own) h)
 | ret =>
  intro st st2 x a w E S O Q he h hn
  simp only [s7, Option.some.injEq, Prod.mk.injEq] at he
  obtain ⟨rfl, rfl⟩ := he
  exact wp_ret (hn a w E S O (p7.refl h.own) h)
 | _ =>
  intro st st2 x a w E S O Q he h hn
  simp [s7] at he
theorem Rel.forget {st : St} {a : Act} (h : Rel G F st a w E S O) : Rel G noS st a w E S O :=
 ⟨h.tmps, h.sites, h.live, h.size, h.own, h.defers, (fun s q hq => by cases hq), h.glob⟩
theorem RT.noS_free {p p' : Pos} {v : V} {x : Value} (h : RT w E S O p v x) (hf : v.free = true) (O' : Own) : RT w E noS O' p' v x := by
 obtain ⟨h1, h2, h3⟩ := hZ h (gk hf)
 have hz : RZ w E v x := ⟨h1, h2, tT h hf⟩
 exact (RF.cell (hz.rf1 noS)).rt _ _
theorem vb {s b sz : Nat} {y : r8} {e : V} (hok : p6 w E S O s y) (hS : S s = some (b, sz)) (ha : y.arr = false) (hes : y.es = [e]) (hf : e.strip.free = true) {f : Pos → Pos} {p : Pos} (hp : ∀ r, f ([1, s] ++ r) = p ++ r) :
  RT1 w E noS (AE.relo f O) p (.io e) (.pointer (some ⟨b, 0, none⟩)) := by
 unfold p6 at hok
 rw [hS] at hok
 obtain ⟨k1, k2, c, et, fr, k3, k4, k5, k6, k7, k8, k9, k10⟩ := hok
 obtain ⟨q1, q2, q3⟩ := k10 ha
 have hel : e.cells.length = sz := by have := k8 0 (by omega); simpa [hes] using this
 have hR : ∀ j (hj : j < e.cells.length) z, c[j]? = some z → R w E S O ([1, s, 1] ++ [j]) (e.cells[j]) z := by
  intro j hj z hz
  have := q3 0 j (by omega) (by simpa [hes] using hj) z (by simpa using hz)
  simpa [hes] using this
 refine .io k3 k4 k5 ?_ ⟨by simp; omega, fun j hj hj' => ?_⟩ (by omega)
 ·simp only [AE.relo, k6, ha, Option.map_some]
  have := hp []
  simpa using this
 ·rw [Array.getElem_toList (xs := c)]
  have h1 := hR j hj (c[j]'(by simpa using hj')) (Array.getElem?_eq_getElem _)
  have hfree : (e.cells[j]).strip1.free1 4 = true := by
   have hf' : ∀ c ∈ e.strip.cells, c.free1 4 = true := List.all_eq_true.1 hf
   have hstr : e.strip.cells = e.cells.map V.strip1 := by
    cases e with
    | agg cs => rfl
    | tup us => simp [V.free, V.strip, V.cells, V.free1] at hf
    | io c => simp [V.free, V.strip, V.strip2, V.strip1, V.cells, V.free1] at hf
    | sl o z l => by_cases hq : o ≤ 1 <;> cases l <;> simp [V.strip, V.strip2, V.strip1, V.cells, hq]
    | _ => simp [V.strip, V.strip2, V.strip1, V.cells]
   exact hf' _ (by rw [hstr]; exact List.mem_map.2 ⟨_, List.getElem_mem hj, rfl⟩)
  exact (h1.toNoS hfree).reloc (fun b' q hb' => by
   simp only [AE.relo, hb', Option.map_some]
   have := hp ([1] ++ [j] ++ q)
   simpa using this)
theorem ez {f : Pos → Pos} {p : Pos} (hf : ∀ r, f (p ++ r) = p ++ r) : O9 w E O w E (AE.relo f O) p := aC hf
theorem O9.trans {w' w'' : World} {E' E'' : Bnd} {O' O'' : Own} {p : Pos} (h : O9 w E O w' E' O' p) (k : O9 w' E' O' w'' E'' O'' p) : O9 w E O w'' E'' O'' p :=
 ⟨fun b q hb => by
  obtain ⟨h1, h2, h3⟩ := h.same b q hb
  obtain ⟨k1, k2, k3⟩ := k.same b q h3
  exact ⟨k1.trans h1, k2.trans h2, k3⟩⟩
theorem O9.refl (p : Pos) : O9 w E O w E O p := ⟨fun b q hb => ⟨rfl, rfl, hb⟩⟩
theorem bB {s : Nat} {p' : Pos} {k : Nat} (h2 : k ≠ 1) (i : Nat) (r : Pos) : I6 [1, s] p' ([k, i] ++ r) = [k, i] ++ r := by
 refine K3 ?_
 simp only [List.cons_append, List.nil_append, List.cons_prefix_cons]
 intro hh
 exact h2 hh.1.symm
theorem gQ {t : Nat} {p' : Pos} {k : Nat} (h2 : k ≠ 0) (i : Nat) (r : Pos) : I6 [0, t] p' ([k, i] ++ r) = [k, i] ++ r := by
 refine K3 ?_
 simp only [List.cons_append, List.nil_append, List.cons_prefix_cons]
 intro hh
 exact h2 hh.1.symm
def gU (w : World) (S : Sit) (s : Nat) : V → Value → Prop
 | .io e, x => ∃ b, S s = some (b, e.cells.length) ∧ x = .pointer (some ⟨b, 0, none⟩)
 | .sl _ sz l, x => (x = .slice none 0 0 ∧ l = []) ∨ ∃ b cap c et fr, S s = some (b, sz) ∧ x = .slice (some ⟨b, 0, none⟩) l.length cap ∧ l.length ≤ cap ∧ w.heap[b]? = some (.cells c et fr) ∧ cap * sz ≤ c.size
 | _, _ => True
theorem gU.other {S' : Sit} {s : Nat} {v : V} {x : Value} (h : gU w S s v x) (hS : S' s = S s) : gU w S' s v x := by
 cases v with
 | sl o sz l => simp only [gU] at h ⊢; rw [hS]; exact h
 | io e => simp only [gU] at h ⊢; rw [hS]; exact h
 | _ => trivial
theorem gU.ext {w' : World} {E' : Bnd} (hx : Ext w E w' E') {s : Nat} {v : V} {x : Value} (h : gU w S s v x) : gU w' S s v x := by
 cases v with
 | sl o sz l =>
  simp only [gU] at h ⊢
  rcases h with h | ⟨b, cap, c, et, fr, h1, h2, h3, h4, h5⟩
  ·exact .inl h
  ·obtain ⟨c', fr', k1, k2, _⟩ := hx.cells b c et fr h4
   exact .inr ⟨b, cap, c', et, fr', h1, h2, h3, k1, by rw [k2]; exact h5⟩
 | io e => exact h
 | _ => trivial
theorem Aq {n i k : Nat} {y : r8} {v o : V} {x : Value} (ho : Fk y v = some o) (hok : p6 w E S O (n + i) y) (hh : gU w S (n + i) v x) : RT1 w E noS (AE.relo (I6 [1, n + i] [2, k]) O) [2, k] o x := by
 unfold Fk at ho
 split at ho
 ·split at ho
  ·rename_i e ha hes
   split at ho
   ·rename_i hf
    obtain rfl := Option.some.inj ho
    obtain ⟨b, h1, rfl⟩ := hh
    exact vb (f := I6 [1, n + i] [2, k]) (p := [2, k]) hok h1 ha hes hf (fun r => N2 _ _ r)
   ·cases ho
  ·cases ho
 ·rename_i sz l
  split at ho
  ·rename_i hc
   obtain ⟨ha, rfl, hl⟩ := hc
   obtain rfl := Option.some.inj ho
   simp only [gU] at hh
   rcases hh with ⟨rfl, rfl⟩ | ⟨b, cap, c, et, fr, h1, rfl, h3, h4, h5⟩
   ·have : y.es = [] := List.eq_nil_of_length_eq_zero hl
    rw [this, List.map_nil]
    exact .one rfl (.free (.base (.slNil 2 y.sz)))
   ·unfold p6 at hok
    rw [h1] at hok
    obtain ⟨k1, k2, c', et', fr', k3, k4, k5, k6, k7, k8, k9, k10⟩ := hok
    rw [h4] at k3
    injection k3 with k3
    injection k3 with q1 q2 q3
    subst q1; subst q2; subst q3
    rw [← hl]
    refine .one rfl (lk (O := O) h4 (by omega) (by omega) k4 k5 ?_ k8 (fun i j hi hj z hz => ⟨_, k9 ha i j hi hj z hz⟩))
    simp only [AE.relo, k6, ha, if_true, Option.map_some]
    exact congrArg some (N2 [1, n + i] [2, k] [0])
  ·cases ho
 ·cases ho
theorem rr (n : Nat) (X : Nat → Value) {a : Act} : ∀ (args : List V) (i k : Nat) {st st' : St} {outs : List V} {S : Sit} {O : Own}, lj n i args st = some (outs, st') → Rel G noS st a w E S O →
  (∀ j (h : j < args.length), (args[j]).isOut = true → gU w S (n + (i + j)) (args[j]) (X (i + j))) →
  ∃ S' O', p7 w E O w E O' ∧ Rel G noS st' a w E S' O' ∧ (∀ k', k' < k → O9 w E O w E O' [2, k']) ∧ outs.length = (V3 i args).length ∧
   ∀ j (h : j < outs.length) (h' : j < (V3 i args).length), RT1 w E noS O' [2, k + j] (outs[j]) (X ((V3 i args)[j]))
 | [], i, k, st, st', outs, S, O, he, h, hB => by
  simp only [lj, Option.some.injEq, Prod.mk.injEq] at he
  obtain ⟨rfl, rfl⟩ := he
  exact ⟨S, O, p7.refl h.own, h, fun _ _ => O9.refl _, rfl, fun j hj => by simp at hj⟩
 | v :: r, i, k, st, st', outs, S, O, he, h, hB => by
  simp only [lj] at he
  cases hv : v.isOut with
  | true =>
   rw [hv] at he
   simp only [cond_true] at he
   obtain ⟨y, hy, he⟩ := bind_some he
   obtain ⟨o, ho, he⟩ := bind_some he
   obtain ⟨⟨es, st2⟩, hr, he⟩ := map_some he
   obtain ⟨rfl, rfl⟩ := Prod.mk.inj he
   rw [qh hv]
   have hh := hB 0 (by simp) hv
   simp only [List.getElem_cons_zero, Nat.add_zero] at hh
   have hio1 := Aq (k := k) ho (h.sites _ y hy) hh
   have h1 := h.dropAny (n + i) rfl
   have h2 := h1.relo (I6 [1, n + i] [2, k]) (fun d v _ r => K3 (cl r)) (fun s' y' hl' r => K3 (aT (fun e => by subst e; rw [(dx _ st).1] at hl'; cases hl') r))
   obtain ⟨S', O', g1, g2, g3, g4, g5⟩ := rr n X r (i + 1) (k + 1) hr h2 (fun j hj hjo => by
    have := hB (j + 1) (by simpa using hj) (by simpa using hjo)
    simp only [List.getElem_cons_succ] at this
    rw [show i + 1 + j = i + (j + 1) by omega]
    exact this.other (by simp [w3]))
   refine ⟨S', O', (y7 h.own _).trans g1, g2, fun k' hk' => (ez (fun r => bB (by decide) k' r)).trans (g3 k' (by omega)), by simp [g4], fun j hj hj' => ?_⟩
   cases j with
   | zero => exact hio1.mono (Ext.refl _ _) (fun _ _ h => h) (g3 k (by omega))
   | succ j =>
    simp only [List.getElem_cons_succ]
    rw [show k + (j + 1) = k + 1 + j by omega]
    exact g5 j (by simpa using hj) (by simpa using hj')
  | false =>
   rw [hv] at he
   simp only [cond_false] at he
   rw [sC hv]
   exact rr n X r (i + 1) k he h (fun j hj hjo => by
    have := hB (j + 1) (by simpa using hj) (by simpa using hjo)
    simp only [List.getElem_cons_succ] at this
    rw [show i + 1 + j = i + (j + 1) by omega]
    exact this)
theorem R.slNoS {p : Pos} {o sz : Nat} {l : List V} {x : Value} (h : R w E S O p (.sl o sz l) x) : R w E noS O p (.sl o sz l) x := by
 cases h with
 | free h => cases h with
  | base h => exact .free (.base h)
 | own ho hb hc hl hf hE h0 hO hw he => exact .own ho hb hc hl hf hE h0 hO hw he
theorem vc {p : Pos} {o sz k : Nat} {l : List V} {x : Value} (ho : o ≤ 2) (h : R w E S O p (.sl o sz l) x) : ∃ E', A3 w E O E' p ∧ R w E' S O p (.sl (min o k) sz l) x := by
 by_cases hk : k ≤ 1
 ·exact qs hk ho h
 ·refine ⟨E, A3.refl _, ?_⟩
  rw [show min o k = o by omega]
  exact h
theorem uu {res : List (Nat × Nat)} {i t : Nat} {st st' : St} {a : Act} {v v' : V} {x : Value} (he : rH res i st v = some (v', st')) (h : Rel G noS st a w E S O) (ht : d4 t st.t = none) (hr : RT w E S O [0, t] v x) :
  ∃ E' S' O', p7 w E O w E' O' ∧ Rel G noS st' a w E' S' O' ∧ (∀ k, O9 w E O w E' O' [2, k]) ∧ (∀ j, j ≠ i → O9 w E O w E' O' [4, j]) ∧ RT1 w E' noS O' [4, i] v' x := by
 have rt1 : ∀ {O' : Own} {v : V}, v.flat = true → RT w E noS O' [4, i] v x → RT1 w E noS O' [4, i] v x := by
  intro O' v hfl hh
  cases hh with
  | cell h => exact h
  | tup => simp [V.flat] at hfl
 have free : v.free = true → some (v, st) = some (v', st') → ∃ E' S' O', p7 w E O w E' O' ∧ Rel G noS st' a w E' S' O' ∧ (∀ k, O9 w E O w E' O' [2, k]) ∧ (∀ j, j ≠ i → O9 w E O w E' O' [4, j]) ∧ RT1 w E' noS O' [4, i] v' x := by
  intro hf he
  obtain ⟨rfl, rfl⟩ := Prod.mk.inj (Option.some.inj he)
  exact ⟨E, S, O, p7.refl h.own, h, fun _ => O9.refl _, fun _ _ => O9.refl _, rt1 (gk hf) (hr.noS_free hf O)⟩
 have site : ∀ (s : Nat) (f : Pos → Pos), f = I6 [1, s] [4, i] → Rel G noS (AE.dropAny s st) a w E (w3 S s none) (AE.relo f O) ∧ p7 w E O w E (AE.relo f O) ∧ (∀ k, O9 w E O w E (AE.relo f O) [2, k]) ∧ (∀ j, j ≠ i → O9 w E O w E (AE.relo f O) [4, j]) := by
  intro s f hf
  subst hf
  refine ⟨(h.dropAny s rfl).relo _ (fun d v _ r => K3 (cl r)) (fun s' y' hl' r => K3 (aT (fun e => by subst e; rw [(dx _ st).1] at hl'; cases hl') r)), y7 h.own _, fun k => ez (fun r => bB (by decide) k r), fun j _ => ez (fun r => bB (by decide) j r)⟩
 unfold rH at he
 split at he
 ·rename_i s
  obtain ⟨y, hy, he⟩ := bind_some he
  split at he
  ·rename_i e ha hes
   split at he
   ·rename_i hf
    obtain ⟨rfl, rfl⟩ := Prod.mk.inj (Option.some.inj he)
    obtain ⟨g1, g2, g3, g4⟩ := site s _ rfl
    have hr1 := w4 (E := E) (S := S) (w := w) (by simpa [V.strip, V.strip2, V.strip1] using hr.strip) rfl (by simp)
    cases hr1 with
    | base hb => cases hb
    | @ptr _ b sz _ _ hS =>
     have hio := vb (f := I6 [1, s] [4, i]) (p := [4, i]) (h.sites _ y hy) hS ha hes hf (fun r => N2 _ _ r)
     refine ⟨E, _, _, g2, g1, g3, g4, ?_⟩
     rw [Nat.zero_mul]
     exact hio
   ·cases he
  ·cases he
 ·rename_i s n
  obtain ⟨y, hy, he⟩ := bind_some he
  split at he
  ·rename_i hc
   obtain ⟨ha, hl⟩ := hc
   obtain ⟨rfl, rfl⟩ := Prod.mk.inj (Option.some.inj he)
   obtain ⟨g1, g2, g3, g4⟩ := site s _ rfl
   have hr1 := w4 (E := E) (S := S) (w := w) (by simpa [V.strip, V.strip2, V.strip1] using hr.strip) rfl (by simp)
   have hok := h.sites s y hy
   have hsl : R w E S (AE.relo (I6 [1, s] [4, i]) O) ([4, i] ++ [0]) (.sl 2 y.sz (y.es.map V.strip2)) x := by
    cases hr1 with
    | base hb => cases hb
    | arefNil =>
     have : y.es = [] := List.eq_nil_of_length_eq_zero hl
     rw [this, List.map_nil]
     exact .free (.base (.slNil 2 y.sz))
    | @aref _ b sz _ _ cap c e fr hS hb hc hcap =>
     unfold p6 at hok
     rw [hS] at hok
     obtain ⟨k1, k2, c', e', fr', k3, k4, k5, k6, k7, k8, k9, k10⟩ := hok
     rw [hb] at k3
     injection k3 with k3
     injection k3 with q1 q2 q3
     subst q1; subst q2; subst q3
     subst k1
     subst hl
     rw [Nat.zero_mul] at hc ⊢
     refine lk (O := O) hb (by omega) hcap k4 k5 ?_ k8 (fun i' j hi hj x hx => ⟨_, k9 ha i' j hi hj x hx⟩)
     simp only [AE.relo, k6, ha, if_true, Option.map_some]
     exact congrArg some (N2 [1, s] _ [0])
   obtain ⟨E', r1, r2⟩ := vc (k := (d4 i res).getD 0) (Nat.le_refl 2) hsl
   have hother : ∀ (k j : Nat), (k = 4 → j ≠ i) → O9 w E (AE.relo (I6 [1, s] [4, i]) O) w E' (AE.relo (I6 [1, s] [4, i]) O) [k, j] := by
    intro k j hkj
    refine r1.up.kept (fun r => ?_)
    simp only [List.cons_append, List.nil_append, List.cons_prefix_cons]
    intro hh
    exact hkj hh.1.symm hh.2.1.symm
   refine ⟨E', w3 S s none, AE.relo (I6 [1, s] [4, i]) O, g2.trans (r1.framed g1.own), ?_, fun k => (g3 k).trans (hother 2 k (fun e => by cases e)), fun j hj => (g4 j hj).trans (hother 4 j (fun _ => hj)), .one rfl r2.slNoS⟩
   refine ⟨fun d v hl => ?_, fun s y hl => (g1.sites s y hl).mono r1.ext (fun _ _ h => h) rfl (hother 1 s (fun e => by cases e)), g1.live, g1.size, g1.own, g1.defers, g1.par, g1.glob.mono r1.ext⟩
   obtain ⟨x', q1, q2⟩ := g1.tmps d v hl
   exact ⟨x', q1, q2.mono r1.ext (fun _ _ h => h) (hother 0 d (fun e => by cases e))⟩
  ·cases he
 ·rename_i o sz l
  split at he
  ·rename_i ho
   obtain ⟨rfl, rfl⟩ := Prod.mk.inj (Option.some.inj he)
   have hr1 := hr.of_tmp rfl (by simp) (by simp)
   have g1 := h.relo (I6 [0, t] [4, i]) (fun d v hl r => K3 (bC (fun e => by subst e; rw [ht] at hl; cases hl) r)) (fun s y _ r => K3 (J6 r))
   have hr2 : R w E S (AE.relo (I6 [0, t] [4, i]) O) ([4, i] ++ [0]) (.sl o sz l) x := hr1.reloc (fun b q hb => by
    simp only [AE.relo, hb, Option.map_some]
    rw [List.append_assoc, N2, List.append_assoc])
   obtain ⟨E', r1, r2⟩ := vc (k := (d4 i res).getD 0) ho hr2
   have hother : ∀ (k j : Nat), (k = 4 → j ≠ i) → O9 w E (AE.relo (I6 [0, t] [4, i]) O) w E' (AE.relo (I6 [0, t] [4, i]) O) [k, j] := by
    intro k j hkj
    refine r1.up.kept (fun r => ?_)
    simp only [List.cons_append, List.nil_append, List.cons_prefix_cons]
    intro hh
    exact hkj hh.1.symm hh.2.1.symm
   refine ⟨E', S, _, (y7 h.own _).trans (r1.framed g1.own), ?_, fun k => (ez (fun r => gQ (by decide) k r)).trans (hother 2 k (fun e => by cases e)), fun j hj => (ez (fun r => gQ (by decide) j r)).trans (hother 4 j (fun _ => hj)), .one rfl r2.slNoS⟩
   refine ⟨fun d v hl => ?_, fun s y hl => (g1.sites s y hl).mono r1.ext (fun _ _ h => h) rfl (hother 1 s (fun e => by cases e)), g1.live, g1.size, g1.own, g1.defers, g1.par, g1.glob.mono r1.ext⟩
   obtain ⟨x', q1, q2⟩ := g1.tmps d v hl
   exact ⟨x', q1, q2.mono r1.ext (fun _ _ h => h) (hother 0 d (fun e => by cases e))⟩
  ·cases he
 ·rename_i cs
  split at he
  ·rename_i hf
   obtain ⟨rfl, rfl⟩ := Prod.mk.inj (Option.some.inj he)
   have hs : RF w E S (.agg (cs.map V.strip1)) x := by simpa [V.strip, V.strip2] using hr.strip
   exact ⟨E, S, O, p7.refl h.own, h, fun _ => O9.refl _, fun _ _ => O9.refl _, rt1 rfl ((hs.rt O [0, t]).noS_free hf O)⟩
  ·cases he
 ·split at he
  ·rename_i hf
   exact free hf he
  ·cases he
def sY (tmps : Array Value) : ResultVar → Sem Value
 | .tmp t => pure (tmps.getD t undef)
 | .cell a t => do loadVar t (← asAddr (tmps.getD a undef))
theorem iQ {res : List (Nat × Nat)} {a : Act} : ∀ (rvs : List ResultVar) (i : Nat) {st st' : St} {vs : List V} {E : Bnd} {S : Sit} {O : Own}, Z8 P res i rvs st = some (vs, st') → Rel G noS st a w E S O →
  ∃ E' S' O', p7 w E O w E' O' ∧ Rel G noS st' a w E' S' O' ∧ (∀ k, O9 w E O w E' O' [2, k]) ∧ (∀ j, j < i → O9 w E O w E' O' [4, j]) ∧ vs.length = rvs.length ∧
   ∃ ys : List Value, ys.length = rvs.length ∧ (∀ j (h : j < ys.length) (h' : j < rvs.length), (sY a.tmps (rvs[j])).run P w = .ok (ys[j]) w) ∧ ∀ j (h : j < vs.length) (h' : j < ys.length), RT1 w E' noS O' [4, i + j] (vs[j]) (ys[j])
 | [], i, st, st', vs, E, S, O, he, h => by
  simp only [Z8, Option.some.injEq, Prod.mk.injEq] at he
  obtain ⟨rfl, rfl⟩ := he
  exact ⟨E, S, O, p7.refl h.own, h, fun _ => O9.refl _, fun _ _ => O9.refl _, rfl, [], rfl, fun j hj => by simp at hj, fun j hj => by simp at hj⟩
 | .cell ad t :: r, i, st, st', vs, E, S, O, he, h => by
  simp only [Z8] at he
  obtain ⟨v, hv, he⟩ := bind_some he
  split at he
  ·rename_i s
   obtain ⟨y, hy, he⟩ := bind_some he
   split at he
   ·rename_i e ha hes
    obtain ⟨u, hu, he⟩ := bind_some he
    split at he
    ·rename_i hf
     obtain ⟨⟨us, st2⟩, h2, he⟩ := map_some he
     obtain ⟨rfl, rfl⟩ := Prod.mk.inj he
     obtain ⟨x, hx, hr⟩ := h.tmps ad _ hv
     have hrf : RF w E S (.ptr s 0 0) x := by simpa [V.strip, V.strip2, V.strip1] using hr.strip
     obtain ⟨z, hz1, hz2⟩ := rj (P := P) (t := t) (u := .ptr s 0 0) (v := u) h.sites hrf (by
      show (d4 s st.σ).bind _ = _
      rw [hy]
      simp only [Option.bind_some, hes, List.getElem?_cons_zero]
      exact hu)
     obtain ⟨E2, S2, O2, k1, k2, k3, k4, k5, ys, k6, k7, k8⟩ := iQ r (i + 1) h2 h
     have hrun : (sY a.tmps (.cell ad t)).run P w = .ok z w := by
      have hr1 := w4 hrf rfl (by simp)
      have hgd : a.tmps.getD ad undef = x := by simp [hx]
      cases hr1 with
      | base hb => cases hb
      | ptr hS =>
       simp only [sY, hgd, asAddr, Sem.run_bind, Sem.run_pure, Result.andThen_ok]
       simpa only [Instr.loadAt, Instr.sureAddr, Sem.run_bind, Sem.run_pure, Result.andThen_ok] using hz1
     have hz3 : RT1 w E noS O [4, i] u.strip z := by
      have := (hz2.rt O [4, i]).noS_free (p' := [4, i]) hf O
      generalize u.strip = us at this hf
      cases this with
      | cell this => exact this
      | tup => simp [V.free, V.cells, V.free1] at hf
     refine ⟨E2, S2, O2, k1, k2, k3, fun j hj => k4 j (by omega), by simp [k5], z :: ys, by simp [k6], fun j hj hj' => ?_, fun j hj hj' => ?_⟩
     ·cases j with
      | zero => exact hrun
      | succ j => simpa using k7 j (by simpa using hj) (by simpa using hj')
     ·cases j with
      | zero => exact hz3.mono k1.ext (fun _ _ h => h) (k4 i (by omega))
      | succ j =>
       simp only [List.getElem_cons_succ]
       rw [show i + (j + 1) = i + 1 + j by omega]
       exact k8 j (by simpa using hj) (by simpa using hj')
    ·cases he
   ·cases he
  ·cases he
 | .tmp t :: r, i, st, st', vs, E, S, O, he, h => by
  simp only [Z8] at he
  obtain ⟨v, hv, he⟩ := bind_some he
  obtain ⟨⟨v', st1⟩, h1, he⟩ := bind_some he
  obtain ⟨⟨us, st2⟩, h2, he⟩ := map_some he
  obtain ⟨rfl, rfl⟩ := Prod.mk.inj he
  obtain ⟨x, hx, hr⟩ := h.tmps t v hv
  obtain ⟨E1, S1, O1, g1, g2, g3, g4, g5⟩ := uu h1 (h.drop t) (by simp [N8]) hr
  obtain ⟨E2, S2, O2, k1, k2, k3, k4, k5, ys, k6, k7, k8⟩ := iQ r (i + 1) h2 g2
  refine ⟨E2, S2, O2, g1.trans k1, k2, fun k => (g3 k).trans (k3 k), fun j hj => (g4 j (by omega)).trans (k4 j (by omega)), by simp [k5], x :: ys, by simp [k6], fun j hj hj' => ?_, fun j hj hj' => ?_⟩
  ·cases j with
   | zero =>
    have : a.tmps.getD t undef = x := by simp [hx]
    simp only [List.getElem_cons_zero, sY, this]
    rfl
   | succ j => simpa using k7 j (by simpa using hj) (by simpa using hj')
  ·cases j with
   | zero => exact g5.mono k1.ext (fun _ _ h => h) (k4 i (by omega))
   | succ j =>
    simp only [List.getElem_cons_succ]
    rw [show i + (j + 1) = i + 1 + j by omega]
    exact k8 j (by simpa using hj) (by simpa using hj')
theorem sX {α β : Type} {f : α → Sem β} {w : World} : ∀ (l : List α) (ys : List β), ys.length = l.length → (∀ j (h : j < ys.length) (h' : j < l.length), (f (l[j])).run P w = .ok (ys[j]) w) → (l.mapM f).run P w = .ok ys w
 | [], [], _, _ => by simp
 | [], _ :: _, h, _ => by simp at h
 | _ :: _, [], h, _ => by simp at h
 | x :: l, y :: ys, hl, h => by
  have h0 := h 0 (by simp) (by simp)
  simp only [List.getElem_cons_zero] at h0
  simp only [List.mapM_cons, Sem.run_bind, h0, Result.andThen_ok, sX l ys (by simpa using hl) (fun j hj hj' => by have := h (j + 1) (by simpa using hj) (by simpa using hj'); simp only [List.getElem_cons_succ] at this; exact this), Sem.run_pure]
theorem wl {α β : Type} {f : α → Sem β} {w : World} (a : Array α) (ys : List β) (hl : ys.length = a.toList.length) (h : ∀ j (h : j < ys.length) (h' : j < a.toList.length), (f (a.toList[j])).run P w = .ok (ys[j]) w) : (a.mapM f).run P w = .ok ys.toArray w := by
 have e : a = a.toList.toArray := by simp
 rw [e, List.mapM_toArray]
 simp only [map_eq_pure_bind, Sem.run_bind]
 rw [sX a.toList ys hl h]
 simp
theorem sV {fn : Func} {tmps : Array Value} {ys : List Value} {w : World} (hl : ys.length = fn.results.toList.length) (h : ∀ j (h : j < ys.length) (h' : j < fn.results.toList.length), (sY tmps (fn.results.toList[j])).run P w = .ok (ys[j]) w) :
  (results fn tmps).run P w = .ok (if ys.length = 1 then ys.headD undef else .tuple ys.toArray) w := by
 unfold results
 rw [Sem.run_bind, wl fn.results ys hl (fun j hj hj' => by
   have := h j hj hj'
   cases hx : fn.results.toList[j] with
   | tmp t => rw [hx] at this; exact this
   | cell a t => rw [hx] at this; exact this), Result.andThen_ok, Sem.run_pure]
 congr 1
 match ys with
 | [x] => simp
 | [] => simp
 | x :: y :: r => simp
end
end Go.AE

namespace Go.AE
open Go.RowKit
set_option linter.unusedSimpArgs false
set_option linter.unusedVariables false
section
variable {P : Program} {G : Glo} {w : World} {E : Bnd} {S F : Sit} {O : Own} {callH : Q3}
theorem ci {v : V} (h : v.isOut = true) : (∃ e, v = .io e) ∨ ∃ sz l, v = .sl 2 sz l := by
 unfold V.isOut at h
 split at h
 ·exact .inl ⟨_, rfl⟩
 ·exact .inr ⟨_, _, rfl⟩
 ·cases h
def Fv (n d : Nat) : V → V
 | .sl _ _ l => .aref (n + d) 0 l.length
 | _ => .ptr (n + d) 0 0
def wk : V → r8
 | .io e => ⟨false, e.cells.length, [e]⟩
 | .sl _ sz l => ⟨true, sz, l⟩
 | _ => ⟨true, 0, []⟩
theorem yM (n : Nat) : ∀ (args : List V) (i : Nat), (P2 n i args).n = n
 | [], _ => rfl
 | v :: r, i => by unfold P2; split <;> rfl
theorem oz {v : V} (h : v.isOut = true) (n i : Nat) (r : List V) : P2 n i (v :: r) = ⟨(i, Fv n i v) :: (P2 n (i + 1) r).t, (n + i, wk v) :: (P2 n (i + 1) r).σ, n⟩ := by
 rcases ci h with ⟨e, rfl⟩ | ⟨sz, l, rfl⟩ <;> rfl
theorem qe {v : V} (h : v.isOut = false) (n i : Nat) (r : List V) : P2 n i (v :: r) = ⟨(i, v) :: (P2 n (i + 1) r).t, (P2 n (i + 1) r).σ, n⟩ := by
 rw [P2]
 ·intro e he; subst he; cases h
 ·intro sz l he; subst he; cases h
theorem iE (n : Nat) : ∀ (args : List V) (i d : Nat) (v : V), d4 d (P2 n i args).t = some v → ∃ j, ∃ (h : j < args.length), d = i + j ∧ (((args[j]).isOut = true ∧ v = Fv n d (args[j])) ∨ ((args[j]).isOut = false ∧ v = args[j]))
 | [], i, d, v, h => by cases h
 | u :: r, i, d, v, h => by
  cases hu : u.isOut with
  | true =>
   rw [oz hu] at h
   simp only [d4] at h
   cases hb : Nat.beq d i with
   | true =>
    rw [hb] at h
    have e1 : d = i := Nat.eq_of_beq_eq_true hb
    obtain rfl := Option.some.inj h
    exact ⟨0, by simp, by omega, .inl ⟨hu, by rw [e1]; rfl⟩⟩
   | false =>
    rw [hb] at h
    obtain ⟨j, hj, h1, h2⟩ := iE n r (i + 1) d v h
    exact ⟨j + 1, by simpa using hj, by omega, by simpa using h2⟩
  | false =>
   rw [qe hu] at h
   simp only [d4] at h
   cases hb : Nat.beq d i with
   | true =>
    rw [hb] at h
    have e1 : d = i := Nat.eq_of_beq_eq_true hb
    obtain rfl := Option.some.inj h
    exact ⟨0, by simp, by omega, .inr ⟨hu, rfl⟩⟩
   | false =>
    rw [hb] at h
    obtain ⟨j, hj, h1, h2⟩ := iE n r (i + 1) d v h
    exact ⟨j + 1, by simpa using hj, by omega, by simpa using h2⟩
theorem eW (n : Nat) : ∀ (args : List V) (i s : Nat), (∀ y, d4 s (P2 n i args).σ = some y → ∃ j, ∃ (h : j < args.length), s = n + (i + j) ∧ (args[j]).isOut = true ∧ y = wk (args[j])) ∧
  (d4 s (P2 n i args).σ = none → ∀ j (h : j < args.length), (args[j]).isOut = true → s ≠ n + (i + j))
 | [], i, s => And.intro (fun y h => absurd h (by simp [P2, d4])) (fun _ j h => absurd h (by simp))
 | u :: r, i, s => by
  obtain ⟨ih1, ih2⟩ := eW n r (i + 1) s
  cases hu : u.isOut with
  | true =>
   rw [oz hu]
   simp only [d4]
   cases hb : Nat.beq s (n + i) with
   | true =>
    have e1 : s = n + i := Nat.eq_of_beq_eq_true hb
    refine And.intro (fun y h => ?_) (fun h => absurd h (by simp))
    obtain rfl := Option.some.inj h
    exact ⟨0, by simp, by omega, hu, rfl⟩
   | false =>
    have e1 : s ≠ n + i := Nat.ne_of_beq_eq_false hb
    refine And.intro (fun y h => ?_) (fun h j hj he => ?_)
    ·obtain ⟨j, hj, h1, h2, h3⟩ := ih1 y h
     exact ⟨j + 1, by simpa using hj, by omega, by simpa using h2, by simpa using h3⟩
    ·cases j with
     | zero => omega
     | succ j =>
      have := ih2 h j (by simpa using hj) (by simpa using he)
      omega
  | false =>
   rw [qe hu]
   refine And.intro (fun y h => ?_) (fun h j hj he => ?_)
   ·obtain ⟨j, hj, h1, h2, h3⟩ := ih1 y h
    exact ⟨j + 1, by simpa using hj, by omega, by simpa using h2, by simpa using h3⟩
   ·cases j with
    | zero => simp only [List.getElem_cons_zero] at he; rw [hu] at he; cases he
    | succ j =>
     have := ih2 h j (by simpa using hj) (by simpa using he)
     omega
def kq (n : Nat) (args : List V) : Pos → Pos
 | 0 :: i :: r => if (args.getD i .undef).isOut then 1 :: (n + i) :: r else 0 :: i :: r
 | q => q
def bO (n : Nat) (args : List V) (xs : Array Value) : Sit := fun s =>
 if n ≤ s ∧ s - n < args.length then match args.getD (s - n) .undef, xs.getD (s - n) undef with
  | .io e, .pointer (some a) => some (a.block, e.cells.length)
  | .sl 2 sz _, .slice (some a) _ _ => some (a.block, sz)
  | _, _ => none
 else none
theorem kt {args : List V} {xs : Array Value} {n i : Nat} (hi : i < args.length) (hi' : i < xs.size) (hout : (args[i]).isOut = true) (hr : RT w E noS O [0, i] (args[i]) (xs[i])) :
  gU w (bO n args xs) (n + i) (args[i]) (xs[i]) := by
 have e1 : n + i - n = i := by omega
 have e2 : args.getD i .undef = args[i] := by simp [hi]
 have e3 : xs.getD i undef = xs[i] := by unfold Array.getD; rw [dif_pos hi']; rfl
 have hS : bO n args xs (n + i) = match args[i], xs[i] with
  | .io e, .pointer (some a) => some (a.block, e.cells.length)
  | .sl 2 sz _, .slice (some a) _ _ => some (a.block, sz)
  | _, _ => none := by
  unfold bO
  rw [if_pos (by omega), e1, e2, e3]
 generalize args[i] = v at hout hr hS
 generalize xs[i] = x at hr hS
 rcases ci hout with ⟨e, rfl⟩ | ⟨sz, l, rfl⟩
 ·cases hr with
  | cell hr => cases hr with
   | one hv hh => exact absurd rfl ((C9 hh).2.2 _)
   | io => exact ⟨_, hS, rfl⟩
 ·have hr1 := hr.of_tmp rfl (by simp) (by simp)
  simp only [gU]
  cases hr1 with
  | free hr1 => cases hr1 with
   | base hr1 => cases hr1 with
    | slNil => exact .inl ⟨rfl, rfl⟩
  | @own _ _ _ b off cap c e fr ho hb hc hl hf hE h0 hO hw he =>
   have := h0 rfl
   subst this
   exact .inr ⟨b, cap, c, e, fr, hS, rfl, hl, hb, by omega⟩
theorem vY {args : List V} {xs : Array Value} {tmps : Array Value} {n : Nat} (hgl : lO G w E) (hl : args.length = xs.size) (ho : ∀ b p, O b = some p → b < w.heap.size) (hr : ∀ i (h : i < args.length) (h' : i < xs.size), RT w E noS O [0, i] (args[i]) (xs[i]))
  (hok : args.all V.argOk = true) (ht : ∀ i (h : i < xs.size), tmps[i]? = some xs[i]) (hn : tmps.size = n) : Rel G (bO n args xs) (P2 n 0 args) { tmps := tmps, defers := [] } w E (bO n args xs) (AE.relo (kq n args) O) := by
 have hst : (P2 n 0 args).n = n := yM n args 0
 have hsp : ∀ j (hj : j < args.length), (args[j]).isOut = true → ∀ r, kq n args ([0, j] ++ r) = [1, n + j] ++ r := by
  intro j hj hout r
  show kq n args (0 :: j :: r) = _
  have : args.getD j .undef = args[j] := by simp [hj]
  simp only [kq, this, hout]
  rfl
 refine ⟨fun d v hl' => ?_, fun s y hs => ?_, fun s hs => ?_, by rw [hst]; exact hn, cr ho _, rfl, fun s q hq => ⟨hq, ?_⟩, hgl⟩
 ·obtain ⟨j, hj, hd, hv⟩ := iE n args 0 d v hl'
  rw [Nat.zero_add] at hd
  subst hd
  have hj' : d < xs.size := by omega
  refine ⟨xs[d], ht d hj', ?_⟩
  rcases hv with ⟨h1, rfl⟩ | ⟨h1, rfl⟩
  ·have hh := kt (n := n) hj hj' h1 (hr d hj hj')
   generalize args[d] = v at h1 hh
   generalize xs[d] = x at hh
   rcases ci h1 with ⟨e, rfl⟩ | ⟨sz, l, rfl⟩
   ·obtain ⟨b, h2, rfl⟩ := hh
    have := R1.ptr (w := w) (E := E) (S := bO n args xs) (s := n + d) (b := b) (sz := e.cells.length) (i := 0) (off := 0) h2
    rw [Nat.zero_mul] at this
    exact .cell (.one rfl (.free this))
   ·simp only [gU] at hh
    rcases hh with ⟨rfl, rfl⟩ | ⟨b, cap, c, et, fr, h2, rfl, h3, h4, h5⟩
    ·exact .cell (.one rfl (.free .arefNil))
    ·have := R1.aref (w := w) (E := E) (S := bO n args xs) (s := n + d) (b := b) (sz := sz) (off := 0) (len := l.length) (cap := cap) h2 h4 (by omega) h3
     rw [Nat.zero_mul] at this
     exact .cell (.one rfl (.free this))
  ·refine (hr d hj hj').mono (Ext.refl _ _) (fun _ _ h => by cases h) (aC fun r => ?_)
   show kq n args (0 :: d :: r) = _
   have : args.getD d .undef = args[d] := by simp [hj]
   simp only [kq, this, h1]
   rfl
 ·obtain ⟨j, hj, h1, h2, rfl⟩ := (eW n args 0 s).1 y hs
  rw [Nat.zero_add] at h1
  subst h1
  have hj' : j < xs.size := by omega
  have hh := kt (n := n) hj hj' h2 (hr j hj hj')
  have hp := hsp j hj h2
  have hr1 := hr j hj hj'
  have hok1 : (args[j]).argOk = true := List.all_eq_true.1 hok _ (List.getElem_mem hj)
  have hnil0 : xs[j] = .slice none 0 0 → bO n args xs (n + j) = none := by
   intro hx
   unfold bO
   have e1 : n + j - n = j := by omega
   have e3 : xs.getD j undef = xs[j] := by unfold Array.getD; rw [dif_pos hj']; rfl
   rw [if_pos (by omega), e1, e3, hx]
   split
   ·rename_i q; cases q
   ·rename_i q; cases q
   ·rfl
  generalize args[j] = v at h2 hh hr1 hok1
  generalize xs[j] = x at hh hr1 hnil0
  rcases ci h2 with ⟨e, rfl⟩ | ⟨sz, l, rfl⟩
  ·obtain ⟨b, h3, rfl⟩ := hh
   cases hr1 with
   | cell hr1 => cases hr1 with
    | one hv hh => exact absurd rfl ((C9 hh).2.2 _)
    | @io _ _ c et fr k3 k4 k5 k6 k7 k8 =>
     have hcl : e.cells.length = c.size := by simpa using k7.1
     unfold p6
     rw [h3]
     refine ⟨rfl, by omega, c, et, fr, k3, k4, k5, ?_, by simp [wk]; omega, fun i hi => ?_, fun hf => Bool.noConfusion hf, fun _ => ⟨rfl, hcl.symm, fun i j' hi hj' y hy => ?_⟩⟩
     ·simp only [AE.relo, k6, Option.map_some]
      exact congrArg some (hp [])
     ·have : i = 0 := by simpa [wk] using hi
      subst this; rfl
     ·have : i = 0 := by simpa [wk] using hi
      subst this
      rw [Nat.zero_mul, Nat.zero_add] at hy
      have hj2 : j' < c.size := by
       rcases Nat.lt_or_ge j' c.size with h' | h'
       ·exact h'
       ·rw [Array.getElem?_eq_none h'] at hy; cases hy
      rw [Array.getElem?_eq_getElem hj2] at hy
      obtain rfl := Option.some.inj hy
      have hR := k7.2 j' hj' (by simpa using hj2)
      rw [Array.getElem_toList (xs := c)] at hR
      have hR2 := hR.mono (Ext.refl _ _) (S' := bO n args xs) (fun s b hs => by cases hs) ⟨fun b q hb => ⟨rfl, rfl, hb⟩⟩
      exact hR2.reloc (fun b' q hb' => by
       simp only [AE.relo, hb', Option.map_some]
       have := hp ([1] ++ [j'] ++ q)
       simpa using this)
  ·simp only [gU] at hh
   have hr2 := hr1.of_tmp rfl (by simp) (by simp)
   have hpos : 0 < sz := Nat.le_of_ble_eq_true hok1
   rcases hh with ⟨rfl, rfl⟩ | ⟨b, cap, c, et, fr, h3, rfl, h4, h5, h6⟩
   ·unfold p6
    cases hS : bO n args xs (n + j) with
    | none => exact ⟨rfl, rfl⟩
    | some q => rw [hnil0 rfl] at hS; cases hS
   ·cases hr2 with
    | free hr2 => cases hr2 with
     | base hr2 => cases hr2
    | @own _ _ _ b2 off2 cap2 c2 e2 fr2 ho2 hb2 hc2 hl2 hf2 hE2 h02 hO2 hw2 he2 =>
     unfold p6
     rw [h3]
     have hmul : l.length * sz ≤ cap * sz := Nat.mul_le_mul_right _ hl2
     refine ⟨rfl, hpos, c2, e2, fr2, hb2, hf2, by rw [hE2]; rfl, ?_, by show l.length * sz ≤ _; omega, hw2, fun _ i j' hi hj' z hz => .free (he2 i j' hi hj' z (by rw [← hz]; congr 1; omega)), fun hf => Bool.noConfusion hf⟩
     simp only [AE.relo, hO2, Option.map_some]
     exact congrArg some (hp [0])
 ·unfold bO
  split
  ·rename_i hge
   split
   ·rename_i e a q1 q2
    have he' : args[s - n]'hge.2 = .io e := by simpa [hge.2] using q1
    have := (eW n args 0 s).2 hs (s - n) hge.2 (by rw [he']; rfl)
    omega
   ·rename_i sz l a len cap q1 q2
    have he' : args[s - n]'hge.2 = .sl 2 sz l := by simpa [hge.2] using q1
    have := (eW n args 0 s).2 hs (s - n) hge.2 (by rw [he']; rfl)
    omega
   ·rfl
  ·rfl
 ·rw [hst]
  unfold bO at hq
  split at hq
  ·rename_i hc; exact hc.1
  ·cases hq
def endP (one : Bool) : Pos → Pos
 | 4 :: i :: r => bif one then 1 :: r else 1 :: i :: r
 | q => q
theorem pX (hm : P.follows .mixedOrders = true) {b9 : FuncId → tl} {ext : vi} (hext : ∀ f args r outs, ext f args = some (some (r, outs)) → dO G P f args r outs) :
  ∀ (k : Nat) (f : FuncId) (args : List V) (r : V) (outs : List V), evF P b9 ext k f args = some (r, outs) → dO G P f args r outs
 | 0, f, args, r, outs, h => by cases h
 | k + 1, f, args, r, outs, h => by
  simp only [evF] at h
  split at h
  ·rename_i q hq
   subst h
   exact hext f args r outs hq
  ·split at h
   ·cases h
   ·rename_i fn hfn
    split at h
    ·cases h
    ·rename_i c hc
     split at h
     ·rename_i hname
      obtain ⟨hname, hargok⟩ := hname
      obtain ⟨⟨x, st2⟩, he, h⟩ := bind_some h
      obtain ⟨hx', h⟩ : (x = .normal ∨ x = .ret) ∧ ((lj (max fn.ntmps args.length) 0 args st2).bind fun outs => (Z8 P (b9 f).res 0 fn.results.toList outs.2).map fun x => (te x.1, outs.1)) = some (r, outs) := by
       cases x with
       | normal => exact ⟨.inl rfl, h⟩
       | ret => exact ⟨.inr rfl, h⟩
       | exit i => cases h
      obtain ⟨⟨outs', st3⟩, ho, h⟩ := bind_some h
      obtain ⟨⟨vs, st4⟩, hres, h⟩ := map_some h
      obtain ⟨rfl, rfl⟩ := Prod.mk.inj h
      refine ⟨⟨fn, hfn, hname, by rw [hc]; rfl⟩, fun w E O xs hgl hl hown hr => ?_⟩
      refine calls_of_wp hfn hc ?_
      have hsz : (xs ++ Array.replicate (fn.ntmps - xs.size) undef).size = max fn.ntmps args.length := by simp; omega
      have h0 := vY hgl (tmps := xs ++ Array.replicate (fn.ntmps - xs.size) undef) hl hown hr hargok (fun i hi => by rw [Array.getElem?_append_left hi]; exact Array.getElem?_eq_getElem hi) hsz
      refine zX hm (pX hm hext k) c he h0 (fun a' w' E' S' O' hfr hrel => ?_)
      have hgetx : ∀ {j : Nat} (hj : j < xs.size), xs.getD j undef = xs[j] := fun hj => by unfold Array.getD; rw [dif_pos hj]; rfl
      have hB : ∀ j (hj : j < args.length), (args[j]).isOut = true → gU w' S' (max fn.ntmps args.length + (0 + j)) (args[j]) (xs.getD (0 + j) undef) := by
       intro j hj hout
       have hj' : j < xs.size := by omega
       rw [Nat.zero_add, hgetx hj']
       have hh := kt (n := max fn.ntmps args.length) hj hj' hout (hr j hj hj')
       have hh2 := (hh.ext hfr.ext)
       generalize args[j] = v at hh2 hout
       generalize xs[j] = z at hh2
       rcases ci hout with ⟨e, rfl⟩ | ⟨sz, l, rfl⟩
       ·obtain ⟨b, h1, h2⟩ := hh2
        exact ⟨b, (hrel.par _ _ h1).1, h2⟩
       ·simp only [gU] at hh2 ⊢
        rcases hh2 with hh2 | ⟨b, cap, c, et, fr, h1, h2⟩
        ·exact .inl hh2
        ·exact .inr ⟨b, cap, c, et, fr, (hrel.par _ _ h1).1, h2⟩
      obtain ⟨S1, O1, g1, g2, g3, g4, g5⟩ := rr (max fn.ntmps args.length) (fun j => xs.getD j undef) args 0 0 ho hrel.forget hB
      obtain ⟨E2, S2, O2, k1, k2, k3, k4, k5, ys, k6, k7, k8⟩ := iQ fn.results.toList 0 hres g2
      have hfin : ∃ x E' O', (results fn a'.tmps).run P w' = .ok x w' ∧ p7 w E O w' E' O' ∧ RT w' E' noS O' [1] (te vs) x ∧ outs'.length = (V3 0 args).length ∧
        ∀ k (h : k < outs'.length) (h' : k < (V3 0 args).length), RT w' E' noS O' [2, k] (outs'[k]) (xs.getD ((V3 0 args)[k]) undef) := by
       refine ⟨_, E2, AE.relo (endP (Nat.beq vs.length 1)) O2, sV (by simpa using k6) k7, ?_, ?_, g4, ?_⟩
       ·have f0 := y7 (E := E) hown (kq (max fn.ntmps args.length) args)
        exact (((f0.trans hfr).trans g1).trans k1).trans (y7 k2.own _)
       ·have hlen : ys.length = vs.length := by omega
        match vs, ys, hlen with
        | [v], [y], _ =>
         have := k8 0 (by simp) (by simp)
         simp only [List.getElem_cons_zero] at this
         refine .cell (this.reloc (fun b q hb => ?_))
         simp only [AE.relo, hb, Option.map_some]
         rfl
        | [], [], _ => exact .tup rfl (fun j hj => by simp at hj)
        | v1 :: v2 :: vr, ys, hlen =>
         have hne : ¬ ys.length = 1 := by rw [hlen]; simp
         rw [if_neg hne]
         have hb1 : Nat.beq (v1 :: v2 :: vr).length 1 = false := jF (by simp)
         rw [hb1]
         refine .tup (by simpa using hlen.symm) (fun j hj hj' => ?_)
         have := k8 j hj (by simpa using hj')
         rw [Nat.zero_add] at this
         simp only [List.getElem_toArray]
         exact this.reloc (fun b q hb => by
          simp only [AE.relo, hb, Option.map_some]
          rfl)
       ·intro q hq hq'
        have := g5 q hq hq'
        rw [Nat.zero_add] at this
        have h2 := (this.mono k1.ext (fun _ _ h => h) (k3 q))
        refine .cell (h2.reloc (fun b r hb => ?_))
        simp only [AE.relo, hb, Option.map_some]
        rfl
      obtain ⟨xv, Ef, Of, r1, r2, r3, r4, r5⟩ := hfin
      rcases hx' with rfl | rfl
      ·exact ⟨hrel.defers, xv, r1, xv, Ef, Of, rfl, r2, r3, r4, r5⟩
      ·exact ⟨hrel.defers, xv, r1, xv, Ef, Of, rfl, r2, r3, r4, r5⟩
     ·cases h
end
end Go.AE

namespace Go.AE
set_option linter.unusedSimpArgs false
set_option linter.unusedVariables false
section
variable {P : Program} {G : Glo} {callH : Q3} {α β γ R : Type}
theorem n5 {x : Option α} {K1 : α → Option β} {K2 : α → Option γ} {g : γ → β} (h : ∀ a, K1 a = (K2 a).map g) : x.bind K1 = (x.bind K2).map g := by
 cases x with
 | none => rfl
 | some a => exact h a
theorem m9 {c : Bool} {L : Option β} {A B : Option γ} {g : γ → β} (h1 : c = true → L = A.map g) (h0 : c = false → L = B.map g) : L = (bif c then A else B).map g := by
 cases c with
 | true => exact h1 rfl
 | false => exact h0 rfl
theorem wn {c : Bool} {L1 L0 : Option β} {A B : Option γ} {g : γ → β} (h1 : c = true → L1 = A.map g) (h0 : c = false → L0 = B.map g) : (bif c then L1 else L0) = (bif c then A else B).map g := by
 cases c with
 | true => exact h1 rfl
 | false => exact h0 rfl
def kP (fv : V → (V → β) → β) : List V → (List V → β) → β
 | [], f => f []
 | v :: r, f => fv v fun v' => kP fv r fun r' => f (v' :: r')
def cI : Nat → V → (V → β) → β
 | 0, v, f => f v
 | d + 1, v, f => match v with
  | .int k n => f (.int k n)
  | .bool b => f (.bool b)
  | .str s => f (.str s)
  | .sl o sz l => (match o with
   | 0 => f (.sl 0 sz l)
   | 1 => f (.sl 1 sz l)
   | 2 => f (.sl 2 sz l)
   | n + 3 => f (.sl (n + 3) sz l))
  | .agg cs => kP (cI d) cs fun cs' => f (.agg cs')
  | .tup cs => kP (cI d) cs fun cs' => f (.tup cs')
  | .pro c => cI d c fun c' => f (.pro c')
  | .io c => cI d c fun c' => f (.io c')
  | v => f v
def gm : List (Nat × V) → (List (Nat × V) → β) → β
 | [], f => f []
 | (d, v) :: r, f => cI 3 v fun v' => gm r fun r' => f ((d, v') :: r')
def rc : List V → (List V → β) → β
 | [], f => f []
 | v :: r, f => cI 3 v fun v' => rc r fun r' => f (v' :: r')
def mc : List (Nat × r8) → (List (Nat × r8) → β) → β
 | [], f => f []
 | (d, ⟨true, sz, es⟩) :: r, f => mc r fun r' => f ((d, ⟨true, sz, es⟩) :: r')
 | (d, ⟨false, sz, es⟩) :: r, f => rc es fun es' => mc r fun r' => f ((d, ⟨false, sz, es'⟩) :: r')
def bT : St → (St → β) → β
 | ⟨t, σ, n⟩, f => gm t fun t' => mc σ fun σ' => f ⟨t', σ', n⟩
theorem oq {fv : V → (V → β) → β} (h : ∀ v f, fv v f = f v) : ∀ (cs : List V) (f : List V → β), kP fv cs f = f cs
 | [], f => rfl
 | v :: r, f => by simp only [kP, h, oq h r]
theorem fJ : ∀ (d : Nat) (v : V) (f : V → β), cI d v f = f v
 | 0, v, f => rfl
 | d + 1, v, f => by
  have hs := fun cs f => oq (β := β) (fJ d) cs f
  cases v with
  | sl o sz l =>
   simp only [cI]
   split <;> rfl
  | agg cs => simp only [cI, hs]
  | tup cs => simp only [cI, hs]
  | pro c => simp only [cI, fJ d]
  | io c => simp only [cI, fJ d]
  | _ => rfl
theorem dI : ∀ (t : List (Nat × V)) (f : List (Nat × V) → β), gm t f = f t
 | [], f => rfl
 | (d, v) :: r, f => by simp only [gm, fJ, dI r]
theorem pY : ∀ (t : List V) (f : List V → β), rc t f = f t
 | [], f => rfl
 | v :: r, f => by simp only [rc, fJ, pY r]
theorem md : ∀ (t : List (Nat × r8)) (f : List (Nat × r8) → β), mc t f = f t
 | [], f => rfl
 | (d, ⟨true, sz, es⟩) :: r, f => by simp only [mc, md r]
 | (d, ⟨false, sz, es⟩) :: r, f => by simp only [mc, pY, md r]
theorem dY (st : St) (f : St → β) : bT st f = f st := by
 obtain ⟨t, σ, n⟩ := st
 simp only [bT, dI, md]
def gz (P : Program) (callH : Q3) (ops : Array Oper) (b9 : List (Nat × w9)) : Nat → List Oper → St → Option St
 | _, [], st => some st
 | i, o :: r, st => (u9 ops st.t o).bind fun b =>
  bif b then (C6 P callH (n9 b9 i) o st).bind (fun s => bT s (gz P callH ops b9 (i + 1) r)) else bT (unset o.dst st) (gz P callH ops b9 (i + 1) r)
theorem li (ops : Array Oper) (b9 : List (Nat × w9)) : ∀ (r : List Oper) (i : Nat) (st : St), gz P callH ops b9 i r st = aV P callH ops b9 i r st
 | [], i, st => rfl
 | o :: r, i, st => by
  simp only [gz, aV, dY]
  have : (fun s => gz P callH ops b9 (i + 1) r s) = aV P callH ops b9 (i + 1) r := funext fun s => li ops b9 r (i + 1) s
  simp only [li ops b9 r]
def cH (ks : List Nat) : List (Nat × V) → List (Nat × V)
 | [] => []
 | p :: r => bif ks.elem p.1 then cH ks r else p :: cH ks r
def dK : List Nat → St → St
 | [], st => st
 | d :: r, ⟨t, σ, n⟩ => bif Nat.blt d n then (match d4 d σ with
  | none => dK r ⟨t, σ, n⟩
  | some _ => dK r (killRefs d ⟨t, del d σ, n⟩)) else dK r ⟨t, σ, n⟩
def eV (ks : List Nat) : St → St
 | ⟨t, σ, n⟩ => dK ks ⟨cH ks t, σ, n⟩
theorem od : ∀ t : List (Nat × V), cH [] t = t
 | [] => rfl
 | p :: r => by
  simp only [cH, List.elem_nil, cond_false]
  rw [od r]
theorem ir (d : Nat) (r : List Nat) : ∀ t : List (Nat × V), cH (d :: r) t = cH r (del d t)
 | [] => rfl
 | p :: t => by
  simp only [cH, del]
  have e : List.elem p.1 (d :: r) = (Nat.beq d p.1 || List.elem p.1 r) := by
   rw [List.elem_cons]
   congr 1
   cases h : Nat.beq d p.1 with
   | true => have := Nat.eq_of_beq_eq_true h; subst this; simp
   | false => have := Nat.ne_of_beq_eq_false h; simp; exact fun h => this h.symm
  rw [e]
  cases h : Nat.beq d p.1 with
  | true => simp only [Bool.true_or, cond_true]; exact ir d r t
  | false =>
   simp only [Bool.false_or, cond_false, cH]
   rw [ir d r t]
theorem jN (ks : List Nat) (f : V → V) : ∀ t : List (Nat × V), cH ks (t.map fun p => (p.1, f p.2)) = (cH ks t).map fun p => (p.1, f p.2)
 | [] => rfl
 | p :: t => by
  simp only [List.map_cons, cH]
  cases ks.elem p.1 with
  | true => exact jN ks f t
  | false => simp only [cond_false, List.map_cons, jN ks f t]
theorem fL : ∀ (ks : List Nat) (st : St), eV ks st = killAll ks st
 | [], ⟨t, σ, n⟩ => by simp only [eV, dK, killAll, od]
 | d :: r, ⟨t, σ, n⟩ => by
  simp only [eV, dK, killAll, qk, ir]
  cases Nat.blt d n with
  | false => simp only [cond_false]; rw [← fL r]; rfl
  | true =>
   simp only [cond_true]
   cases d4 d σ with
   | none => simp only; rw [← fL r]; rfl
   | some y =>
    simp only
    rw [← fL r]
    simp only [killRefs, eV, jN]
theorem iK (ops : Array Oper) (b9 : List (Nat × w9)) : ∀ (a b : List Oper) (i : Nat) (st : St), aV P callH ops b9 i (a ++ b) st = (aV P callH ops b9 i a st).bind (aV P callH ops b9 (i + a.length) b)
 | [], b, i, st => rfl
 | o :: a, b, i, st => by
  simp only [List.cons_append, aV, List.length_cons]
  cases u9 ops st.t o with
  | none => rfl
  | some w =>
   simp only [Option.bind_some]
   have e : i + (a.length + 1) = i + 1 + a.length := by omega
   rw [e]
   cases w with
   | true =>
    simp only [cond_true]
    cases C6 P callH (n9 b9 i) o st with
    | none => rfl
    | some s => simp only [Option.bind_some]; exact iK ops b9 a b (i + 1) s
   | false =>
    simp only [cond_false]
    exact iK ops b9 a b (i + 1) _
def reg (P : Program) (callH : Q3) (ops : Array Oper) (b9 : List (Nat × w9)) (ks : List Nat) (i : Nat) (st : St) : Option St :=
 (aV P callH ops b9 i (ops.toList.drop i) st).map (killAll ks)
theorem fe {ks : List Nat} {b9 : List (Nat × w9)} {ops : Array Oper} {st : St} : Q2 P callH ⟨ks, b9⟩ ops false st = reg P callH ops b9 ks 0 st := rfl
theorem tF {ops : Array Oper} {i m j : Nat} (hj : i + m = j) (hs : j ≤ ops.size) : ops.toList.drop i = (ops.toList.drop i).take m ++ ops.toList.drop j ∧ ((ops.toList.drop i).take m).length = m := by
 subst hj
 refine ⟨?_, by simp; omega⟩
 rw [← List.drop_drop]
 exact (List.take_append_drop m _).symm
theorem rF {ops : Array Oper} {b9 : List (Nat × w9)} {ks : List Nat} {i m j : Nat} {st st' : St} (h : gz P callH ops b9 i ((ops.toList.drop i).take m) st = some st') (hj : i + m = j) (hs : Nat.ble j ops.size = true) : reg P callH ops b9 ks i st = reg P callH ops b9 ks j st' := by
 unfold reg
 obtain ⟨e1, e2⟩ := tF hj (Nat.le_of_ble_eq_true hs)
 rw [li] at h
 rw [e1, iK, h, e2, hj]
 rfl
theorem wq {ops : Array Oper} {b9 : List (Nat × w9)} {ks : List Nat} {i m j : Nat} {X : Option St} {st' : St} (h : (X.bind fun s => bT s (gz P callH ops b9 i ((ops.toList.drop i).take m))) = some st') (hj : i + m = j) (hs : Nat.ble j ops.size = true) :
  X.bind (reg P callH ops b9 ks i) = reg P callH ops b9 ks j st' := by
 cases X with
 | none => cases h
 | some s =>
  simp only [Option.bind_some, dY] at h ⊢
  exact rF h hj hs
theorem c9 {ops : Array Oper} {b9 : List (Nat × w9)} {ks : List Nat} {i : Nat} {st st' : St} (h : (gz P callH ops b9 i (ops.toList.drop i) st).map (eV ks) = some st') : reg P callH ops b9 ks i st = some st' := by
 rw [li, show eV ks = killAll ks from funext (fL ks)] at h
 exact h
theorem b5 {ops : Array Oper} {b9 : List (Nat × w9)} {ks : List Nat} {i : Nat} {X : Option St} {st' : St} (h : (X.bind fun s => bT s (gz P callH ops b9 i (ops.toList.drop i))).map (eV ks) = some st') : X.bind (reg P callH ops b9 ks i) = some st' := by
 cases X with
 | none => cases h
 | some s =>
  simp only [Option.bind_some, dY] at h ⊢
  exact c9 h
theorem lG {ops : Array Oper} {b9 : List (Nat × w9)} {ks : List Nat} {i : Nat} {st : St} {o : Oper} {r : List Oper} {x : Option α} {w : α → V} (ho : ops.toList.drop i = o :: r) (hr : ops.toList.drop (i + 1) = r) (hw : u9 ops st.t o = some true)
  (hp : (K9 (n9 b9 i) o && !N7 o) = true) (hv : j5 P callH st.σ (opd P st.t []) o = x.map w) :
  reg P callH ops b9 ks i st = x.bind fun a => (M7 (n9 b9 i) o.dst (w a) st).bind (reg P callH ops b9 ks (i + 1)) := by
 unfold reg
 rw [ho]
 simp only [aV, hw, Option.bind_some, cond_true, C6, hp, hv]
 cases x with
 | none => rfl
 | some a =>
  simp only [Option.map_some, Option.bind_some]
  cases M7 (n9 b9 i) o.dst (w a) st with
  | none => rfl
  | some st' => simp only [Option.bind_some, reg, hr]
theorem O6 {ops : Array Oper} {b9 : List (Nat × w9)} {ks : List Nat} {i : Nat} {st : St} {o : Oper} {r : List Oper} {x : Option α} {w : α → V × St} (ho : ops.toList.drop i = o :: r) (hr : ops.toList.drop (i + 1) = r) (hw : u9 ops st.t o = some true)
  (hp : (K9 (n9 b9 i) o && !N7 o) = false) (hv : P9 P callH (n9 b9 i) st o = x.map w) :
  reg P callH ops b9 ks i st = x.bind fun a => (M7 (n9 b9 i) o.dst (w a).1 (w a).2).bind (reg P callH ops b9 ks (i + 1)) := by
 unfold reg
 rw [ho]
 simp only [aV, hw, Option.bind_some, cond_true, C6, hp, cond_false, hv]
 cases x with
 | none => rfl
 | some a =>
  simp only [Option.map_some, Option.bind_some]
  cases M7 (n9 b9 i) o.dst (w a).1 (w a).2 with
  | none => rfl
  | some st' => simp only [Option.bind_some, reg, hr]
def fb (P : Program) (callH : Q3) (ops : Array Oper) (b9 : List (Nat × w9)) (σ : List (Nat × r8)) (n : Nat) : Nat → List Oper → List (Nat × V) → Option (List (Nat × V))
 | _, [], t => some t
 | i, o :: r, t => (u9 ops t o).bind fun b => match o.dst with
  | none => none
  | some d => bif Nat.blt d n then (bif b then (j5 P callH σ (opd P t []) o).bind fun v => gm (put d (fit (n9 b9 i).keep v) t) (fb P callH ops b9 σ n (i + 1) r)
   else gm (put d (.tup []) t) (fb P callH ops b9 σ n (i + 1) r)) else none
theorem gB (ops : Array Oper) (b9 : List (Nat × w9)) (σ : List (Nat × r8)) (n : Nat) : ∀ (r : List Oper) (i : Nat) (t : List (Nat × V)), fb P callH ops b9 σ n i r t = O3 P callH ops b9 σ n i r t
 | [], i, t => rfl
 | o :: r, i, t => by
  simp only [fb, O3, dI, gB ops b9 σ n r]
  cases u9 ops t o with
  | none => rfl
  | some b => cases o.dst <;> rfl
theorem er (ops : Array Oper) (b9 : List (Nat × w9)) (σ : List (Nat × r8)) (n : Nat) : ∀ (a b : List Oper) (i : Nat) (t : List (Nat × V)), O3 P callH ops b9 σ n i (a ++ b) t = (O3 P callH ops b9 σ n i a t).bind (O3 P callH ops b9 σ n (i + a.length) b)
 | [], b, i, t => rfl
 | o :: a, b, i, t => by
  simp only [List.cons_append, O3, List.length_cons]
  cases u9 ops t o with
  | none => rfl
  | some w =>
   simp only [Option.bind_some]
   have e : i + (a.length + 1) = i + 1 + a.length := by omega
   rw [e]
   cases o.dst with
   | none => rfl
   | some d =>
    simp only
    cases Nat.blt d n with
    | false => rfl
    | true =>
     cases w with
     | true =>
      simp only [cond_true]
      cases j5 P callH σ (opd P t []) o with
      | none => rfl
      | some v => simp only [Option.bind_some]; exact er ops b9 σ n a b (i + 1) _
     | false =>
      simp only [cond_false, cond_true]
      exact er ops b9 σ n a b (i + 1) _
def lH (P : Program) (callH : Q3) (ops : Array Oper) (b9 : List (Nat × w9)) (ks : List Nat) (p : Nat) (dk : Bool) (σ : List (Nat × r8)) (n : Nat) (i : Nat) (t : List (Nat × V)) : Option St :=
 (O3 P callH ops b9 σ n i ((ops.toList.take p).drop i) t).bind fun t => (D9 ((ops.toList.take p).filterMap (·.dst)) ⟨t, σ, n⟩).bind fun s => bif (dk && dv P ops p (M8 b9)) || ((M8 b9).isEmpty && gu P ops b9 p t s.t) then (cJ P callH ops b9 (M8 b9) s).bind (reg P callH ops b9 ks p) else none
theorem iU : ∀ (l : List Oper) (st : St), unsetAll l st = killAll (l.filterMap (·.dst)) st
 | [], st => rfl
 | o :: r, st => by
  simp only [unsetAll]
  cases hd : o.dst with
  | none =>
   simp only [List.filterMap_cons, hd]
   exact iU r st
  | some d =>
   simp only [List.filterMap_cons, hd]
   obtain ⟨t, σ, n⟩ := st
   simp only [killAll]
   rw [show qk d t σ n = killOne d ⟨t, σ, n⟩ from oF d ⟨t, σ, n⟩]
   exact iU r _
theorem rG {ks : List Nat} {b9 : List (Nat × w9)} {ops : Array Oper} {st : St} (h : (Ai b9 && okA ops b9) = true) : Q2 P callH ⟨ks, b9⟩ ops true st = reg P callH ops b9 ks 0 st := by
 rw [Bool.and_eq_true] at h
 unfold Q2 reg
 simp only [cond_true, h.1, h.2, List.drop_zero]
theorem j4 {ks : List Nat} {b9 : List (Nat × w9)} {ops : Array Oper} {st : St} {p : Nat} {dk : Bool} {t : List (Nat × V)} {σ : List (Nat × r8)} {n : Nat} (hna : Ai b9 = false) (hp : aA b9 0 ops.toList = p) (hd : jO ops p = dk) (hu : eV ((ops.toList.take p).filterMap (·.dst)) st = ⟨t, σ, n⟩) :
  Q2 P callH ⟨ks, b9⟩ ops true st = lH P callH ops b9 ks p dk σ n 0 t := by
 subst hp
 rw [fL, ← iU] at hu
 unfold Q2 lH reg
 simp only [cond_true, hna, cond_false, hd, List.drop_zero, hu]
 cases O3 P callH ops b9 σ n 0 (ops.toList.take (aA b9 0 ops.toList)) t with
 | none => rfl
 | some t =>
  simp only [Option.bind_some]
  cases D9 ((ops.toList.take (aA b9 0 ops.toList)).filterMap (·.dst)) ⟨t, σ, n⟩ with
  | none => rfl
  | some s2 =>
   simp only [Option.bind_some]
   cases ((dk && dv P ops (aA b9 0 ops.toList) (M8 b9)) || ((M8 b9).isEmpty && gu P ops b9 (aA b9 0 ops.toList) t s2.t)) with
   | false => rfl
   | true =>
    simp only [cond_true]
    cases cJ P callH ops b9 (M8 b9) s2 <;> rfl
theorem rW {ops : Array Oper} {p i m j : Nat} (hj : i + m = j) (hs : j ≤ p) (hp : p ≤ ops.size) : (ops.toList.take p).drop i = ((ops.toList.take p).drop i).take m ++ (ops.toList.take p).drop j ∧ (((ops.toList.take p).drop i).take m).length = m := by
 subst hj
 refine ⟨?_, by simp; omega⟩
 rw [← List.drop_drop]
 exact (List.take_append_drop m _).symm
section
variable {ops : Array Oper} {b9 : List (Nat × w9)} {ks : List Nat} {p n i m j : Nat} {dk : Bool} {σ : List (Nat × r8)} {t t' : List (Nat × V)} {st' : St}
theorem l5 (h : fb P callH ops b9 σ n i (((ops.toList.take p).drop i).take m) t = some t') (hj : i + m = j) (hs : (Nat.ble j p && Nat.ble p ops.size) = true) : lH P callH ops b9 ks p dk σ n i t = lH P callH ops b9 ks p dk σ n j t' := by
 simp only [Bool.and_eq_true] at hs
 obtain ⟨e1, e2⟩ := rW hj (Nat.le_of_ble_eq_true hs.1) (Nat.le_of_ble_eq_true hs.2)
 unfold lH
 rw [gB] at h
 rw [e1, er, h, e2, hj]
 rfl
theorem k0 (h : gm t (fb P callH ops b9 σ n i (((ops.toList.take p).drop i).take m)) = some t') (hj : i + m = j) (hs : (Nat.ble j p && Nat.ble p ops.size) = true) : lH P callH ops b9 ks p dk σ n i t = lH P callH ops b9 ks p dk σ n j t' := by
 rw [dI] at h
 exact l5 h hj hs
theorem l6 (h : (gm t fun t => (fb P callH ops b9 σ n i ((ops.toList.take p).drop i) t).bind fun t => (D9 ((ops.toList.take p).filterMap (·.dst)) ⟨t, σ, n⟩).bind fun s => bif (dk && dv P ops p (M8 b9)) || ((M8 b9).isEmpty && gu P ops b9 p t s.t) then ((cJ P callH ops b9 (M8 b9) s).bind fun s => bT s (gz P callH ops b9 p (ops.toList.drop p))).map (eV ks) else none) = some st') : lH P callH ops b9 ks p dk σ n i t = some st' := by
 rw [dI] at h
 unfold lH
 rw [← h, gB, show eV ks = killAll ks from funext (fL ks)]
 simp only [dY]
 cases O3 P callH ops b9 σ n i ((ops.toList.take p).drop i) t with
 | none => rfl
 | some t =>
  simp only [Option.bind_some]
  cases D9 ((ops.toList.take p).filterMap (·.dst)) ⟨t, σ, n⟩ with
  | none => rfl
  | some s =>
   simp only [Option.bind_some]
   cases ((dk && dv P ops p (M8 b9)) || ((M8 b9).isEmpty && gu P ops b9 p t s.t)) with
   | false => rfl
   | true =>
    simp only [cond_true]
    cases cJ P callH ops b9 (M8 b9) s with
    | none => rfl
    | some s => simp only [Option.bind_some, li]; rfl
theorem zw (h : (gm t fun t => (fb P callH ops b9 σ n i ((ops.toList.take p).drop i) t).bind fun t => (D9 ((ops.toList.take p).filterMap (·.dst)) ⟨t, σ, n⟩).bind fun s => bif (dk && dv P ops p (M8 b9)) || ((M8 b9).isEmpty && gu P ops b9 p t s.t) then (cJ P callH ops b9 (M8 b9) s).bind fun s => bT s (gz P callH ops b9 p ((ops.toList.drop p).take m)) else none) = some st') (hj : p + m = j) (hs : Nat.ble j ops.size = true) :
  lH P callH ops b9 ks p dk σ n i t = reg P callH ops b9 ks j st' := by
 rw [dI, gB] at h
 unfold lH
 cases hx : O3 P callH ops b9 σ n i ((ops.toList.take p).drop i) t with
 | none => rw [hx] at h; cases h
 | some t2 =>
  rw [hx] at h
  simp only [Option.bind_some] at h ⊢
  cases hy : D9 ((ops.toList.take p).filterMap (·.dst)) ⟨t2, σ, n⟩ with
  | none => rw [hy] at h; cases h
  | some s =>
   rw [hy] at h
   simp only [Option.bind_some] at h ⊢
   cases hb : ((dk && dv P ops p (M8 b9)) || ((M8 b9).isEmpty && gu P ops b9 p t2 s.t)) with
   | false => rw [hb] at h; cases h
   | true =>
    rw [hb] at h
    simp only [cond_true] at h ⊢
    cases hg : cJ P callH ops b9 (M8 b9) s with
    | none => rw [hg] at h; cases h
    | some s2 =>
     rw [hg] at h
     simp only [Option.bind_some, dY] at h ⊢
     exact rF h hj hs
theorem d5 {o : Oper} {r : List Oper} {d : Nat} {x : Option α} {w : α → V} (ho : (ops.toList.take p).drop i = o :: r) (hr : (ops.toList.take p).drop (i + 1) = r)
  (hw : u9 ops t o = some true) (hd : o.dst = some d) (hn : Nat.blt d n = true) (hv : j5 P callH σ (opd P t []) o = x.map w) :
  lH P callH ops b9 ks p dk σ n i t = x.bind fun a => lH P callH ops b9 ks p dk σ n (i + 1) (put d (fit (n9 b9 i).keep (w a)) t) := by
 unfold lH
 rw [ho]
 simp only [O3, hw, Option.bind_some, hd, hn, cond_true, hv]
 cases x with
 | none => rfl
 | some a => simp only [Option.map_some, Option.bind_some, hr]
end
def s6 (P : Program) (callH : Q3) (b9 : List (Nat × c8)) (n : Nat) (c : Code) (st : St) (K : X × St → Option β) : Option β := (s7 P callH b9 n c st).bind K
def np (P : Program) (callH : Q3) (b9 : List (Nat × c8)) (n : Nat) (id : Nat) (rest : Code) (K : X × St → Option β) : X × St → Option β
 | (.normal, s) => s6 P callH b9 n rest s K
 | (.exit i, s) => bif Nat.beq i id then s6 P callH b9 n rest s K else K (.exit i, s)
 | (.ret, s) => K (.ret, s)
def uV (P : Program) (callH : Q3) (b9 : List (Nat × c8)) (n : Nat) (body : Code) (m : Nat) (K : X × St → Option β) : X × St → Option β
 | (.normal, s) => (B5 (s7 P callH b9 n body) m s).bind K
 | (.exit i, s) => K (.exit i, s)
 | (.ret, s) => K (.ret, s)
variable {b9 : List (Nat × c8)} {n : Nat} {st : St} {K : X × St → Option β}
theorem b6 {a b c : Code} : s6 P callH b9 n (.seq (.seq a b) c) st K = s6 P callH b9 n (.seq a (.seq b c)) st K := by
 simp only [s6, s7]
 cases s7 P callH b9 n a st with
 | none => rfl
 | some r => obtain ⟨x, s⟩ := r; cases x <;> rfl
theorem sF {id : Nat} {ops : Array Oper} {dr : Bool} {rest : Code} {ann : c8} {x : Option α} {g : α → St} (ha : (d4 id b9).getD {} = ann) (h : Q2 P callH ann ops dr st = x.map g) :
  s6 P callH b9 n (.seq (.region id ops dr) rest) st K = x.bind fun o => s6 P callH b9 n rest (g o) K := by
 simp only [s6, s7, ha, h]
 cases x <;> rfl
theorem qj {id : Nat} {ops : Array Oper} {dr : Bool} {rest : Code} {ann : c8} {st' : St} (ha : (d4 id b9).getD {} = ann) (h : Q2 P callH ann ops dr st = some st') :
  s6 P callH b9 n (.seq (.region id ops dr) rest) st K = s6 P callH b9 n rest st' K := by
 simp only [s6, s7, ha, h]
 rfl
theorem qi {id : Nat} {ops : Array Oper} {dr : Bool} {ann : c8} {x : Option α} {g : α → St} (ha : (d4 id b9).getD {} = ann) (h : Q2 P callH ann ops dr st = x.map g) :
  s6 P callH b9 n (.region id ops dr) st K = x.bind fun o => K (.normal, g o) := by
 simp only [s6, s7, ha, h]
 cases x <;> rfl
theorem tZ {id : Nat} {ops : Array Oper} {dr : Bool} {ann : c8} {st' : St} (ha : (d4 id b9).getD {} = ann) (h : Q2 P callH ann ops dr st = some st') :
  s6 P callH b9 n (.region id ops dr) st K = K (.normal, st') := by
 simp only [s6, s7, ha, h]
 rfl
theorem d7 {rest : Code} : s6 P callH b9 n (.seq .skip rest) st K = s6 P callH b9 n rest st K := rfl
theorem l9 : s6 P callH b9 n .skip st K = K (.normal, st) := rfl
theorem p8 {rest : Code} : s6 P callH b9 n (.seq .ret rest) st K = K (.ret, st) := rfl
theorem d9 : s6 P callH b9 n .ret st K = K (.ret, st) := rfl
theorem n8 {i : Nat} {rest : Code} : s6 P callH b9 n (.seq (.exit i) rest) st K = K (.exit i, st) := rfl
theorem rf {c : Operand} {a b rest : Code} {t : Bool} {st' : St} (h : opd P st.t [] 0 c = some (.bool t)) (hk : cj b9 c st = st') :
  s6 P callH b9 n (.seq (.cond c a b) rest) st K = bif t then s6 P callH b9 n (.seq a rest) st' K else s6 P callH b9 n (.seq b rest) st' K := by
 simp only [s6, s7, h, Option.bind_some, hk]
 cases t <;> rfl
theorem Aj {c : Operand} {a b : Code} {t : Bool} {st' : St} (h : opd P st.t [] 0 c = some (.bool t)) (hk : cj b9 c st = st') :
  s6 P callH b9 n (.cond c a b) st K = bif t then s6 P callH b9 n a st' K else s6 P callH b9 n b st' K := by
 simp only [s6, s7, h, Option.bind_some, hk]
 cases t <;> rfl
theorem sE {id : Nat} {c rest : Code} {st' : St} (h : gh b9 id st = st') : s6 P callH b9 n (.seq (.block id c) rest) st K = s6 P callH b9 n c st' (np P callH b9 n id rest K) := by
 simp only [s6, s7, h]
 cases s7 P callH b9 n c st' with
 | none => rfl
 | some r =>
  obtain ⟨x, s⟩ := r
  cases x with
  | normal => rfl
  | ret => rfl
  | exit i =>
   simp only [Option.map_some, Option.bind_some, np]
   cases Nat.beq i id <;> rfl
theorem vE {id : Nat} {c : Code} {st' : St} (h : gh b9 id st = st') : s6 P callH b9 n (.block id c) st K = s6 P callH b9 n c st' (np P callH b9 n id .skip K) := by
 simp only [s6, s7, h]
 cases s7 P callH b9 n c st' with
 | none => rfl
 | some r =>
  obtain ⟨x, s⟩ := r
  cases x with
  | normal => rfl
  | ret => rfl
  | exit i =>
   simp only [Option.map_some, Option.bind_some, np]
   cases Nat.beq i id <;> rfl
theorem pV {id : Nat} (h : (d4 (200000 + id) b9).isSome = false) : gh b9 id st = st := by
 unfold gh
 cases hl : d4 (200000 + id) b9 with
 | none => rfl
 | some r => rw [hl] at h; cases h
theorem i4 {id : Nat} {c rest : Code} (h : (d4 (200000 + id) b9).isSome = false) : s6 P callH b9 n (.seq (.block id c) rest) st K = s6 P callH b9 n c st (np P callH b9 n id rest K) := sE (pV h)
theorem I5 {id : Nat} {c : Code} (h : (d4 (200000 + id) b9).isSome = false) : s6 P callH b9 n (.block id c) st K = s6 P callH b9 n c st (np P callH b9 n id .skip K) := vE (pV h)
theorem p3 {body : Code} : s6 P callH b9 n (.loop body) st K = (B5 (s7 P callH b9 n body) n st).bind K := rfl
theorem l8 {body : Code} {m : Nat} : (B5 (s7 P callH b9 n body) (m + 1) st).bind K = s6 P callH b9 n body st (uV P callH b9 n body m K) := by
 simp only [B5, s6]
 cases s7 P callH b9 n body st with
 | none => rfl
 | some r => obtain ⟨x, s⟩ := r; cases x <;> rfl
theorem i3 {id : Nat} {rest : Code} : np P callH b9 n id rest K (.normal, st) = s6 P callH b9 n rest st K := rfl
theorem j7 {id : Nat} {rest : Code} : np P callH b9 n id rest K (.ret, st) = K (.ret, st) := rfl
theorem j3 {id : Nat} {rest : Code} : np P callH b9 n id rest K (.exit id, st) = s6 P callH b9 n rest st K := by simp [np]
theorem vo {i id : Nat} {rest : Code} (h : Nat.beq i id = false) : np P callH b9 n id rest K (.exit i, st) = K (.exit i, st) := by simp only [np, h]; rfl
theorem d8 {body : Code} {m : Nat} : uV P callH b9 n body m K (.normal, st) = (B5 (s7 P callH b9 n body) m st).bind K := rfl
theorem j6 {body : Code} {m : Nat} : uV P callH b9 n body m K (.ret, st) = K (.ret, st) := rfl
theorem j1 {body : Code} {m i : Nat} : uV P callH b9 n body m K (.exit i, st) = K (.exit i, st) := rfl
def D4 (P : Program) (n : Nat) (args : List V) (res : List (Nat × Nat)) (rvs : List ResultVar) : X × St → Option (V × List V)
 | (.exit _, _) => none
 | (.normal, s) => (lj n 0 args s).bind fun outs => (Z8 P res 0 rvs outs.2).map fun x => (te x.1, outs.1)
 | (.ret, s) => (lj n 0 args s).bind fun outs => (Z8 P res 0 rvs outs.2).map fun x => (te x.1, outs.1)
theorem i2 {an : FuncId → tl} {ext : vi} {k : Nat} {f : FuncId} {args : List V} {fn : Func} {c : Code} {N : Nat} {regs : List (Nat × c8)} {kl : List Nat} {res : List (Nat × Nat)} (hx : ext f args = none) (hf : P.funcs[f]? = some fn) (hb : fn.body = some c) (hn : fn.name ≠ "runtime.NumGoroutine")
  (ha : args.all V.argOk = true) (hr : an f = ⟨regs, kl, res⟩) (hN : max fn.ntmps args.length = N) :
  evF P an ext (k + 1) f args = s6 P (evF P an ext k) regs k c (P2 N 0 args) (D4 P N args res fn.results.toList) := by
 simp only [evF, hx, hf, hb, s6, hr, hN]
 rw [if_pos ⟨hn, ha⟩]
 cases s7 P (evF P an ext k) regs k c (P2 N 0 args) with
 | none => rfl
 | some r => obtain ⟨x, s⟩ := r; cases x <;> rfl
theorem kM {P : Program} {an : FuncId → tl} {ext : vi} {k : Nat} {f : FuncId} {args : List V} {r : Option (V × List V)} (h : ext f args = some r) : evF P an ext (k + 1) f args = r := by
 simp only [evF, h]
def K7 : List V → Option (List Int)
 | [] => some []
 | .int .i64 n :: r => (K7 r).map (n :: ·)
 | _ => none
theorem oA : ∀ l : List Int, K7 (l.map (V.int .i64)) = some l
 | [] => rfl
 | n :: l => by simp only [List.map_cons, K7, oA l, Option.map_some]
theorem qg : ∀ {es : List V} {l : List Int}, K7 es = some l → es = l.map (V.int .i64)
 | [], l, h => by obtain rfl := Option.some.inj h; rfl
 | .int k n :: r, l, h => by
  by_cases hk : k = .i64
  ·subst hk
   simp only [K7] at h
   obtain ⟨m, hr, rfl⟩ := map_some h
   rw [qg hr]
   rfl
  ·exfalso
   cases k <;> first | exact hk rfl | (simp [K7] at h)
 | .bool _ :: _, _, h => by simp [K7] at h
 | .str _ :: _, _, h => by simp [K7] at h
 | .sl .. :: _, _, h => by simp [K7] at h
 | .nilp :: _, _, h => by simp [K7] at h
 | .nilfn :: _, _, h => by simp [K7] at h
 | .nilif :: _, _, h => by simp [K7] at h
 | .ifc .. :: _, _, h => by simp [K7] at h
 | .aref .. :: _, _, h => by simp [K7] at h
 | .agg _ :: _, _, h => by simp [K7] at h
 | .ptr .. :: _, _, h => by simp [K7] at h
 | .pro _ :: _, _, h => by simp [K7] at h
 | .fn .. :: _, _, h => by simp [K7] at h
 | .tup _ :: _, _, h => by simp [K7] at h
 | .io _ :: _, _, h => by simp [K7] at h
 | .undef :: _, _, h => by simp [K7] at h
def mP (l : List Int) : Option (List Int) := bif Nat.ble l.length 9223372036854775807 then some l.reverse else none
def bS : List V → Option (V × List V)
 | [.sl 2 1 es] => (K7 es).bind fun l => (mP l).map fun r => (.tup [], [.sl 2 1 (r.map (V.int .i64))])
 | _ => none
theorem kN (l : List Int) : bS [.sl 2 1 (l.map (V.int .i64))] = (mP l).map fun r => (.tup [], [.sl 2 1 (r.map (V.int .i64))]) := by
 show (K7 _).bind _ = _
 rw [oA]; rfl
def idx (l : List α) (i : Int) : Option α := if 0 ≤ i then l[i.toNat]? else none
theorem pF {e : α → V} {σ : List (Nat × r8)} {t et : TypeId} {o sz : Nat} {k : IntKind} {l : List α} {i : Int} (hu : P.underlying t = some (.slice et)) (hs : P.cellsOf et = sz) (h0 : sz ≠ 0) :
  H7 P σ t (.sl o sz (l.map e)) (.int k i) = (idx l i).map fun x => .pro (e x) := by
 unfold H7 idx
 rw [hu]
 simp only
 rw [if_pos ⟨hs.symm, h0⟩, List.getElem?_map]
 split
 ·cases l[i.toNat]? <;> rfl
 ·rfl
def G0 (s : List UInt8) (i : Int) : Option Int := if 0 ≤ i then (s[i.toNat]?).map fun b => (b.toNat : Int) else none
theorem tW {t : TypeId} {s : List UInt8} {k : IntKind} {i : Int} (hu : P.underlying t = some .string) : mj P t (.str s) (.int k i) = (G0 s i).map (V.int .u8) := by
 unfold mj G0
 rw [hu]
 simp only
 split
 ·cases s[i.toNat]? <;> rfl
 ·rfl
def cut (l : List α) (lo hi : Int) : Option (List α) := if 0 ≤ lo ∧ lo ≤ hi ∧ hi ≤ (l.length : Int) then some ((l.take hi.toNat).drop lo.toNat) else none
theorem uz {e : α → V} {t et : TypeId} {o sz : Nat} {l : List α} {a b : Option V} {lo hi : Int} (hu : P.underlying t = some (.slice et)) (hs : P.cellsOf et = sz) (h0 : sz ≠ 0) (ha : Z0 0 a = some lo) (hb : Z0 (l.map e).length b = some hi) :
  fu P t (.sl o sz (l.map e)) a b none = (cut l lo hi).map fun m => .sl 0 sz (m.map e) := by
 unfold fu cut
 simp only [Option.isSome_none, Bool.false_eq_true, if_false, hu]
 rw [if_pos ⟨hs.symm, by rw [hs]; exact h0⟩, ha, Option.bind_some, hb, Option.bind_some]
 simp only [List.length_map]
 split
 ·simp only [Option.map_some, List.map_drop, List.map_take]
 ·rfl
theorem uA {t : TypeId} {s : List UInt8} {a b : Option V} {lo hi : Int} (hu : P.underlying t = some .string) (ha : Z0 0 a = some lo) (hb : Z0 s.length b = some hi) :
  fu P t (.str s) a b none = (cut s lo hi).map V.str := by
 unfold fu cut
 simp only [Option.isSome_none, Bool.false_eq_true, if_false, hu, ha, Option.bind_some, hb]
 split <;> rfl
def cat (a b : List UInt8) : Option (List UInt8) := if a.length + b.length ≤ p4 then some (a ++ b) else none
theorem Fn {a b : List UInt8} : uE .add a b = (cat a b).map V.str := by
 show (if a.length + b.length ≤ p4 then some (V.str (a ++ b)) else none) = _
 unfold cat
 split <;> rfl
theorem vp {f : FuncId} {ys : List V} {l : Bool} {x : Option α} {w : α → V} (h : callH f ys = x.map fun a => (w a, [])) (hp : l = false ∨ ∀ a, plain (w a) = true) :
  ((callH f ys).bind fun r => if r.2.isEmpty && (!l || plain r.1) then some r.1 else none) = x.map w := by
 rw [h]
 cases x with
 | none => rfl
 | some a =>
  simp only [Option.map_some, Option.bind_some, List.isEmpty_nil, Bool.true_and]
  rcases hp with rfl | hp
  ·rfl
  ·rw [hp a]; simp
theorem zT {σ : List (Nat × r8)} {args ys : List V} {l : Bool} {f : FuncId} {x : Option α} {w : α → V} (ha : A6 σ args = some (ys, l)) (h : callH f ys = x.map fun a => (w a, [])) (hp : l = false ∨ ∀ a, plain (w a) = true) :
  ((A6 σ args).bind fun xs => (callH f xs.1).bind fun r => if r.2.isEmpty && (!xs.2 || plain r.1) then some r.1 else none) = x.map w := by
 rw [ha]
 exact vp h hp
theorem Y5 {a : α} {f : α → Option β} : (some a).bind f = f a := rfl
theorem F8 {x : Option α} {K : α → Option β} {g : α → β} (h : ∀ a, K a = some (g a)) : x.bind K = x.map g := by
 cases x with
 | none => rfl
 | some a => exact h a
theorem Al {e : α → V} {t et : TypeId} {o sz : Nat} {l : List α} (hu : P.underlying t = some (.slice et)) : vG P t (.sl o sz (l.map e)) = (some ()).map fun _ => .int .i64 (l.length : Int) := by
 unfold vG
 rw [hu]
 simp
def app (l m : List α) : Option (List α) := if l.length + m.length ≤ p4 then some (l ++ m) else none
theorem tu {st : St} {tk : List Nat} {s x : Operand} {T T2 : TypeId} {o sz : Nat} {l m : List α} {e : α → V} (ha : opd P st.t tk T s = some (.sl o sz (l.map e))) (hb : opd P st.t [] T2 x = some (.sl 0 sz (m.map e))) (hty : U8 P T T2 = true)
  (hsl : S8 P T2 = true) (hsz : bs P T = sz) (ho : o = 1 ∨ o = 2) :
  aH P st tk ⟨.builtin .append, #[s, x], #[T, T2]⟩ = (app l m).map fun v => (.sl o sz (v.map e), { st with t := AE.untake tk st.t }) := by
 unfold aH app
 simp only [ha, hb, Option.bind_some, hty, cond_true, hsl, sZ, hsz, true_or, if_true, List.length_map]
 by_cases h : l.length + m.length ≤ p4
 ·rw [if_pos ⟨ho, trivial, h⟩, if_pos h]
  simp
 ·rw [if_neg (fun hh => h hh.2.2), if_neg h]
  rfl
section
variable {σ : List (Nat × r8)} {ρ : TypeId → Operand → Option V} {o : Oper}
theorem i6 {e : α → V} {t et : TypeId} {q sz : Nat} {k : IntKind} {l : List α} {n : Int} {x i : Operand} (hop : o.op = .indexAddr t x i) (hx : ρ t x = some (.sl q sz (l.map e))) (hi : ρ 0 i = some (.int k n)) (hu : P.underlying t = some (.slice et)) (hs : P.cellsOf et = sz) (h0 : sz ≠ 0) :
  j5 P callH σ ρ o = (idx l n).map fun x => .pro (e x) := by
 simp only [j5, hop, hx, hi, Option.bind_some]
 exact pF hu hs h0
theorem s9 {t : TypeId} {k : IntKind} {s : List UInt8} {n : Int} {x i : Operand} (hop : o.op = .index t x i) (hx : ρ t x = some (.str s)) (hi : ρ 0 i = some (.int k n)) (hu : P.underlying t = some .string) :
  j5 P callH σ ρ o = (G0 s n).map (V.int .u8) := by
 simp only [j5, hop, hx, hi, Option.bind_some]
 exact tW hu
theorem m8 {e : α → V} {t et : TypeId} {q sz : Nat} {l : List α} {c : Call} {x : Operand} (hop : o.op = .call c) (hc : c.callee = .builtin .len) (ha : c.args.toList = [x]) (h1 : c.argTypes.size = 1) (ht : ga c.argTypes 0 = t) (hx : ρ t x = some (.sl q sz (l.map e))) (hu : P.underlying t = some (.slice et)) :
  j5 P callH σ ρ o = (some ()).map fun _ => .int .i64 (l.length : Int) := by
 simp only [j5, hop, hc, ha, h1, if_true, ht, hx, Option.bind_some]
 exact Al hu
def uk (ρ : TypeId → Operand → Option V) : Option Operand → Option (Option V)
 | none => some none
 | some l => (ρ 0 l).map some
theorem zk {t : TypeId} {v : V} {x : Operand} {lo hi : Option Operand} {a b : Option V} (hop : o.op = .slice t x lo hi none) (hx : ρ t x = some v) (ha : uk ρ lo = some a) (hb : uk ρ hi = some b) : j5 P callH σ ρ o = fu P t v a b none := by
 simp only [j5, hop, hx, Option.bind_some]
 cases lo with
 | none =>
  obtain rfl := Option.some.inj ha
  cases hi with
  | none => obtain rfl := Option.some.inj hb; rfl
  | some h =>
   obtain ⟨u, hu, rfl⟩ := map_some hb
   simp only [hu]; rfl
 | some l =>
  obtain ⟨u, hu, rfl⟩ := map_some ha
  cases hi with
  | none => obtain rfl := Option.some.inj hb; simp only [hu]; rfl
  | some h =>
   obtain ⟨u2, hu2, rfl⟩ := map_some hb
   simp only [hu, hu2]; rfl
theorem ru {e : α → V} {t et : TypeId} {q sz : Nat} {l : List α} {x : Operand} {lo hi : Option Operand} {a b : Option V} {m n : Int} (hop : o.op = .slice t x lo hi none) (hx : ρ t x = some (.sl q sz (l.map e)))
  (ha : uk ρ lo = some a) (hb : uk ρ hi = some b) (h1 : Z0 0 a = some m) (h2 : Z0 (l.map e).length b = some n) (hu : P.underlying t = some (.slice et)) (hs : P.cellsOf et = sz) (h0 : sz ≠ 0) :
  j5 P callH σ ρ o = (cut l m n).map fun m => .sl 0 sz (m.map e) := by
 rw [zk hop hx ha hb]
 exact uz hu hs h0 h1 h2
theorem u6 {t : TypeId} {s : List UInt8} {x : Operand} {lo hi : Option Operand} {a b : Option V} {m n : Int} (hop : o.op = .slice t x lo hi none) (hx : ρ t x = some (.str s))
  (ha : uk ρ lo = some a) (hb : uk ρ hi = some b) (h1 : Z0 0 a = some m) (h2 : Z0 s.length b = some n) (hu : P.underlying t = some .string) :
  j5 P callH σ ρ o = (cut s m n).map V.str := by
 rw [zk hop hx ha hb]
 exact uA hu h1 h2
theorem dm {t t2 : TypeId} {x y : Operand} {a b : List UInt8} (hop : o.op = .binOp .add t x y t2) (hx : ρ t x = some (.str a)) (hy : ρ t2 y = some (.str b)) : j5 P callH σ ρ o = (cat a b).map V.str := by
 simp only [j5, hop, hx, hy, Option.bind_some]
 exact Fn
theorem f9 {c : Call} {f : Operand} {fid : FuncId} {first caps vs ys : List V} {l : Bool} {x : Option α} {w : α → V} (hop : o.op = .call c) (hc : c.callee = .value f) (hf : ρ 0 f = some (.fn fid first caps)) (hv : gW ρ c.argTypes 0 c.args.toList = some vs)
  (ha : A6 σ (first ++ vs ++ caps) = some (ys, l)) (h : callH fid ys = x.map fun a => (w a, [])) (hp : l = false ∨ ∀ a, plain (w a) = true) : j5 P callH σ ρ o = x.map w := by
 simp only [j5, hop, hc, hf, hv, Option.bind_some]
 exact zT ha h hp
end
theorem EA {σ : List (Nat × r8)} {ρ : TypeId → Operand → Option V} {o : Oper} {t t2 : TypeId} {x y : Operand} {xs ys : List V} {fs : Array Field} {r : Bool} (hop : o.op = .binOp .neq t x y t2) (hx : ρ t x = some (.agg xs)) (hy : ρ t2 y = some (.agg ys))
  (hu : P.underlying t = some (.struct fs)) (hs : P.stoodInHeld t = false) (hg : P.eqGuardType P.depth t = false) (h : T8 P 0 fs.toList xs ys = some r) : j5 P callH σ ρ o = (some ()).map fun _ => .bool (!r) := by
 simp only [j5, hop, hx, hy, Option.bind_some, zQ, oh, hu]
 rw [if_pos ⟨hs, hg⟩, h]
 rfl
theorem nh {st : St} {oa : w9} {o : Oper} {c : Call} {s x : Operand} {T T2 : TypeId} {q sz : Nat} {l m : List α} {e : α → V} (hop : o.op = .call c) (hc : c.callee = .builtin .append) (hargs : c.args.toList = [s, x]) (hts : c.argTypes.toList = [T, T2])
  (htk : Nat.blt 1 oa.tk.length = false) (ha : opd P st.t oa.tk T s = some (.sl q sz (l.map e))) (hb : opd P st.t [] T2 x = some (.sl 0 sz (m.map e))) (hty : U8 P T T2 = true) (hsl : S8 P T2 = true) (hsz : bs P T = sz) (ho : q = 1 ∨ q = 2) :
  P9 P callH oa st o = (app l m).map fun v => (.sl q sz (v.map e), { st with t := AE.untake oa.tk st.t }) := by
 have h1 : c = ⟨.builtin .append, #[s, x], #[T, T2]⟩ := by
  cases c with
  | mk callee args argTypes =>
   simp only at hc hargs hts
   subst hc
   rw [show args = #[s, x] from by rw [← Array.toList_inj]; exact hargs, show argTypes = #[T, T2] from by rw [← Array.toList_inj]; exact hts]
 subst h1
 unfold P9
 rw [htk]
 simp only [cond_false, hop]
 exact tu ha hb hty hsl hsz ho
theorem Fw {x : Option α} {K1 : α → Option β} {K2 : α → Option γ} {g : γ → β} (h : ∀ a, x = some a → K1 a = (K2 a).map g) : x.bind K1 = (x.bind K2).map g := by
 cases x with
 | none => rfl
 | some a => exact h a rfl
def rN (l : List α) (h : Int) : Option Nat := if 0 ≤ h ∧ h ≤ (l.length : Int) then some h.toNat else none
theorem Az {l : List α} {h : Int} {n : Nat} (hh : rN l h = some n) : n ≤ l.length := by
 unfold rN at hh
 split at hh
 ·obtain rfl := Option.some.inj hh
  omega
 ·cases hh
section
variable {σ : List (Nat × r8)} {ρ : TypeId → Operand → Option V} {o : Oper}
theorem uo {e : α → V} {t et : TypeId} {d : Nat} {l : List α} {c : Call} {x : Operand} (hop : o.op = .call c) (hc : c.callee = .builtin .len) (ha : c.args.toList = [x]) (h1 : c.argTypes.size = 1) (ht : ga c.argTypes 0 = t) (hx : ρ t x = some (.aref d 0 (l.map e).length)) (hu : P.underlying t = some (.slice et)) :
  j5 P callH σ ρ o = (some ()).map fun _ => .int .i64 (l.length : Int) := by
 simp only [j5, hop, hc, ha, h1, if_true, ht, hx, Option.bind_some]
 unfold vG
 rw [hu]
 simp
theorem zn {e : α → V} {t et : TypeId} {d : Nat} {l : List α} {k : IntKind} {h : Int} {x y : Operand} (hop : o.op = .slice t x none (some y) none) (hx : ρ t x = some (.aref d 0 (l.map e).length)) (hh : ρ 0 y = some (.int k h)) (hu : P.underlying t = some (.slice et)) (h0 : P.cellsOf et ≠ 0) :
  j5 P callH σ ρ o = (rN l h).map fun v => .aref d 0 v := by
 rw [zk (a := none) (b := some (.int k h)) hop hx rfl (by simp [uk, hh])]
 unfold fu rN
 simp only [Option.isSome_none, Bool.false_eq_true, if_false, hu, Z0, Option.bind_some, List.length_map]
 rw [if_pos ⟨h0, rfl⟩]
 split <;> rfl
end
theorem zi {st : St} {oa : w9} {o : Oper} {c : Call} {s x : Operand} {T T2 : TypeId} {d n sz : Nat} {l m : List α} {e : α → V} (hop : o.op = .call c) (hc : c.callee = .builtin .append) (hargs : c.args.toList = [s, x]) (hts : c.argTypes.toList = [T, T2])
  (htk : oa.tk = []) (ha : opd P st.t [] T s = some (.aref d 0 n)) (hb : opd P st.t [] T2 x = some (.sl 0 sz (m.map e))) (hty : U8 P T T2 = true) (hsl : S8 P T2 = true) (hsz : bs P T = sz) (hs : d4 d st.σ = some ⟨true, sz, l.map e⟩) (hn : n ≤ l.length) (hd : d < st.n) :
  P9 P callH oa st o = (app (l.take n) m).map fun v => (.aref d 0 (v.map e).length, { killRefs d st with σ := put d ⟨true, sz, v.map e⟩ (killRefs d st).σ }) := by
 unfold P9
 rw [htk]
 simp only [List.length_nil, show Nat.blt 1 0 = false from rfl, cond_false, hop, hc]
 unfold aH app
 rw [hargs, hts]
 simp only [ha, hb, Option.bind_some, hty, cond_true, hsl, sZ, hsz, true_or, if_true, hs, List.length_map]
 have h1 : (l.take n).length = n := by simp; omega
 rw [h1]
 by_cases hm : n + m.length ≤ p4
 ·rw [if_pos (by simp; exact ⟨hn, hm, hd⟩), if_pos hm]
  simp [h1]
 ·rw [if_neg (fun hh => hm hh.2.2.2.1), if_neg hm]
  rfl
theorem gv {l : List α} {e e' : α → V} (h : ∀ a, (e a).strip2 = e' a) : (l.map e).map V.strip2 = l.map e' := by
 rw [List.map_map]
 exact List.map_congr_left fun a _ => h a
theorem Ey {σ : List (Nat × r8)} {d sz : Nat} {l : List α} {e e' : α → V} (hst2 : ∀ a, (e a).strip2 = e' a) (hs : d4 d σ = some ⟨true, sz, l.map e⟩) : R8 σ 4 (.aref d 0 (l.map e).length) = some (.sl 0 sz (l.map e'), true) := by
 simp only [R8, show Nat.beq 0 0 = true from rfl, cond_true, hs, Option.bind_some]
 rw [if_pos ⟨trivial, Nat.le_refl _⟩, List.take_length, gv hst2]
theorem Ex {σ : List (Nat × r8)} {d sz : Nat} {l : List α} {e : α → V} (hs : d4 d σ = some ⟨true, sz, l.map e⟩) (hst2 : ∀ a, (e a).strip2 = e a := by intro _; rfl) : R8 σ 4 (.aref d 0 (l.map e).length) = some (.sl 0 sz (l.map e), true) := Ey hst2 hs
theorem pQ {σ : List (Nat × r8)} {v v' : V} {r r' : List V} {b c : Bool} (h : R8 σ 4 v = some (v', b)) (hn : ∀ s i q, v ≠ .ptr s i q) (hr : A6 σ r = some (r', c)) : A6 σ (v :: r) = some (v' :: r', b || c) := by
 have e : A6 σ (v :: r) = (R8 σ 4 v).bind fun x => (A6 σ r).map fun xs => (x.1 :: xs.1, x.2 || xs.2) := by
  cases v <;> first | rfl | exact absurd rfl (hn _ _ _)
 rw [e, h, hr]
 rfl
def inB (n : Nat) (i : Int) : Option Unit := if 0 ≤ i ∧ i < (n : Int) then some () else none
theorem sQ {σ : List (Nat × r8)} {ρ : TypeId → Operand → Option V} {o : Oper} {t et : TypeId} {d n : Nat} {k : IntKind} {i : Int} {x y : Operand} {z : r8} (hop : o.op = .indexAddr t x y) (hx : ρ t x = some (.aref d 0 n)) (hi : ρ 0 y = some (.int k i)) (hu : P.underlying t = some (.slice et))
  (hs : d4 d σ = some z) (hz : z.sz = P.cellsOf et) (h0 : z.sz ≠ 0) : j5 P callH σ ρ o = (inB n i).map fun _ => .ptr d (0 + i.toNat) 0 := by
 simp only [j5, hop, hx, hi, Option.bind_some]
 unfold H7 inB
 rw [hu]
 simp only [hs, Option.bind_some]
 by_cases hc : 0 ≤ i ∧ i < (n : Int)
 ·rw [if_pos hc, if_pos hc, if_pos ⟨hz, h0⟩]
  rfl
 ·rw [if_neg hc, if_neg hc]
  rfl
def bX (l r : List α) : Option (List α) := if r.length = l.length then some r else none
theorem ul {st : St} {oa : w9} {o : Oper} {c : Call} {s x : Operand} {T T2 : TypeId} {d sz : Nat} {l m : List α} {e : α → V} (hop : o.op = .call c) (hc : c.callee = .builtin .append) (hargs : c.args.toList = [s, x]) (hts : c.argTypes.toList = [T, T2])
  (htk : oa.tk = []) (ha : opd P st.t [] T s = some (.aref d 0 (l.map e).length)) (hb : opd P st.t [] T2 x = some (.sl 0 sz (m.map e))) (hty : U8 P T T2 = true) (hsl : S8 P T2 = true) (hsz : bs P T = sz) (hs : d4 d st.σ = some ⟨true, sz, l.map e⟩) (hd : d < st.n) :
  P9 P callH oa st o = (app l m).map fun v => (.aref d 0 (v.map e).length, { killRefs d st with σ := put d ⟨true, sz, v.map e⟩ (killRefs d st).σ }) := by
 rw [List.length_map] at ha
 rw [zi hop hc hargs hts htk ha hb hty hsl hsz hs (Nat.le_refl _) hd, List.take_length]
theorem zl {σ : List (Nat × r8)} {ρ : TypeId → Operand → Option V} {o : Oper} {t et : TypeId} {d : Nat} {k : IntKind} {i : Int} {x y : Operand} {sz : Nat} {l : List α} {e : α → V} (hop : o.op = .indexAddr t x y) (hx : ρ t x = some (.aref d 0 (l.map e).length)) (hi : ρ 0 y = some (.int k i)) (hu : P.underlying t = some (.slice et))
  (hs : d4 d σ = some ⟨true, sz, l.map e⟩) (hz : sz = P.cellsOf et) (h0 : sz ≠ 0) : j5 P callH σ ρ o = (inB l.length i).map fun _ => .ptr d (0 + i.toNat) 0 := by
 rw [List.length_map] at hx
 exact sQ (z := ⟨true, sz, l.map e⟩) hop hx hi hu hs hz h0
theorem ED {σ : List (Nat × r8)} {d sz : Nat} {l : List α} {e : α → V} (hs : d4 d σ = some ⟨true, sz, l.map e⟩) (hst2 : ∀ a, (e a).strip2 = e a := by intro _; rfl) : Y9 σ [.aref d 0 (l.map e).length] = some ([.sl 2 sz (l.map e)], [d], false) := by
 simp only [Y9, show Nat.beq 0 0 = true from rfl, cond_true, hs, Option.bind_some]
 rw [if_pos ⟨trivial, trivial⟩, gv hst2]
 rfl
theorem Ar {st : St} {oa : w9} {o : Oper} {c : Call} {f : Operand} {fid : FuncId} {first caps vs ys : List V} {d sz : Nat} {l : List α} {e : α → V} {x : Option (List α)} (hop : o.op = .call c) (hc : c.callee = .value f) (htk : oa.tk = []) (hf : opd P st.t [] 0 f = some (.fn fid first caps)) (hv : gW (opd P st.t []) c.argTypes 0 c.args.toList = some vs)
  (ha : Y9 st.σ (first ++ vs ++ caps) = some (ys, [d], false)) (hs : d4 d st.σ = some ⟨true, sz, l.map e⟩) (h : callH fid ys = x.map fun a => (.tup [], [.sl 2 sz (a.map e)])) :
  P9 P callH oa st o = (x.bind (bX l)).map fun a => (.tup [], { st with σ := put d ⟨true, sz, a.map e⟩ st.σ }) := by
 unfold P9
 rw [htk]
 simp only [List.length_nil, show Nat.blt 1 0 = false from rfl, cond_false, hop, hc]
 unfold uO
 simp only [hc, hf, hv, Option.bind_some, ha, h]
 cases x with
 | none => rfl
 | some a =>
  simp only [Option.map_some, Option.bind_some, Bool.false_and, Bool.false_eq_true, if_false, Bool.not_false, Bool.true_or, if_true, fY, hs, nR, bX, List.length_map]
  by_cases hl : a.length = l.length
  ·rw [if_pos ⟨trivial, trivial, hl⟩, if_pos hl]
   rfl
  ·rw [if_neg (fun hh => hl hh.2.2), if_neg hl]
   rfl
theorem As {S : Nat → St} {oa : w9} {o : Oper} {c : Call} {f : Operand} {fid : FuncId} {first caps vs ys : List V} {d sz : Nat} {l : List α} {e : α → V} {x : Option (List α)} (hop : o.op = .call c) (hc : c.callee = .value f) (htk : oa.tk = []) (hf : opd P (S (l.map e).length).t [] 0 f = some (.fn fid first caps)) (hv : gW (opd P (S (l.map e).length).t []) c.argTypes 0 c.args.toList = some vs)
  (ha : Y9 (S (l.map e).length).σ (first ++ vs ++ caps) = some (ys, [d], false)) (hs : d4 d (S (l.map e).length).σ = some ⟨true, sz, l.map e⟩) (h : callH fid ys = x.map fun a => (.tup [], [.sl 2 sz (a.map e)])) :
  P9 P callH oa (S (l.map e).length) o = (x.bind (bX l)).map fun a => (.tup [], { S (a.map e).length with σ := put d ⟨true, sz, a.map e⟩ (S (a.map e).length).σ }) := by
 rw [Ar hop hc htk hf hv ha hs h]
 cases x with
 | none => rfl
 | some a =>
  simp only [Option.bind_some, bX]
  by_cases hl : a.length = l.length
  ·rw [if_pos hl]
   simp only [Option.map_some, List.length_map, hl]
  ·rw [if_neg hl]
   rfl
theorem At {st : St} {oa : w9} {o : Oper} {x : Operand} {d sz : Nat} {l : List α} {e : α → V} (hop : o.op = .assign x) (htk : oa.tk = []) (hcl : oa.close = true) (hx : opd P st.t [] o.type x = some (.aref d 0 (l.map e).length)) (hs : d4 d st.σ = some ⟨true, sz, l.map e⟩) (hd : d < st.n) (hst2 : ∀ a, (e a).strip2 = e a := by intro _; rfl) :
  P9 P callH oa st o = (some ()).map fun _ => (.sl 2 sz (l.map e), dropSite d st) := by
 unfold P9
 rw [htk]
 simp only [List.length_nil, show Nat.blt 1 0 = false from rfl, cond_false, hop, hcl, cond_true, hx, Option.bind_some, hs]
 rw [if_pos ⟨trivial, trivial, hd⟩, gv hst2]
 rfl
theorem zj {st : St} {oa : w9} {o : Oper} {x : Operand} {d sz : Nat} {l : List α} {e e' : α → V} (hop : o.op = .assign x) (htk : oa.tk = []) (hcl : oa.close = true) (hx : opd P st.t [] o.type x = some (.aref d 0 (l.map e).length)) (hs : d4 d st.σ = some ⟨true, sz, l.map e⟩) (hd : d < st.n) (hst2 : ∀ a, (e a).strip2 = e' a) :
  P9 P callH oa st o = (some ()).map fun _ => (.sl 2 sz (l.map e'), dropSite d st) := by
 unfold P9
 rw [htk]
 simp only [List.length_nil, show Nat.blt 1 0 = false from rfl, cond_false, hop, hcl, cond_true, hx, Option.bind_some, hs]
 rw [if_pos ⟨trivial, trivial, hd⟩, gv hst2]
 rfl
theorem Au {st : St} {oa : w9} {o : Oper} {t : TypeId} {d j sz : Nat} {l : List α} {e e' : α → V} {x : Operand} (hop : o.op = .load t x) (htk : oa.tk = []) (hx : opd P st.t [] 0 x = some (.ptr d j 0)) (hs : d4 d st.σ = some ⟨true, sz, l.map e⟩)
  (hp : ∀ a, T1 P t (e a).cells 0 = some (e a)) (hst : ∀ a, setCells (e a) 0 (e a).strip.cells = some (e' a)) :
  P9 P callH oa st o = (l[j]?).map fun a => (e a, { st with σ := put d ⟨true, sz, (l.map e).set j (e' a)⟩ st.σ }) := by
 unfold P9
 rw [htk]
 simp only [List.length_nil, show Nat.blt 1 0 = false from rfl, cond_false, hop, hx, Option.bind_some]
 unfold V7
 simp only [hs, Option.bind_some, List.getElem?_map]
 cases l[j]? with
 | none => rfl
 | some a => simp only [Option.map_some, Option.bind_some, hp, hst]
theorem zm {σ : List (Nat × r8)} {ρ : TypeId → Operand → Option V} {o : Oper} {t et : TypeId} {d : Nat} {k : IntKind} {i : Int} {x y : Operand} {sz : Nat} {es : List V} {l : List α} {e : α → V} (hop : o.op = .indexAddr t x y) (hx : ρ t x = some (.aref d 0 (l.map e).length)) (hi : ρ 0 y = some (.int k i)) (hu : P.underlying t = some (.slice et))
  (hs : d4 d σ = some ⟨true, sz, es⟩) (hz : sz = P.cellsOf et) (h0 : sz ≠ 0) : j5 P callH σ ρ o = (inB l.length i).map fun _ => .ptr d (0 + i.toNat) 0 := by
 rw [List.length_map] at hx
 exact sQ (z := ⟨true, sz, es⟩) hop hx hi hu hs hz h0
theorem zo {S : Nat → St} {oa : w9} {o : Oper} {t : TypeId} {d j sz q : Nat} {l : List α} {e : α → V} {u : V} {v : α} {x y : Operand} (hop : o.op = .store t x y) (htk : oa.tk = [q]) (hx : opd P (S (l.map e).length).t [] 0 x = some (.ptr d j 0)) (hy : opd P (S (l.map e).length).t [q] t y = some (e v)) (hs : d4 d (S (l.map e).length).σ = some ⟨true, sz, (l.map e).set j u⟩)
  (h1 : (e v).flat = true) (h2 : (e v).cells.length = P.cellsOf t) (h3 : (e v).isAgg = K8 P t) (h4 : (P.info? t).isSome = true) (h5 : (e v).okA = true) (h6 : setCells u 0 (e v).cells = some (e v)) :
  P9 P callH oa (S (l.map e).length) o = (l[j]?).map fun _ => (.tup [], { S ((l.set j v).map e).length with t := AE.untake [q] (S ((l.set j v).map e).length).t, σ := put d ⟨true, sz, (l.set j v).map e⟩ (S ((l.set j v).map e).length).σ }) := by
 have hlen : ((l.set j v).map e).length = (l.map e).length := by simp
 rw [hlen]
 unfold P9
 rw [htk]
 simp only [List.length_singleton, show Nat.blt 1 1 = false from rfl, cond_false, hop, hx, hy, Option.bind_some]
 unfold mS
 simp only [hs, Option.bind_some]
 by_cases hj : j < l.length
 ·rw [List.getElem?_set_self (by simpa using hj), List.getElem?_eq_getElem hj]
  simp only [Option.bind_some, Option.map_some]
  rw [if_pos ⟨h1, h2, h3, h4, fun _ => h5⟩, h6]
  simp only [Option.map_some, List.set_set, List.map_set]
 ·rw [List.getElem?_eq_none (by simp; omega), List.getElem?_eq_none (by omega)]
  rfl
def quoI (k : IntKind) (a b : Int) : Option Int := if b = 0 then none else some (k.wrap (a.tdiv b))
end
def cL : Code → Code
 | .seq a _ => a
 | .cond _ a _ => a
 | .block _ c => c
 | .loop c => c
 | .scope c => c
 | c => c
def cR : Code → Code
 | .seq _ b => b
 | .cond _ _ b => b
 | c => c
def cO : Code → Array Oper
 | .region _ o _ => o
 | _ => #[]
def cB (f : Func) : Code := match f.body with | some c => c | none => .skip
def cW : Nat → Nat → Code → Code
 | 0, _, c => c
 | k + 1, n, c => bif Nat.beq n 1 then c else cW k (n / 2) (bif Nat.beq (n % 2) 0 then cL c else cR c)
def oN (f : Func) (n : Nat) : Array Oper := cO (cW 200 n (cB f))
theorem ra {P : Program} {callH : Q3} {ops : Array Oper} {b9 : List (Nat × w9)} {ks : List Nat} {i : Nat} {st : St} {r : Option St} (m j : Nat) (st' : St) (h : gz P callH ops b9 i ((ops.toList.drop i).take m) st = some st') (hj : i + m = j) (hs : Nat.ble j ops.size = true)
  (k : reg P callH ops b9 ks j st' = r) : reg P callH ops b9 ks i st = r := (rF h hj hs).trans k
theorem ba {P : Program} {callH : Q3} {ops : Array Oper} {b9 : List (Nat × w9)} {ks : List Nat} {i : Nat} {X : Option St} {r : Option St} (m j : Nat) (st' : St) (h : (X.bind fun s => bT s (gz P callH ops b9 i ((ops.toList.drop i).take m))) = some st') (hj : i + m = j) (hs : Nat.ble j ops.size = true)
  (k : reg P callH ops b9 ks j st' = r) : X.bind (reg P callH ops b9 ks i) = r := (wq h hj hs).trans k
theorem et {α : Sort _} {a b c : α} (h : a = b) (k : b = c) : a = c := h.trans k
theorem rE {P : Program} {callH : Q3} {ks : List Nat} {b9 : List (Nat × w9)} {ops : Array Oper} {st st' : St} (h : (gz P callH ops b9 0 (ops.toList.drop 0) st).map (eV ks) = some st') : Q2 P callH ⟨ks, b9⟩ ops false st = some st' := fe.trans (c9 h)
def wfI (k : IntKind) (n : Int) : Prop := (Lit.int k n).wf = true
def wfS (s : List UInt8) : Prop := s.length ≤ maxLen
def wfT {α : Type} (_ : α) : Prop := True
def wfL {α : Type} (wf : α → Prop) (l : List α) : Prop := l.length ≤ maxLen ∧ ∀ a ∈ l, wf a
section
variable {P : Program} {G : Glo} {callH : Q3} {α : Type} {σ : List (Nat × r8)} {ρ : TypeId → Operand → Option V} {o : Oper}
theorem um {t et : TypeId} {x y : Operand} {k : IntKind} {i : Int} {l : List α} {e : α → V} {n : Nat} (hop : o.op = .index t x y) (hx : ρ t x = some (.agg (l.map e))) (hi : ρ 0 y = some (.int k i)) (hu : P.underlying t = some (.array n et)) (hn : l.length = n)
  (hs : P.cellsOf et = 1) (ha : K8 P et = false) (hq : (P.underlying et).isSome = true) : j5 P callH σ ρ o = (idx l i).map e := by
 simp only [j5, hop, hx, hi, Option.bind_some]
 unfold mj idx
 rw [hu]
 simp only
 by_cases h0 : 0 ≤ i
 ·rw [if_pos h0]
  by_cases hlt : i < (n : Int)
  ·rw [if_pos ⟨h0, hlt⟩]
   unfold T1
   rw [ha]
   simp only [Bool.false_eq_true, if_false]
   rw [if_pos hq, hs, Nat.mul_one, List.getElem?_map]
  ·rw [if_neg (fun h => hlt h.2), List.getElem?_eq_none (by omega)]
   rfl
 ·rw [if_neg (fun h => h0 h.1), if_neg h0]
  rfl
def mkN (z : α) (n : Int) : Option (List α) := if 0 ≤ n ∧ n ≤ (p4 : Int) then some (List.replicate n.toNat z) else none
end
def vP (s : List UInt8) (n : Int) : Option (List UInt8) := if 0 ≤ n ∧ n ≤ 1000000 ∧ s.length ≤ 1000000 then some (List.replicate n.toNat s).flatten else none
def mb : List V → Option (V × List V)
 | [.str s, .int .i64 n] => (vP s n).map fun r => (.str r, [])
 | _ => none
def wc : List V → Option (List (List UInt8))
 | [] => some []
 | .str s :: r => (wc r).map (s :: ·)
 | _ => none
theorem tc : ∀ xs : List (List UInt8), wc (xs.map V.str) = some xs
 | [] => rfl
 | s :: xs => by
  show (wc (xs.map V.str)).map (s :: ·) = _
  rw [tc xs]
  rfl
def jz (xs : List (List UInt8)) (sep : List UInt8) : Option (List UInt8) := if xs.length ≤ 1000000 ∧ (sep.intercalate xs).length ≤ 140737488355328 then some (sep.intercalate xs) else none
def dW : List V → Option (V × List V)
 | [.sl 0 1 l, .str sep] => (wc l).bind fun xs => (jz xs sep).map fun r => (.str r, [])
 | _ => none
theorem oi (xs : List (List UInt8)) (sep : List UInt8) : dW [.sl 0 1 (xs.map V.str), .str sep] = (jz xs sep).map fun r => (.str r, []) := by
 unfold dW
 simp only [tc, Option.bind_some]
def Fx : List UInt8 → List UInt8 → Int
 | [], [] => 0
 | [], _ :: _ => -1
 | _ :: _, [] => 1
 | a :: x, b :: y => if a < b then -1 else if b < a then 1 else Fx x y
def repL (l : List (List UInt8)) (n : Int) : Option (List (List UInt8)) := match l with
 | [s] => if 1 ≤ n ∧ n ≤ 1000000 then some (List.replicate n.toNat s) else none
 | _ => none
end Go.AE

namespace Go.AE
set_option linter.unusedSimpArgs false
set_option linter.unusedVariables false
section
variable {P : Program} {G : Glo} {callH : Q3} {α β γ : Type} {b9 : List (Nat × c8)} {n : Nat} {st : St} {K : X × St → Option β} {id : Nat} {ops : Array Oper} {rest : Code}
theorem kr (st' : St) {r : Option β} (h : (gz P callH ops ((d4 id b9).getD {}).ops 0 (ops.toList.drop 0) st).map (eV ((d4 id b9).getD {}).kill) = some st') (k : s6 P callH b9 n rest st' K = r) :
  s6 P callH b9 n (.seq (.region id ops false) rest) st K = r := (qj (ann := ⟨_, _⟩) rfl (rE h)).trans k
theorem kl (st' : St) {r : Option β} (h : (gz P callH ops ((d4 id b9).getD {}).ops 0 (ops.toList.drop 0) st).map (eV ((d4 id b9).getD {}).kill) = some st') (k : K (.normal, st') = r) :
  s6 P callH b9 n (.region id ops false) st K = r := (tZ (ann := ⟨_, _⟩) rfl (rE h)).trans k
theorem kra {t : List (Nat × V)} {σ : List (Nat × r8)} {n' : Nat} (d : List (Nat × V)) {r : Option β} (h : (gz P callH ops ((d4 id b9).getD {}).ops 0 (ops.toList.drop 0) ⟨t, σ, n'⟩).map (eV ((d4 id b9).getD {}).kill) = some ⟨t ++ d, σ, n'⟩) (k : s6 P callH b9 n rest ⟨t ++ d, σ, n'⟩ K = r) :
  s6 P callH b9 n (.seq (.region id ops false) rest) ⟨t, σ, n'⟩ K = r := kr _ h k
theorem krp (a : c8) (ha : (d4 id b9).getD {} = a) (st' : St) {r : Option β} (h : reg P callH ops a.ops a.kill 0 st = some st') (k : s6 P callH b9 n rest st' K = r) :
  s6 P callH b9 n (.seq (.region id ops false) rest) st K = r := (qj ha (fe.trans h)).trans k
theorem kg {δ : Type} (a : c8) (ha : (d4 id b9).getD {} = a) {x : Option α} (g : α → St) {f : α → Option δ} {fin : δ → β} (h : reg P callH ops a.ops a.kill 0 st = x.map g) (k : ∀ o, s6 P callH b9 n rest (g o) K = (f o).map fin) :
  s6 P callH b9 n (.seq (.region id ops false) rest) st K = (x.bind f).map fin := (sF ha (fe.trans h)).trans (n5 k)
theorem kgl {δ : Type} (a : c8) (ha : (d4 id b9).getD {} = a) {x : Option α} (g : α → St) {f : α → Option δ} {fin : δ → β} (h : reg P callH ops a.ops a.kill 0 st = x.map g) (k : ∀ o, K (.normal, g o) = (f o).map fin) :
  s6 P callH b9 n (.region id ops false) st K = (x.bind f).map fin := (qi ha (fe.trans h)).trans (n5 k)
theorem kga {δ : Type} {t : List (Nat × V)} {σ : List (Nat × r8)} {n' : Nat} (a : c8) (ha : (d4 id b9).getD {} = a) {x : Option α} (d : α → List (Nat × V)) {f : α → Option δ} {fin : δ → β} (h : reg P callH ops a.ops a.kill 0 ⟨t, σ, n'⟩ = x.map fun o => ⟨t ++ d o, σ, n'⟩) (k : ∀ o, s6 P callH b9 n rest ⟨t ++ d o, σ, n'⟩ K = (f o).map fin) :
  s6 P callH b9 n (.seq (.region id ops false) rest) ⟨t, σ, n'⟩ K = (x.bind f).map fin := kg a ha _ h k
theorem kd {δ : Type} (a : c8) (ha : (d4 id b9).getD {} = a) {x : Option α} (g : α → St) {f : α → Option δ} {fin : δ → β} (h : Q2 P callH a ops true st = x.map g) (k : ∀ o, s6 P callH b9 n rest (g o) K = (f o).map fin) :
  s6 P callH b9 n (.seq (.region id ops true) rest) st K = (x.bind f).map fin := (sF ha h).trans (n5 k)
theorem kdl {δ : Type} (a : c8) (ha : (d4 id b9).getD {} = a) {x : Option α} (g : α → St) {f : α → Option δ} {fin : δ → β} (h : Q2 P callH a ops true st = x.map g) (k : ∀ o, K (.normal, g o) = (f o).map fin) :
  s6 P callH b9 n (.region id ops true) st K = (x.bind f).map fin := (qi ha h).trans (n5 k)
theorem kc {δ : Type} {c : Operand} {a b : Code} {t : Bool} {A B : Option δ} {fin : δ → β} (h : opd P st.t [] 0 c = some (.bool t)) (hk : cj b9 c st = st) (h1 : t = true → s6 P callH b9 n (.seq a rest) st K = A.map fin) (h0 : t = false → s6 P callH b9 n (.seq b rest) st K = B.map fin) :
  s6 P callH b9 n (.seq (.cond c a b) rest) st K = (bif t then A else B).map fin := (rf h hk).trans (wn h1 h0)
theorem kcl {δ : Type} {c : Operand} {a b : Code} {t : Bool} {A B : Option δ} {fin : δ → β} (h : opd P st.t [] 0 c = some (.bool t)) (hk : cj b9 c st = st) (h1 : t = true → s6 P callH b9 n a st K = A.map fin) (h0 : t = false → s6 P callH b9 n b st K = B.map fin) :
  s6 P callH b9 n (.cond c a b) st K = (bif t then A else B).map fin := (Aj h hk).trans (wn h1 h0)
end
section
variable {P : Program} {G : Glo} {callH : Q3} {α β : Type} {ops : Array Oper} {b9 : List (Nat × w9)} {ks : List Nat} {i n : Nat} {st : St} {t : List (Nat × V)} {σ : List (Nat × r8)} {r : Option St}
theorem rd (j : Nat) (d : List (Nat × V)) (h : gz P callH ops b9 i ((ops.toList.drop i).take (j - i)) ⟨t, σ, n⟩ = some ⟨t ++ d, σ, n⟩) (hj : (Nat.beq (i + (j - i)) j && Nat.ble j ops.size) = true) (k : reg P callH ops b9 ks j ⟨t ++ d, σ, n⟩ = r) :
  reg P callH ops b9 ks i ⟨t, σ, n⟩ = r := by
 rw [Bool.and_eq_true] at hj
 exact ra (j - i) j _ h (Nat.eq_of_beq_eq_true hj.1) hj.2 k
theorem bd {oa : w9} {dst : Option Tmp} {v : V} (j : Nat) (d : List (Nat × V)) (h : ((M7 oa dst v ⟨t, σ, n⟩).bind fun s => bT s (gz P callH ops b9 i ((ops.toList.drop i).take (j - i)))) = some ⟨t ++ d, σ, n⟩) (hj : (Nat.beq (i + (j - i)) j && Nat.ble j ops.size) = true) (k : reg P callH ops b9 ks j ⟨t ++ d, σ, n⟩ = r) :
  (M7 oa dst v ⟨t, σ, n⟩).bind (reg P callH ops b9 ks i) = r := by
 rw [Bool.and_eq_true] at hj
 exact ba (j - i) j _ h (Nat.eq_of_beq_eq_true hj.1) hj.2 k
def mE (ops : Array Oper) (b9 : List (Nat × w9)) (i : Nat) (t : List (Nat × V)) : Option Oper := match ops.toList.drop i with
 | o :: _ => (match u9 ops t o with | some true => bif K9 (n9 b9 i) o && !N7 o then some o else none | _ => none)
 | [] => none
theorem jd {t : List (Nat × V)} {o : Oper} (h : mE ops b9 i t = some o) : ∃ r, ops.toList.drop i = o :: r ∧ ops.toList.drop (i + 1) = r ∧ u9 ops t o = some true ∧ (K9 (n9 b9 i) o && !N7 o) = true := by
 unfold mE at h
 split at h
 ·rename_i o' r' e
  split at h
  ·rename_i e2
   cases e3 : K9 (n9 b9 i) o' && !N7 o' with
   | true =>
    rw [e3] at h
    obtain rfl := Option.some.inj h
    refine ⟨r', e, ?_, e2, e3⟩
    rw [← List.drop_drop, e]
    rfl
   | false => rw [e3] at h; cases h
  ·cases h
 ·cases h
theorem rp {o : Oper} {x : Option α} {w : α → V} {f : α → Option β} {g : β → St} (ho : mE ops b9 i st.t = some o) (hv : j5 P callH st.σ (opd P st.t []) o = x.map w) (k : ∀ a, (M7 (n9 b9 i) o.dst (w a) st).bind (reg P callH ops b9 ks (i + 1)) = (f a).map g) :
  reg P callH ops b9 ks i st = (x.bind f).map g := by
 obtain ⟨r, e1, e2, e3, e4⟩ := jd ho
 exact (lG e1 e2 e3 e4 hv).trans (n5 k)
theorem rx {o : Oper} {x : Option α} {w : α → V} {f : α → Option β} {g : β → St} (ho : mE ops b9 i st.t = some o) (hv : j5 P callH st.σ (opd P st.t []) o = x.map w) (k : ∀ a, x = some a → (M7 (n9 b9 i) o.dst (w a) st).bind (reg P callH ops b9 ks (i + 1)) = (f a).map g) :
  reg P callH ops b9 ks i st = (x.bind f).map g := by
 obtain ⟨r, e1, e2, e3, e4⟩ := jd ho
 exact (lG e1 e2 e3 e4 hv).trans (Fw k)
theorem rs {o : Oper} {x : Option α} {w : α → V} {g : α → St} (ho : mE ops b9 i st.t = some o) (hv : j5 P callH st.σ (opd P st.t []) o = x.map w) (k : ∀ a, (M7 (n9 b9 i) o.dst (w a) st).bind (reg P callH ops b9 ks (i + 1)) = some (g a)) :
  reg P callH ops b9 ks i st = x.map g := by
 obtain ⟨r, e1, e2, e3, e4⟩ := jd ho
 exact (lG e1 e2 e3 e4 hv).trans (F8 k)
theorem rl {o : Oper} {w : Unit → V} {r : Option St} (ho : mE ops b9 i st.t = some o) (hv : j5 P callH st.σ (opd P st.t []) o = (some ()).map w) (k : (M7 (n9 b9 i) o.dst (w ()) st).bind (reg P callH ops b9 ks (i + 1)) = r) :
  reg P callH ops b9 ks i st = r := by
 obtain ⟨r', e1, e2, e3, e4⟩ := jd ho
 exact (lG e1 e2 e3 e4 hv).trans k
end
def cg : List UInt8 → UInt8 → Int
 | [], _ => -1
 | b :: l, c => if b == c then 0 else if cg l c == -1 then -1 else cg l c + 1
def ma : List V → Option (V × List V)
 | [.str s, .int .u8 c] => some (.int .i64 (cg s c.toNat.toUInt8), [])
 | _ => none
def remE (a b : Int) : Option Int := if b = 0 then none else some (a.tmod b)
def shlI (k : IntKind) (a b : Int) : Option Int := if b < 0 then none else some (k.wrap (a * 2 ^ (min b.toNat k.bits)))
def shrI (k : IntKind) (a b : Int) : Option Int := if b < 0 then none else some (a.fdiv (2 ^ (min b.toNat k.bits)))
def andI (k : IntKind) (a b : Int) : Int := k.wrap ((BitVec.ofInt k.bits a &&& BitVec.ofInt k.bits b).toNat)
def orI (k : IntKind) (a b : Int) : Int := k.wrap ((BitVec.ofInt k.bits a ||| BitVec.ofInt k.bits b).toNat)
def xorI (k : IntKind) (a b : Int) : Int := k.wrap ((BitVec.ofInt k.bits a ^^^ BitVec.ofInt k.bits b).toNat)
section
variable {P : Program} {G : Glo} {callH : Q3} {σ : List (Nat × r8)} {ρ : TypeId → Operand → Option V} {o : Oper} {t t2 : TypeId} {x y : Operand} {k k' : IntKind} {a b : Int}
end
def catL {α : Type} : List (List α) → Option (List α)
 | [] => none
 | x :: r => if (x :: r).length ≤ 1000 ∧ (x :: r).flatten.length ≤ 4294967296 then some (x :: r).flatten else none
def Hc (n : Int) : Option (List UInt8) := if 0 ≤ n ∧ n < 10 then some [UInt8.ofNat (48 + n.toNat)] else if -9223372036854775808 ≤ n ∧ n ≤ 9223372036854775807 then some (Go.Lib.itoa n) else none
def qF (s cs : List UInt8) : Option (List UInt8) :=
 match cs with
 | [c] => if c.toNat < 128 ∧ s.length ≤ 1000000 then some (Go.Lib.trimRightB s c) else none
 | _ => none
def oj : List V → Option (V × List V)
 | [.str s, .str c] => (qF s c).map fun s => (.str s, [])
 | _ => none
def Hb : List UInt8 → Int → Int × Int
 | [], n => (n, 0)
 | c :: r, n => if c.toNat < 48 ∨ 57 < c.toNat then (0, 3) else Hb r (10 * n + ((c.toNat : Int) - 48))
def fdS (s : List UInt8) : Int × Int := if s.length < 1 ∨ 9 < s.length then (0, 3) else Hb s 0
def repG (s old new : List UInt8) : Option (List UInt8) := if s.length ≤ 1000000 ∧ 1 ≤ old.length ∧ new.length ≤ 1000 then some (Go.Lib.replaceAll s old new) else none
end Go.AE

namespace Go.AE
open Go.RowKit
set_option linter.unusedSimpArgs false
set_option linter.unusedVariables false
abbrev noE : Bnd := fun _ => none
abbrev noO : Own := fun _ => none
def RC0 (w : World) (vs : List V) (xs : List Value) : Prop := vs.length = xs.length ∧ ∀ j (h : j < vs.length) (h' : j < xs.length), R0 w noE (vs[j]) (xs[j])
theorem RC0.nil {w : World} : RC0 w [] [] := ⟨rfl, fun j h => by simp at h⟩
theorem RC0.one {w : World} {v : V} {x : Value} (h : R0 w noE v x) : RC0 w [v] [x] := ⟨rfl, fun j hj hj' => by
 have : j = 0 := by simp at hj; omega
 subst this
 exact h⟩
theorem RC0.append {w : World} {a b : List V} {x y : List Value} (h : RC0 w a x) (k : RC0 w b y) : RC0 w (a ++ b) (x ++ y) := by
 refine ⟨by simp [h.1, k.1], fun j hj hj' => ?_⟩
 have h1 := h.1
 by_cases hlt : j < a.length
 ·rw [List.getElem_append_left hlt, List.getElem_append_left (by omega)]
  exact h.2 j hlt (by omega)
 ·rw [List.getElem_append_right (by omega), List.getElem_append_right (by omega)]
  have := k.2 (j - a.length) (by simp at hj; omega) (by have := k.1; simp at hj; omega)
  simpa [h1] using this
section
variable {H : Type} {enc : TypeId × Value → H} {P : Program} {G : Glo} {w : World}
structure dh (enc : TypeId × Value → H) (P : Program) (w : World) (t : TypeId) {α : Type} (cells : α → List V) (wf : α → Prop) : Prop where
 len : ∀ a, (cells a).length = P.cellsOf t
 ok : ∀ fuel cs x, DataW.trod enc P w 0 (fun _ => true) true fuel t cs = some x → ∃ a, wf a ∧ RC0 w (cells a) cs
theorem dh.mono {t : TypeId} {α : Type} {cells : α → List V} {wf wf' : α → Prop} (h : dh enc P w t cells wf) (k : ∀ a, wf a → wf' a) : dh enc P w t cells wf' :=
 ⟨h.len, fun fuel cs x hx => by
  obtain ⟨a, h1, h2⟩ := h.ok fuel cs x hx
  exact ⟨a, k a h1, h2⟩⟩
theorem oQ {t : TypeId} (ht : P.underlying t = some .bool) (hc : P.cellsOf t = 1) : dh enc P w t (fun b : Bool => [V.bool b]) wfT :=
 ⟨fun _ => hc.symm, fun fuel cs x h => by
  obtain ⟨b, rfl, _⟩ := DataW.trod_bool ht h
  exact ⟨b, trivial, .one (.bool b)⟩⟩
theorem U0 {t : TypeId} {k : IntKind} (ht : P.underlying t = some (.int k)) (hc : P.cellsOf t = 1) : dh enc P w t (fun n : Int => [V.int k n]) (wfI k) :=
 ⟨fun _ => hc.symm, fun fuel cs x h => by
  obtain ⟨n, rfl, _, hw⟩ := DataW.trod_int ht h
  exact ⟨n, hw, .one (.int k n)⟩⟩
theorem U1 {t : TypeId} (ht : P.underlying t = some .string) (hc : P.cellsOf t = 1) : dh enc P w t (fun s : List UInt8 => [V.str s]) wfS :=
 ⟨fun _ => hc.symm, fun fuel cs x h => by
  obtain ⟨s, rfl, _, hw⟩ := DataW.trod_string ht h
  refine ⟨s.data.toList, ?_, .one ?_⟩
  ·unfold wfS
   rw [Array.length_toList]
   exact hw
  ·exact R0.str (w := w) (E := noE) s.data.toList⟩
theorem ne {α : Type} {p : Nat → α → Prop} : ∀ (n : Nat), (∀ i, i < n → ∃ a, p i a) → ∃ l : List α, l.length = n ∧ ∀ i (h : i < l.length), p i (l[i])
 | 0, _ => ⟨[], rfl, fun i h => by simp at h⟩
 | n + 1, h => by
  obtain ⟨l, h1, h2⟩ := ne n (fun i hi => h i (by omega))
  obtain ⟨a, ha⟩ := h n (by omega)
  refine ⟨l ++ [a], by simp [h1], fun i hi => ?_⟩
  by_cases hlt : i < l.length
  ·rw [List.getElem_append_left hlt]; exact h2 i hlt
  ·have : i = n := by simp at hi; omega
   subst this
   simp [h1]
   exact ha
theorem vt {b off : Nat} {sp : Option Nat} {x : Value} (h : w.cell? ⟨b, off, sp⟩ = some x) : sp = none ∧ ∃ c e fr, w.heap[b]? = some (.cells c e fr) ∧ c[off]? = some x := by
 unfold World.cell? at h
 split at h
 ·rename_i c e fr hb
  split at h
  ·cases h
  ·rename_i hs
   refine ⟨by cases sp with | none => rfl | some _ => simp at hs, c, e, fr, hb, h⟩
 ·cases h
theorem W1 {t e : TypeId} {α : Type} {encE : α → V} {wf : α → Prop} {sz : Nat} (ht : P.underlying t = some (.slice e)) (hc : P.cellsOf t = 1) (hz : P.cellsOf e = sz) (h0 : 0 < sz) (hE : dh enc P w e (fun a => (encE a).cells) wf) :
  dh enc P w t (fun l : List α => [V.sl 0 sz (l.map encE)]) (wfL wf) := by
 refine ⟨fun _ => hc.symm, fun fuel cs x h => ?_⟩
 subst hz
 rcases DataW.trod_slice ht h with ⟨rfl, _⟩ | ⟨a, len, cap, elems, rest, n, rfl, rfl, _, _, hlc, hcm, hel, hat, hsp, _⟩
 ·exact ⟨[], ⟨Nat.zero_le _, fun a ha => by cases ha⟩, .one (.slNil 0 _)⟩
 ·obtain ⟨hrl, hrat⟩ := hsp rfl
  -- every element, spare ones too, is there
  have hall : ∀ i, i < cap → ∃ y cs, w.cells? 0 (a.add (i * P.cellsOf e)) (P.cellsOf e) = some cs ∧ DataW.trod enc P w 0 (fun _ => true) true n e cs = some y := by
   intro i hi
   have : ∃ y, (w.cells? 0 (a.add (i * P.cellsOf e)) (P.cellsOf e)).bind (DataW.trod enc P w 0 (fun _ => true) true n e) = some y := by
    by_cases hil : i < len
    ·have hi2 : i < elems.length := by omega
     exact ⟨elems[i], by rw [hat i hil, List.getElem?_eq_getElem hi2]⟩
    ·have := hrat (i - len) (by omega)
     rw [show len + (i - len) = i by omega] at this
     have hi2 : i - len < rest.length := by omega
     exact ⟨rest[i - len], by rw [this, List.getElem?_eq_getElem hi2]⟩
   obtain ⟨y, hy⟩ := this
   rw [Option.bind_eq_some_iff] at hy
   obtain ⟨cs, h1, h2⟩ := hy
   exact ⟨y, cs, h1, h2⟩
  obtain ⟨l, hl1, hl2⟩ := ne (p := fun i b => wf b ∧ ∃ cs, w.cells? 0 (a.add (i * P.cellsOf e)) (P.cellsOf e) = some cs ∧ RC0 w ((encE b).cells) cs) len (fun i hi => by
   obtain ⟨y, cs, h1, h2⟩ := hall i (by omega)
   obtain ⟨b, hb1, hb2⟩ := hE.ok n cs y h2
   exact ⟨b, hb1, cs, h1, hb2⟩)
  refine ⟨l, ⟨by omega, fun b hb => ?_⟩, .one ?_⟩
  ·obtain ⟨i, hi, rfl⟩ := List.getElem_of_mem hb
   exact (hl2 i hi).1
  ·by_cases hcap : cap = 0
   ·subst hcap
    have hlen : len = 0 := by omega
    subst hlen
    obtain rfl : l = [] := List.eq_nil_of_length_eq_zero hl1
    exact .slE _ _
   ·obtain ⟨ab, aoff, asp⟩ := a
    have hc1 : ∀ i, i < cap → ∀ j, j < P.cellsOf e → ∃ v, w.cell? (((⟨ab, aoff, asp⟩ : Addr).add (i * P.cellsOf e)).add j) = some v := by
     intro i hi j hj
     obtain ⟨y, cs, h1, _⟩ := hall i hi
     obtain ⟨_, g1, g2⟩ := World.cells?_some h1
     exact ⟨cs[j], by rw [g2 j hj, List.getElem?_eq_getElem (by omega)]⟩
    obtain ⟨v0, hv0⟩ := hc1 0 (by omega) 0 h0
    have hv0' : w.cell? ⟨ab, aoff, asp⟩ = some v0 := by simpa [Addr.add] using hv0
    obtain ⟨rfl, c, et, fr, hb, _⟩ := vt hv0'
    have hadd : ∀ i j, (((⟨ab, aoff, none⟩ : Addr).add (i * P.cellsOf e)).add j) = ⟨ab, aoff + i * P.cellsOf e + j, none⟩ := by
     intro i j
     unfold Addr.add
     split <;> split <;> simp_all
    have hroom : aoff + cap * P.cellsOf e ≤ c.size := by
     obtain ⟨v1, hv1⟩ := hc1 (cap - 1) (by omega) (P.cellsOf e - 1) (by omega)
     rw [hadd] at hv1
     simp only [World.cell?, hb] at hv1
     have hlt : aoff + (cap - 1) * P.cellsOf e + (P.cellsOf e - 1) < c.size := by
      rcases Nat.lt_or_ge (aoff + (cap - 1) * P.cellsOf e + (P.cellsOf e - 1)) c.size with h' | h'
      ·exact h'
      ·simp [Array.getElem?_eq_none h'] at hv1
     have hm : (cap - 1) * P.cellsOf e + P.cellsOf e = cap * P.cellsOf e := by
      rw [← Nat.succ_mul]; congr 1; omega
     omega
    have hlm : (l.map encE).length = len := by simp [hl1]
    rw [← hlm]
    refine .sl hb hroom (by omega) (fun x hx => by cases hx) (fun i hi => ?_) (fun i j hi hj y hy => ?_)
    ·simp only [List.getElem_map]
     exact hE.len _
    ·have hi' : i < l.length := by simpa using hi
     obtain ⟨_, cs, h1, h2⟩ := hl2 i hi'
     obtain ⟨_, g1, g2⟩ := World.cells?_some h1
     simp only [List.getElem_map] at hj ⊢
     have hj' : j < P.cellsOf e := by rw [hE.len] at hj; exact hj
     have := g2 j hj'
     rw [hadd] at this
     simp only [World.cell?, hb] at this
     have hjc : j < cs.length := by omega
     have e2 : cs[j] = y := by
      have h3 : c[aoff + i * P.cellsOf e + j]? = cs[j]? := by simpa using this
      rw [h3, List.getElem?_eq_getElem hjc] at hy
      exact Option.some.inj hy
     rw [← e2]
     exact h2.2 j hj hjc
structure qJ (enc : TypeId × Value → H) (P : Program) (w : World) (off : Nat) (fs : List Field) (N : Nat) {β : Type} (cells : β → List V) (wf : β → Prop) : Prop where
 len : ∀ b, off + (cells b).length = N
 ok : ∀ fuel (cs : List Value), cs.length = N → (∀ f ∈ fs, ∃ x, DataW.trod enc P w 0 (fun _ => true) true fuel f.type ((cs.drop f.offset).take (P.cellsOf f.type)) = some x) → ∃ b, wf b ∧ RC0 w (cells b) (cs.drop off)
theorem bD {N : Nat} : qJ enc P w N [] N (fun _ : Unit => []) wfT :=
 ⟨fun _ => rfl, fun fuel cs hl _ => ⟨(), trivial, by rw [List.drop_eq_nil_of_le (by omega)]; exact .nil⟩⟩
theorem p5 {f : Field} {fs : List Field} {t : TypeId} {off sz N : Nat} {α β : Type} {cA : α → List V} {wA : α → Prop} {cB : β → List V} {wB : β → Prop} (ho : f.offset = off) (hf : f.type = t) (hz : P.cellsOf t = sz) (h1 : dh enc P w t cA wA)
  (h2 : qJ enc P w (off + sz) fs N cB wB) : qJ enc P w off (f :: fs) N (fun p : α × β => cA p.1 ++ cB p.2) (fun p => wA p.1 ∧ wB p.2) := by
 subst ho; subst hf; subst hz
 refine ⟨fun b => ?_, fun fuel cs hl hall => ?_⟩
 ·have := h2.len b.2
  rw [List.length_append, h1.len]
  omega
 ·obtain ⟨x, hx⟩ := hall f (by simp)
  obtain ⟨a, ha, hra⟩ := h1.ok fuel _ x hx
  obtain ⟨b, hb, hrb⟩ := h2.ok fuel cs hl (fun g hg => hall g (by simp [hg]))
  refine ⟨(a, b), ⟨ha, hb⟩, ?_⟩
  have : cs.drop f.offset = (cs.drop f.offset).take (P.cellsOf f.type) ++ cs.drop (f.offset + P.cellsOf f.type) := by
   rw [← List.drop_drop, List.take_append_drop]
  rw [this]
  exact hra.append hrb
theorem X7 {t : TypeId} {fs : Array Field} {N : Nat} {α β : Type} {encA : α → V} {cB : β → List V} {wB : β → Prop} (ht : P.underlying t = some (.struct fs)) (hc : P.cellsOf t = N) (hF : qJ enc P w 0 fs.toList N cB wB) (g : β → α) (un : α → β) (hun : ∀ a, g (un a) = a)
  (hg : ∀ b, (encA (g b)).cells = cB b) : dh enc P w t (fun a => (encA a).cells) (fun a => ∃ b, a = g b ∧ wB b) := by
 refine ⟨fun a => ?_, fun fuel cs x h => ?_⟩
 ·have h1 := hF.len (un a)
  have h2 := hg (un a)
  rw [hun] at h2
  show (encA a).cells.length = _
  rw [h2, hc]
  omega
 ·obtain ⟨xs, n, rfl, _, hl, hxl, hat⟩ := DataW.trod_struct ht h
  obtain ⟨b, hb, hr⟩ := hF.ok n cs (by omega) (fun f hf => by
   obtain ⟨i, hi, rfl⟩ := List.getElem_of_mem hf
   have hi' : i < fs.size := by simpa using hi
   have := hat i fs[i] (Array.getElem?_eq_getElem hi')
   rw [Array.getElem_toList]
   exact ⟨xs[i]'(by omega), by rw [this, List.getElem?_eq_getElem (by omega)]⟩)
  refine ⟨g b, ⟨b, rfl, hb⟩, ?_⟩
  show RC0 w (encA (g b)).cells cs
  rw [hg]
  simpa using hr
theorem iR {v : V} {x : Value} {S : Sit} {O : Own} {p : Pos} (hr : RC0 w v.cells x.cells.toList) (hv : v.isAgg = true ↔ ∃ c, x = .agg c) (hs : v.isAgg = false → v.isTup = false) (hx : ∀ c, x ≠ .tuple c) : RT w noE S O p v x := by
 cases hva : v.isAgg with
 | true =>
  obtain ⟨c, rfl⟩ := hv.1 hva
  cases v <;> simp [V.isAgg] at hva
  refine .cell (.agg ⟨hr.1, fun j h h' => .free (.base (hr.2 j h h'))⟩)
 | false =>
  have h1 : v.cells = [v] := by cases v <;> first | rfl | simp [V.isAgg] at hva | (have := hs rfl; simp [V.isTup] at this)
  have h2 : x.cells.toList = [x] := by
   cases x <;> first | rfl | (exfalso; have := hv.2 ⟨_, rfl⟩; rw [this] at hva; cases hva) | exact absurd rfl (hx _)
  rw [h1, h2] at hr
  exact .cell (.one hva (.free (.base (hr.2 0 (by simp) (by simp)))))
theorem Fj : lO (fun _ => none) w noE := fun b c h => by cases h
theorem vT {hm : P.follows .mixedOrders = true} {b9 : FuncId → tl} {ext : vi} (hext : ∀ f args r outs, ext f args = some (some (r, outs)) → dO G P f args r outs) {k : Nat} {f : FuncId} {args : List V}
  (h : evF P b9 ext k f args = some (.bool true, [])) {W : World} (hgl : lO G W noE) {xs : Array Value} (hl : args.length = xs.size) (hr : ∀ i (h : i < args.length) (h' : i < xs.size), RT W noE noS noO [0, i] (args[i]) (xs[i])) :
  Calls P f xs W fun e W' => e = .returned (.bool true) ∧ Below W.heap.size W W' := by
 refine ((pX hm hext k f args _ _ h).2 W noE noO xs hgl hl (fun b p hb => by cases hb) hr).mono ?_
 rintro e W' ⟨x, E', O', rfl, hfr, hx, _, _⟩
 have hx1 := hx.of_tmp rfl (by simp) (by simp)
 refine ⟨?_, ⟨hfr.os, hfr.tape, hfr.output, hfr.ext.size, fun b hb => (hfr.free b hb rfl).1⟩⟩
 cases hx1 with
 | free hx1 => cases hx1 with
  | base hx1 => cases hx1; rfl
end
end Go.AE

namespace Go.AE
open Go.RowKit Go.Shelf Go.Sort Go.Proofs
theorem vQ {w : World} {b : Nat} {c : Array Value} {e : TypeId} {fr : Nat × Nat} (hb : w.heap[b]? = some (.cells c e fr)) (n : Nat) (l : List Int) (hl : l.length ≤ c.size) :
  ∃ c', mU w (putRow (Value.int .i64) (Sort.ahead w n) b 0 l.toArray) b 0 (l.map (Value.int .i64)) c e fr c' := by
 refine ⟨putCells (Value.int .i64) 0 l.toArray c, ?_, ?_, ?_, ?_, ?_, ?_, rfl, rfl, rfl⟩
 ·simp [putRow, mapBlock, Sort.ahead, Array.getElem?_modify, hb, onCells]
 ·simp [putCells]
 ·intro j hj
  simp only [List.length_map] at hj
  have hjc : j < c.size := by omega
  simp [putCells, hjc, hj]
 ·intro i hi
  simp only [List.length_map, Nat.zero_add] at hi
  have hi' : ¬ i < l.length := by omega
  simp [putCells, hi']
 ·intro b' hb'
  simp only [putRow, mapBlock, Sort.ahead, Array.getElem?_modify]
  rw [if_neg (fun h => hb' h.symm)]
 ·simp [putRow, mapBlock, Sort.ahead]
set_option linter.unusedSimpArgs false in
theorem uv {G : Glo} {P : Program} {ρ : Ren} (L : Lays.n112 P ρ) (args : List V) (r : V) (outs : List V) (h : bS args = some (r, outs)) : dO G P (ρ.f 112) args r outs := by
 refine ⟨⟨Body.n112 ρ, L.f112, by simp [Body.n112], rfl⟩, ?_⟩
 intro w E O xs hgl hl ho hr
 unfold bS at h
 split at h
 ·rename_i es
  obtain ⟨l, hl1, h⟩ := bind_some h
  obtain ⟨l2, hl2, h⟩ := map_some h
  injection h with h1 h2
  subst h1; subst h2
  obtain rfl := qg hl1
  unfold mP at hl2
  cases hble : Nat.ble l.length 9223372036854775807 with
  | false => rw [hble] at hl2; cases hl2
  | true =>
   rw [hble] at hl2
   obtain rfl := Option.some.inj hl2
   have hlen : l.length ≤ 9223372036854775807 := Nat.le_of_ble_eq_true hble
   obtain ⟨x, rfl⟩ : ∃ x, xs = #[x] := by
    rcases xs with ⟨xs⟩
    match xs, hl with
    | [x], _ => exact ⟨x, rfl⟩
   have hr1 := (hr 0 (by simp) (by simp)).of_tmp rfl (by simp) (by simp)
   simp only [List.getElem_cons_zero, List.getElem_toArray] at hr1
   have hout : (V3 0 [V.sl 2 1 (l.map (V.int .i64))]) = [0] := rfl
   rw [hout]
   generalize hes : l.map (V.int .i64) = es at hr1
   cases hr1 with
   | free hr1 =>
    cases hr1 with
    | base hr1 =>
     cases hr1 with
     | slNil =>
      have hl0 : l = [] := by simpa using hes
      subst hl0
      refine (Go.Proofs.Any.slices_Reverse_int_empty L none 0 w).mono ?_
      rintro e w' ⟨rfl, rfl⟩
      refine ⟨_, E, O, rfl, p7.refl ho, .tup rfl (fun j hj => by simp at hj), rfl, fun k hk _ => ?_⟩
      have hk0 : k = 0 := by simp at hk; omega
      subst hk0
      exact .cell (.one rfl (.free (.base (.slNil 2 1))))
   | @own _ _ _ b off cap c e fr ho' hb hc hl' hf hE h0 hO hw he =>
    have hoff := h0 rfl
    subst hoff
    have hlen' : es.length = l.length := by rw [← hes, List.length_map]
    rw [hlen'] at hl'
    have hcell : ∀ j (hj : j < l.length), c[j]? = some (Value.int .i64 l[j]) := by
     intro j hj
     have hjc : j < c.size := by omega
     have hj2 : j < es.length := by omega
     have hej : es[j] = V.int .i64 l[j] := by subst hes; simp
     obtain ⟨y, hy⟩ : ∃ y, c[j]? = some y := ⟨c[j], by simp [hjc]⟩
     have := he j 0 hj2 (by rw [hej]; simp [V.cells]) y (by simpa using hy)
     simp only [hej, V.cells, List.getElem_cons_zero] at this
     rw [hy]
     cases this
     rfl
    have hH : Holds (Value.int .i64) w b 0 l.toArray := by
     intro j hj
     have hj' : j < l.length := by simpa using hj
     refine ⟨?_, ?_⟩
     ·simp only [World.cell?, hb, Nat.zero_add]
      rw [hcell j hj']
      simp [hj', getElem!_pos]
     ·simp only [World.frozen?, hb, Nat.zero_add]
      have := hf j (by omega)
      cases hh : (decide (fr.1 ≤ j) && decide (j < fr.2)) with
      | false => rfl
      | true => simp at hh; simp at this; omega
    rw [hlen']
    refine (Go.Proofs.Any.slices_Reverse_int L b 0 cap l w hH hlen).mono ?_
    rintro e' w' ⟨rfl, n, rfl⟩
    obtain ⟨c', hwr⟩ := vQ hb n l.reverse (by simp; omega)
    have hE0 : E b = some 0 := by simpa using hE
    have hfr := hwr.framed hb ho hO hE0 (Nat.le_refl 0) (Nat.le_refl 0)
    refine ⟨_, w3 E b (some 0), relo (I6 [0, 0, 0] [2, 0, 0]) O, rfl, hfr.trans (y7 hfr.own _), .tup rfl (fun j hj => by simp at hj), rfl, fun k hk _ => ?_⟩
    have hk0 : k = 0 := by simp at hk; omega
    subst hk0
    simp only [List.getElem_cons_zero]
    refine .cell (.one rfl ?_)
    have hx : (#[Value.slice (some ⟨b, 0, none⟩) l.length cap].getD 0 undef) = .slice (some ⟨b, 0, none⟩) (l.reverse.map (V.int .i64)).length cap := by simp
    rw [hx]
    refine .own (.inr rfl) hwr.at_ (by rw [hwr.size]; omega) (by simpa using hl') (fun o ho2 => hf o (by rw [← hwr.size]; exact ho2)) (by simp [w3]) (fun _ => rfl) ?_ ?_ ?_
    ·have := N2 [0, 0, 0] [2, 0, 0] []
     simp only [List.append_nil] at this
     simp only [relo, hO, Option.map_some]
     rw [show ([0, 0] ++ [0] : Pos) = [0, 0, 0] from rfl, this]
     rfl
    ·intro i hi
     simp [V.cells]
    ·intro i j hi hj y hy
     have hj0 : j = 0 := by simp [V.cells] at hj; omega
     subst hj0
     have hi' : i < l.length := by simpa using hi
     have := hwr.new i (by simpa using hi')
     simp only [Nat.zero_add, Nat.mul_one, Nat.add_zero] at this hy
     rw [this] at hy
     simp only [List.getElem?_map, List.getElem?_eq_getElem (show i < l.reverse.length by simpa using hi'), Option.map_some] at hy
     obtain rfl := Option.some.inj hy
     simp only [List.getElem_map, V.cells, List.getElem_cons_zero]
     exact .int _ _
 ·cases h
end Go.AE

namespace Go.AE
open Go.RowKit
theorem X3 {w w' : World} {E : Bnd} {O : Own} (h : Below w.heap.size w w') (ho : ∀ b p, O b = some p → b < w.heap.size) : p7 w E O w' E O := by
 refine ⟨⟨h.size, fun b c e fr hb => ⟨c, fr, by rw [h.block b (V8 hb)]; exact hb, rfl, fun _ _ => rfl⟩, fun b _ x hx => ⟨x, hx, Nat.le_refl _⟩⟩, fun b hb _ => ⟨h.block b hb, rfl, by assumption⟩, h.os, h.tape, h.output, fun b p hb => Nat.lt_of_lt_of_le (ho b p hb) h.size⟩
end Go.AE

namespace Go.AE
open Go.RowKit Go.Shelf Go.Proofs
theorem lI (l : List UInt8) : ∀ c, Lib.repeatL l c = (List.replicate c l).flatten
 | 0 => rfl
 | c + 1 => by rw [Lib.repeatL, lI l c, List.replicate_succ, List.flatten_cons]
theorem pe {w : World} {E : Bnd} {O : Own} {p : Pos} {s : List UInt8} {x : Value} (h : RT w E noS O p (.str s) x) : x = .string ⟨s.toArray⟩ := by
 cases h with
 | cell h => cases h with
  | one hv h => cases h with
   | free h => cases h with
    | base h => cases h; rfl
theorem zx {w : World} {E : Bnd} {O : Own} {p : Pos} {k : IntKind} {n : Int} {x : Value} (h : RT w E noS O p (.int k n) x) : x = .int k n := by
 cases h with
 | cell h => cases h with
  | one hv h => cases h with
   | free h => cases h with
    | base h => cases h; rfl
theorem wb {G : Glo} {P : Program} {ρ : Ren} (L : Lays.n105 P ρ) (X : Builder.Extra P ρ) (args : List V) (r : V) (outs : List V) (h : mb args = some (r, outs)) : dO G P (ρ.f 105) args r outs := by
 refine ⟨⟨Body.n105 ρ, L.f105, by simp [Body.n105], rfl⟩, ?_⟩
 intro w E O xs hgl hl ho hr
 unfold mb at h
 split at h
 ·rename_i s n
  obtain ⟨l, hl1, h⟩ := map_some h
  injection h with h1 h2
  subst h1; subst h2
  unfold vP at hl1
  split at hl1
  ·rename_i hc
   obtain rfl := Option.some.inj hl1
   obtain ⟨x, y, rfl⟩ : ∃ x y, xs = #[x, y] := by
    rcases xs with ⟨xs⟩
    match xs, hl with
    | [x, y], _ => exact ⟨x, y, rfl⟩
   have hx := pe (hr 0 (by simp) (by simp))
   have hy := zx (hr 1 (by simp) (by simp))
   simp only [List.getElem_toArray, List.getElem_cons_zero, List.getElem_cons_succ] at hx hy
   subst hx; subst hy
   obtain ⟨m, rfl⟩ := Int.eq_ofNat_of_zero_le hc.1
   have hsz : (⟨s.toArray⟩ : ByteArray).size = s.length := by simp [ByteArray.size]
   have hm : m ≤ 1000000 := by omega
   have hmul : (⟨s.toArray⟩ : ByteArray).size * m ≤ 1000000 * 1000000 := by
    rw [hsz]
    exact Nat.mul_le_mul hc.2.2 hm
   refine (Any.strings_Repeat L X ⟨s.toArray⟩ m w (by omega) (by omega)).mono ?_
   rintro e w' ⟨rfl, hb⟩
   refine ⟨_, E, O, rfl, X3 hb ho, ?_, rfl, fun k hk => by simp at hk⟩
   simp only [lI, Int.toNat_natCast]
   exact .cell (.one rfl (.free (.base (.str _))))
  ·cases hl1
 ·cases h
end Go.AE

namespace Go.AE
open Go.RowKit Go.Shelf Go.Proofs
theorem qM (s : List UInt8) : (⟨s.toArray⟩ : ByteArray).data.toList = s := rfl
theorem qB : ∀ (l : List V) (xs : List (List UInt8)), wc l = some xs → l = xs.map V.str
 | [], xs, h => by
  obtain rfl := Option.some.inj h
  rfl
 | v :: l, xs, h => by
  unfold wc at h
  split at h
  ·rename_i h0; cases h0
  ·rename_i s r h0
   injection h0 with h1 h2
   subst h1; subst h2
   obtain ⟨ys, hy, rfl⟩ := map_some h
   rw [qB _ ys hy]
   rfl
  ·cases h
theorem uF {G : Glo} {P : Program} {ρ : Ren} (L : Lays.n156 P ρ) (X : Builder.Extra P ρ) (args : List V) (r : V) (outs : List V) (h : dW args = some (r, outs)) : dO G P (ρ.f 156) args r outs := by
 refine ⟨⟨Body.n156 ρ, L.f156, by simp [Body.n156], rfl⟩, ?_⟩
 intro w E O xs hgl hl ho hr
 unfold dW at h
 split at h
 ·rename_i l sep
  obtain ⟨ss, h1, h⟩ := bind_some h
  obtain ⟨r', h2, h⟩ := map_some h
  injection h with h3 h4
  subst h3; subst h4
  obtain rfl := qB l ss h1
  unfold jz at h2
  split at h2
  ·rename_i hc
   obtain rfl := Option.some.inj h2
   obtain ⟨x, y, rfl⟩ : ∃ x y, xs = #[x, y] := by
    rcases xs with ⟨xs⟩
    match xs, hl with
    | [x, y], _ => exact ⟨x, y, rfl⟩
   have hx := (hr 0 (by simp) (by simp)).of_tmp rfl (by simp) (by simp)
   have hy := pe (hr 1 (by simp) (by simp))
   simp only [List.getElem_toArray, List.getElem_cons_zero, List.getElem_cons_succ] at hx hy
   subst hy
   cases hx with
   | free hx => cases hx with
    | base hx =>
     generalize hss : ss.map V.str = l0 at hx
     cases hx with
     | slNil =>
      have : ss = [] := by simpa using hss
      subst this
      refine (Any.strings_Join_none L X none 0 ⟨sep.toArray⟩ w).mono ?_
      rintro e w' ⟨rfl, rfl⟩
      refine ⟨_, E, O, rfl, X3 (Below.refl _ _) ho, ?_, rfl, fun k hk => by simp at hk⟩
      exact .cell (.one rfl (.free (.base (.str _))))
     | slE a =>
      have : ss = [] := by simpa using hss
      subst this
      refine (Any.strings_Join_none L X _ 0 ⟨sep.toArray⟩ w).mono ?_
      rintro e w' ⟨rfl, rfl⟩
      refine ⟨_, E, O, rfl, X3 (Below.refl _ _) ho, ?_, rfl, fun k hk => by simp at hk⟩
      exact .cell (.one rfl (.free (.base (.str _))))
     | @sl _ _ b off cap c e fr hb hc1 hl2 hE hw1 he =>
      subst hss
      have hlen : (ss.map V.str).length = (ss.map fun s => (⟨s.toArray⟩ : ByteArray)).length := by simp
      have hmap : (ss.map fun s => (⟨s.toArray⟩ : ByteArray)).map (·.data.toList) = ss := by
       rw [List.map_map]
       conv => rhs; rw [← List.map_id ss]
       rfl
      have hj := Any.strings_Join L X b off cap (ss.map fun s => (⟨s.toArray⟩ : ByteArray)) ⟨sep.toArray⟩ w (fun j x hjx => by
        rw [List.getElem?_map] at hjx
        obtain ⟨s, hs, rfl⟩ := Option.map_eq_some_iff.1 hjx
        have hjl : j < ss.length := (List.getElem?_eq_some_iff.1 hs).1
        have hss : ss[j] = s := (List.getElem?_eq_some_iff.1 hs).2
        simp only [List.length_map] at hl2
        have hcs : off + j < c.size := by omega
        have h0 := he j 0 (by simpa using hjl) (by simp [V.cells]) c[off + j] (by simp [hcs])
        simp only [List.getElem_map, V.cells, List.getElem_cons_zero, hss] at h0
        have h2 : c[off + j] = .string ⟨s.toArray⟩ := by
         generalize c[off + j] = y at h0
         cases h0
         rfl
        simp [World.cell?, hb, hcs, h2]) (V8 hb) (by simp; omega) (by simpa using hl2) (by rw [hmap, qM]; exact hc.2)
      rw [hmap, ← hlen] at hj
      refine hj.mono ?_
      rintro e w' ⟨rfl, hb'⟩
      refine ⟨_, E, O, rfl, X3 hb' ho, ?_, rfl, fun k hk => by simp at hk⟩
      exact .cell (.one rfl (.free (.base (.str _))))
   | own ho2 => omega
  ·cases h2
 ·cases h
end Go.AE

namespace Go.AE
open Go.RowKit Go.Shelf Go.Proofs
theorem uR : ∀ (l : List UInt8) (c : UInt8), cg l c = Go.Lib.indexByte l c
 | [], _ => rfl
 | b :: l, c => by
  unfold cg Go.Lib.indexByte
  rw [uR l c]
theorem wa {G : Glo} {P : Program} {ρ : Ren} (L : Lays.n137 P ρ) (args : List V) (r : V) (outs : List V) (h : ma args = some (r, outs)) : dO G P (ρ.f 137) args r outs := by
 refine ⟨⟨Body.n137 ρ, L.f137, by simp [Body.n137], rfl⟩, ?_⟩
 intro w E O xs hgl hl ho hr
 unfold ma at h
 split at h
 ·rename_i a c
  injection h with h
  injection h with h1 h2
  subst h1; subst h2
  obtain ⟨x, y, rfl⟩ : ∃ x y, xs = #[x, y] := by
   rcases xs with ⟨xs⟩
   match xs, hl with
   | [x, y], _ => exact ⟨x, y, rfl⟩
  have hx := pe (hr 0 (by simp) (by simp))
  have hy := zx (hr 1 (by simp) (by simp))
  simp only [List.getElem_toArray, List.getElem_cons_zero, List.getElem_cons_succ] at hx hy
  subst hx; subst hy
  refine (Any.strings_IndexByte L ⟨a.toArray⟩ c w).mono ?_
  rintro e w' ⟨rfl, rfl⟩
  refine ⟨_, E, O, rfl, X3 (Below.refl _ _) ho, ?_, rfl, fun k hk => by simp at hk⟩
  rw [uR]
  exact .cell (.one rfl (.free (.base (.int _ _))))
 ·cases h
end Go.AE

namespace Go.AE
open Go.RowKit Go.Shelf Go.Proofs
set_option linter.unusedVariables false
theorem zF {G : Glo} {P : Program} {ρ : Ren} (L : Lays.n162 P ρ) (args : List V) (r : V) (outs : List V) (h : oj args = some (r, outs)) : dO G P (ρ.f 162) args r outs := by
 refine ⟨⟨Body.n162 ρ, L.f162, by simp [Body.n162], rfl⟩, ?_⟩
 intro w E O xs hgl hl ho hr
 unfold oj at h
 split at h
 ·rename_i s cs
  obtain ⟨t, ht, hq⟩ := map_some h
  obtain ⟨rfl, rfl⟩ := Prod.mk.inj hq
  unfold qF at ht
  split at ht
  ·rename_i c
   split at ht
   ·rename_i hc
    obtain rfl := Option.some.inj ht
    obtain ⟨x, y, rfl⟩ : ∃ x y, xs = #[x, y] := by
     rcases xs with ⟨xs⟩
     match xs, hl with
     | [x, y], _ => exact ⟨x, y, rfl⟩
    have hx := pe (hr 0 (by simp) (by simp))
    have hy := pe (hr 1 (by simp) (by simp))
    simp only [List.getElem_toArray, List.getElem_cons_zero, List.getElem_cons_succ] at hx hy
    subst hx; subst hy
    have hsz : (⟨s.toArray⟩ : ByteArray).size = s.length := by simp [ByteArray.size]
    refine (Any.strings_TrimRight_one L ⟨s.toArray⟩ c hc.1 w (by omega)).mono ?_
    rintro e w' ⟨rfl, rfl⟩
    exact ⟨_, E, O, rfl, X3 (Below.refl _ _) ho, .cell (.one rfl (.free (.base (.str _)))), rfl, fun k hk => by simp at hk⟩
   ·cases ht
  ·cases ht
 ·cases h
end Go.AE

