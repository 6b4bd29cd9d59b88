/- An evaluator of the bodies of functions, and that what it says holds: a call of which it says a result returns just this result and leaves all that it does not own as it was. Conditions: none. -/
import Derived.Test.YtgpblbjceghpjaaA2
import Derived.LoopN
import Derived.Scope
import Derived.Lib.Replace
import Derived.Lib.ItoaNum
import Derived.Lib.TrimByte
import Derived.WideShapes
import Derived.OpenShut
import Derived.DataReads
import Derived.ChangeOld
import Derived.Shelf.Slices.Reverse
import Derived.Shelf.Strings.Repeat
import Derived.Shelf.Strings.OnBuilder
import Derived.Shelf.Small.Strs
namespace Go.AE
open Go.RowKit
set_option linter.unusedSimpArgs false
set_option linter.unusedVariables false
section
variable {P : Program} {G : Glo} {w : World} {E : Bnd} {S F : Sit} {O : Own} {callH : CallH}
def X.out : X → Exit
 | .normal => .normal
 | .exit i => .exit i
 | .ret => .ret
theorem Rel.forgetL {a : Act} : ∀ (ds : List (Nat × OAnn)) {st : St}, Rel G F st a w E S O → Rel G F { st with t := AE.forget ds st.t } a w E S O
 | [], st, h => h
 | d :: r, st, h => by
  have h1 : Rel G F { st with t := del d.1 st.t } a w E S O := by
   refine ⟨fun q v hl => ?_, h.sites, h.live, h.size, h.own, h.defers, h.par, h.glob⟩
   simp only [look_del] at hl
   split at hl
   ·cases hl
   ·exact h.tmps q v hl
  exact Rel.forgetL r h1
/-- A function's code. -/
theorem exec_ok (hm : P.follows .mixedOrders = true) (hcall : ∀ f args r outs, callH f args = some (r, outs) → FnOk G P f args r outs) {anns : List (Nat × RAnn)} {n : Nat} : ∀ (c : Code) {st st2 : St} {x : X} {a : Act} {w : World} {E : Bnd} {S : Sit} {O : Own} {Q : Exit → Act → World → Prop},
  exec P callH anns n c st = some (x, st2) → Rel G F st a w E S O → (∀ a' w' E' S' O', Framed w E O w' E' O' → Rel G F st2 a' w' E' S' O' → Q x.out a' w') → c.wp P Q a w := by
 intro c
 induction c with
 | skip =>
  intro st st2 x a w E S O Q he h hn
  simp only [exec, Option.some.injEq, Prod.mk.injEq] at he
  obtain ⟨rfl, rfl⟩ := he
  exact wp_skip (hn a w E S O (Framed.refl h.own) h)
 | label l =>
  intro st st2 x a w E S O Q he h hn
  simp only [exec, Option.some.injEq, Prod.mk.injEq] at he
  obtain ⟨rfl, rfl⟩ := he
  exact wp_label (hn a w E S O (Framed.refl h.own) h)
 | region id ops draw =>
  intro st st2 x a w E S O Q he h hn
  simp only [exec] at he
  obtain ⟨s, hs, he⟩ := map_some he
  obtain ⟨rfl, rfl⟩ := Prod.mk.inj he
  exact regionE_ok hm hcall hs h hn
 | seq c1 c2 ih1 ih2 =>
  intro st st2 x a w E S O Q he h hn
  simp only [exec] at he
  obtain ⟨⟨x1, st1⟩, h1, he⟩ := bind_some he
  refine wp_seq (ih1 h1 h (fun a' w' E' S' O' hfr hrel => ?_))
  cases x1 with
  | normal => exact ih2 he hrel (fun a2 w2 E2 S2 O2 hfr2 hrel2 => hn a2 w2 E2 S2 O2 (hfr.trans hfr2) hrel2)
  | exit i =>
   obtain ⟨rfl, rfl⟩ := Prod.mk.inj (Option.some.inj he)
   exact hn a' w' E' S' O' hfr hrel
  | ret =>
   obtain ⟨rfl, rfl⟩ := Prod.mk.inj (Option.some.inj he)
   exact hn a' w' E' S' O' hfr hrel
 | cond c c1 c2 ih1 ih2 =>
  intro st st2 x a w E S O Q he h hn
  simp only [exec] at he
  obtain ⟨v, hv, he⟩ := bind_some he
  cases v with
  | bool t =>
   have hc := rf_bool (opd_rf h hv)
   have hk : ∃ S', Rel G F (killCond anns c st) a w E S' O := by
    cases c with
    | tmp d =>
     have hk2 : killCond anns (.tmp d) st = bif (look (100000 + d) anns).isSome then killOne d st else st := rfl
     rw [hk2]
     cases (look (100000 + d) anns).isSome with
     | true => exact h.killOne d
     | false => exact ⟨S, h⟩
    | _ => exact ⟨S, h⟩
   obtain ⟨S', h'⟩ := hk
   cases t with
   | true => exact wp_cond_true hc (ih1 he h' hn)
   | false => exact wp_cond_false hc (ih2 he h' hn)
  | _ => cases he
 | block id c ih =>
  intro st st2 x a w E S O Q he h hn
  simp only [exec] at he
  obtain ⟨⟨x1, st1⟩, h1, he⟩ := map_some he
  have h' : Rel G F (dullBlk anns id st) a w E S O := by
   unfold dullBlk
   cases look (200000 + id) anns with
   | none => exact h
   | some r => exact (h.untake r.kill).forgetL r.ops
  refine wp_block (ih h1 h' (fun a' w' E' S' O' hfr hrel => ?_))
  cases x1 with
  | normal =>
   obtain ⟨rfl, rfl⟩ := Prod.mk.inj he
   exact hn a' w' E' S' O' hfr hrel
  | exit i =>
   simp only at he
   show (if i = id then _ else _)
   by_cases e : i = id
   ·subst e
    have hb : Nat.beq i i = true := by simp
    rw [hb] at he
    obtain ⟨rfl, rfl⟩ := Prod.mk.inj he
    rw [if_pos rfl]
    exact hn a' w' E' S' O' hfr hrel
   ·rw [beq_ne e] at he
    obtain ⟨rfl, rfl⟩ := Prod.mk.inj he
    rw [if_neg e]
    exact hn a' w' E' S' O' hfr hrel
  | ret =>
   obtain ⟨rfl, rfl⟩ := Prod.mk.inj he
   exact hn a' w' E' S' O' hfr hrel
 | loop c ih =>
  intro st st2 x a w E S O Q he h hn
  simp only [exec] at he
  refine wp_loop_rounds n ?_
  have key : ∀ (k : Nat) {st : St} {a : Act} {w : World} {E : Bnd} {S : Sit} {O : Own}, iter (exec P callH anns n c) k st = some (x, st2) → Rel G F st a w E S O → (∀ a' w' E' S' O', Framed w E O w' E' O' → Rel G F st2 a' w' E' S' O' → Q x.out a' w') → Code.rounds P c Q k a w := by
   intro k
   induction k with
   | zero => intro st a w E S O he; cases he
   | succ k ihk =>
    intro st a w E S O he h hn
    simp only [iter] at he
    obtain ⟨⟨x1, st1⟩, h1, he⟩ := bind_some he
    rw [rounds_succ]
    refine ih h1 h (fun a' w' E' S' O' hfr hrel => ?_)
    cases x1 with
    | normal => exact ihk he hrel (fun a2 w2 E2 S2 O2 hfr2 hrel2 => hn a2 w2 E2 S2 O2 (hfr.trans hfr2) hrel2)
    | exit i =>
     obtain ⟨rfl, rfl⟩ := Prod.mk.inj (Option.some.inj he)
     exact hn a' w' E' S' O' hfr hrel
    | ret =>
     obtain ⟨rfl, rfl⟩ := Prod.mk.inj (Option.some.inj he)
     exact hn a' w' E' S' O' hfr hrel
  exact key n he h hn
 | scope c ih =>
  intro st st2 x a w E S O Q he h hn
  simp only [exec] at he
  refine wp_scope_straight (ih he h (fun a' w' E' S' O' hfr hrel => ?_))
  have := hn a' w' E' S' O' hfr hrel
  cases x <;> exact this
 | exit i =>
  intro st st2 x a w E S O Q he h hn
  simp only [exec, Option.some.injEq, Prod.mk.injEq] at he
  obtain ⟨rfl, rfl⟩ := he
  exact wp_exit (hn a w E S O (Framed.refl h.own) h)
 | ret =>
  intro st st2 x a w E S O Q he h hn
  simp only [exec, Option.some.injEq, Prod.mk.injEq] at he
  obtain ⟨rfl, rfl⟩ := he
  exact wp_ret (hn a w E S O (Framed.refl h.own) h)
 | _ =>
  intro st st2 x a w E S O Q he h hn
  simp [exec] at he
theorem Rel.forget {st : St} {a : Act} (h : Rel G F st a w E S O) : Rel G noS st a w E S O :=
 ⟨h.tmps, h.sites, h.live, h.size, h.own, h.defers, (fun s q hq => by cases hq), h.glob⟩
theorem RT.noS_free {p p' : Pos} {v : V} {x : Value} (h : RT w E S O p v x) (hf : v.free = true) (O' : Own) : RT w E noS O' p' v x := by
 obtain ⟨h1, h2, h3⟩ := cells_of_RT h (flat_of_free hf)
 have hz : RZ w E v x := ⟨h1, h2, free_of_RT h hf⟩
 exact (RF.cell (hz.rf1 noS)).rt _ _
/-- A variable's contents, on their own. -/
theorem site_io {s b sz : Nat} {y : Site} {e : V} (hok : SiteOk w E S O s y) (hS : S s = some (b, sz)) (ha : y.arr = false) (hes : y.es = [e]) (hf : e.strip.free = true) {f : Pos → Pos} {p : Pos} (hp : ∀ r, f ([1, s] ++ r) = p ++ r) :
  RT1 w E noS (AE.relo f O) p (.io e) (.pointer (some ⟨b, 0, none⟩)) := by
 unfold SiteOk at hok
 rw [hS] at hok
 obtain ⟨k1, k2, c, et, fr, k3, k4, k5, k6, k7, k8, k9, k10⟩ := hok
 obtain ⟨q1, q2, q3⟩ := k10 ha
 have hel : e.cells.length = sz := by have := k8 0 (by omega); simpa [hes] using this
 have hR : ∀ j (hj : j < e.cells.length) z, c[j]? = some z → R w E S O ([1, s, 1] ++ [j]) (e.cells[j]) z := by
  intro j hj z hz
  have := q3 0 j (by omega) (by simpa [hes] using hj) z (by simpa using hz)
  simpa [hes] using this
 refine .io k3 k4 k5 ?_ ⟨by simp; omega, fun j hj hj' => ?_⟩ (by omega)
 ·simp only [AE.relo, k6, ha, Option.map_some]
  have := hp []
  simpa using this
 ·rw [Array.getElem_toList (xs := c)]
  have h1 := hR j hj (c[j]'(by simpa using hj')) (Array.getElem?_eq_getElem _)
  have hfree : (e.cells[j]).strip1.free1 4 = true := by
   have hf' : ∀ c ∈ e.strip.cells, c.free1 4 = true := List.all_eq_true.1 hf
   have hstr : e.strip.cells = e.cells.map V.strip1 := by
    cases e with
    | agg cs => rfl
    | tup us => simp [V.free, V.strip, V.cells, V.free1] at hf
    | io c => simp [V.free, V.strip, V.strip2, V.strip1, V.cells, V.free1] at hf
    | sl o z l => by_cases hq : o ≤ 1 <;> cases l <;> simp [V.strip, V.strip2, V.strip1, V.cells, hq]
    | _ => simp [V.strip, V.strip2, V.strip1, V.cells]
   exact hf' _ (by rw [hstr]; exact List.mem_map.2 ⟨_, List.getElem_mem hj, rfl⟩)
  exact (h1.toNoS hfree).reloc (fun b' q hb' => by
   simp only [AE.relo, hb', Option.map_some]
   have := hp ([1] ++ [j] ++ q)
   simpa using this)
theorem relo_kept' {f : Pos → Pos} {p : Pos} (hf : ∀ r, f (p ++ r) = p ++ r) : Kept w E O w E (AE.relo f O) p := relo_kept hf
theorem Kept.trans {w' w'' : World} {E' E'' : Bnd} {O' O'' : Own} {p : Pos} (h : Kept w E O w' E' O' p) (k : Kept w' E' O' w'' E'' O'' p) : Kept w E O w'' E'' O'' p :=
 ⟨fun b q hb => by
  obtain ⟨h1, h2, h3⟩ := h.same b q hb
  obtain ⟨k1, k2, k3⟩ := k.same b q h3
  exact ⟨k1.trans h1, k2.trans h2, k3⟩⟩
theorem Kept.refl (p : Pos) : Kept w E O w E O p := ⟨fun b q hb => ⟨rfl, rfl, hb⟩⟩
theorem moveP_site_other {s : Nat} {p' : Pos} {k : Nat} (h2 : k ≠ 1) (i : Nat) (r : Pos) : moveP [1, s] p' ([k, i] ++ r) = [k, i] ++ r := by
 refine moveP_not ?_
 simp only [List.cons_append, List.nil_append, List.cons_prefix_cons]
 intro hh
 exact h2 hh.1.symm
theorem moveP_tmp_other {t : Nat} {p' : Pos} {k : Nat} (h2 : k ≠ 0) (i : Nat) (r : Pos) : moveP [0, t] p' ([k, i] ++ r) = [k, i] ++ r := by
 refine moveP_not ?_
 simp only [List.cons_append, List.nil_append, List.cons_prefix_cons]
 intro hh
 exact h2 hh.1.symm
/-- The caller's word for what it has handed over. -/
def Hold (w : World) (S : Sit) (s : Nat) : V → Value → Prop
 | .io e, x => ∃ b, S s = some (b, e.cells.length) ∧ x = .pointer (some ⟨b, 0, none⟩)
 | .sl _ sz l, x => (x = .slice none 0 0 ∧ l = []) ∨ ∃ b cap c et fr, S s = some (b, sz) ∧ x = .slice (some ⟨b, 0, none⟩) l.length cap ∧ l.length ≤ cap ∧ w.heap[b]? = some (.cells c et fr) ∧ cap * sz ≤ c.size
 | _, _ => True
theorem Hold.other {S' : Sit} {s : Nat} {v : V} {x : Value} (h : Hold w S s v x) (hS : S' s = S s) : Hold w S' s v x := by
 cases v with
 | sl o sz l => simp only [Hold] at h ⊢; rw [hS]; exact h
 | io e => simp only [Hold] at h ⊢; rw [hS]; exact h
 | _ => trivial
theorem Hold.ext {w' : World} {E' : Bnd} (hx : Ext w E w' E') {s : Nat} {v : V} {x : Value} (h : Hold w S s v x) : Hold w' S s v x := by
 cases v with
 | sl o sz l =>
  simp only [Hold] at h ⊢
  rcases h with h | ⟨b, cap, c, et, fr, h1, h2, h3, h4, h5⟩
  ·exact .inl h
  ·obtain ⟨c', fr', k1, k2, _⟩ := hx.cells b c et fr h4
   exact .inr ⟨b, cap, c', et, fr', h1, h2, h3, k1, by rw [k2]; exact h5⟩
 | io e => exact h
 | _ => trivial
theorem out1_ok {n i k : Nat} {y : Site} {v o : V} {x : Value} (ho : out1 y v = some o) (hok : SiteOk w E S O (n + i) y) (hh : Hold w S (n + i) v x) : RT1 w E noS (AE.relo (moveP [1, n + i] [2, k]) O) [2, k] o x := by
 unfold out1 at ho
 split at ho
 ·split at ho
  ·rename_i e ha hes
   split at ho
   ·rename_i hf
    obtain rfl := Option.some.inj ho
    obtain ⟨b, h1, rfl⟩ := hh
    exact site_io (f := moveP [1, n + i] [2, k]) (p := [2, k]) hok h1 ha hes hf (fun r => moveP_pre _ _ r)
   ·cases ho
  ·cases ho
 ·rename_i sz l
  split at ho
  ·rename_i hc
   obtain ⟨ha, rfl, hl⟩ := hc
   obtain rfl := Option.some.inj ho
   simp only [Hold] at hh
   rcases hh with ⟨rfl, rfl⟩ | ⟨b, cap, c, et, fr, h1, rfl, h3, h4, h5⟩
   ·have : y.es = [] := List.eq_nil_of_length_eq_zero hl
    rw [this, List.map_nil]
    exact .one rfl (.free (.base (.slNil 2 y.sz)))
   ·unfold SiteOk at hok
    rw [h1] at hok
    obtain ⟨k1, k2, c', et', fr', k3, k4, k5, k6, k7, k8, k9, k10⟩ := hok
    rw [h4] at k3
    injection k3 with k3
    injection k3 with q1 q2 q3
    subst q1; subst q2; subst q3
    rw [← hl]
    refine .one rfl (own_stripped (O := O) h4 (by omega) (by omega) k4 k5 ?_ k8 (fun i j hi hj z hz => ⟨_, k9 ha i j hi hj z hz⟩))
    simp only [AE.relo, k6, ha, if_true, Option.map_some]
    exact congrArg some (moveP_pre [1, n + i] [2, k] [0])
  ·cases ho
 ·cases ho
/-- What was handed over, given back. -/
theorem outs_ok (n : Nat) (X : Nat → Value) {a : Act} : ∀ (args : List V) (i k : Nat) {st st' : St} {outs : List V} {S : Sit} {O : Own}, outsE n i args st = some (outs, st') → Rel G noS st a w E S O →
  (∀ j (h : j < args.length), (args[j]).isOut = true → Hold w S (n + (i + j)) (args[j]) (X (i + j))) →
  ∃ S' O', Framed w E O w E O' ∧ Rel G noS st' a w E S' O' ∧ (∀ k', k' < k → Kept w E O w E O' [2, k']) ∧ outs.length = (iosOf i args).length ∧
   ∀ j (h : j < outs.length) (h' : j < (iosOf i args).length), RT1 w E noS O' [2, k + j] (outs[j]) (X ((iosOf i args)[j]))
 | [], i, k, st, st', outs, S, O, he, h, hB => by
  simp only [outsE, Option.some.injEq, Prod.mk.injEq] at he
  obtain ⟨rfl, rfl⟩ := he
  exact ⟨S, O, Framed.refl h.own, h, fun _ _ => Kept.refl _, rfl, fun j hj => by simp at hj⟩
 | v :: r, i, k, st, st', outs, S, O, he, h, hB => by
  simp only [outsE] at he
  cases hv : v.isOut with
  | true =>
   rw [hv] at he
   simp only [cond_true] at he
   obtain ⟨y, hy, he⟩ := bind_some he
   obtain ⟨o, ho, he⟩ := bind_some he
   obtain ⟨⟨es, st2⟩, hr, he⟩ := map_some he
   obtain ⟨rfl, rfl⟩ := Prod.mk.inj he
   rw [iosOf_out hv]
   have hh := hB 0 (by simp) hv
   simp only [List.getElem_cons_zero, Nat.add_zero] at hh
   have hio1 := out1_ok (k := k) ho (h.sites _ y hy) hh
   have h1 := h.dropAny (n + i) rfl
   have h2 := h1.relo (moveP [1, n + i] [2, k]) (fun d v _ r => moveP_not (notPre_tmp' r)) (fun s' y' hl' r => moveP_not (notPre_site' (fun e => by subst e; rw [(look_dropAny _ st).1] at hl'; cases hl') r))
   obtain ⟨S', O', g1, g2, g3, g4, g5⟩ := outs_ok n X r (i + 1) (k + 1) hr h2 (fun j hj hjo => by
    have := hB (j + 1) (by simpa using hj) (by simpa using hjo)
    simp only [List.getElem_cons_succ] at this
    rw [show i + 1 + j = i + (j + 1) by omega]
    exact this.other (by simp [setB]))
   refine ⟨S', O', (relo_framed h.own _).trans g1, g2, fun k' hk' => (relo_kept' (fun r => moveP_site_other (by decide) k' r)).trans (g3 k' (by omega)), by simp [g4], fun j hj hj' => ?_⟩
   cases j with
   | zero => exact hio1.mono (Ext.refl _ _) (fun _ _ h => h) (g3 k (by omega))
   | succ j =>
    simp only [List.getElem_cons_succ]
    rw [show k + (j + 1) = k + 1 + j by omega]
    exact g5 j (by simpa using hj) (by simpa using hj')
  | false =>
   rw [hv] at he
   simp only [cond_false] at he
   rw [iosOf_in hv]
   exact outs_ok n X r (i + 1) k he h (fun j hj hjo => by
    have := hB (j + 1) (by simpa using hj) (by simpa using hjo)
    simp only [List.getElem_cons_succ] at this
    rw [show i + 1 + j = i + (j + 1) by omega]
    exact this)
theorem R.slNoS {p : Pos} {o sz : Nat} {l : List V} {x : Value} (h : R w E S O p (.sl o sz l) x) : R w E noS O p (.sl o sz l) x := by
 cases h with
 | free h => cases h with
  | base h => exact .free (.base h)
 | own ho hb hc hl hf hE h0 hO hw he => exact .own ho hb hc hl hf hE h0 hO hw he
theorem sl_keep {p : Pos} {o sz k : Nat} {l : List V} {x : Value} (ho : o ≤ 2) (h : R w E S O p (.sl o sz l) x) : ∃ E', Raised w E O E' p ∧ R w E' S O p (.sl (min o k) sz l) x := by
 by_cases hk : k ≤ 1
 ·exact own_lower hk ho h
 ·refine ⟨E, Raised.refl _, ?_⟩
  rw [show min o k = o by omega]
  exact h
/-- A result. -/
theorem result1_ok {res : List (Nat × Nat)} {i t : Nat} {st st' : St} {a : Act} {v v' : V} {x : Value} (he : result1 res i st v = some (v', st')) (h : Rel G noS st a w E S O) (ht : look t st.t = none) (hr : RT w E S O [0, t] v x) :
  ∃ E' S' O', Framed w E O w E' O' ∧ Rel G noS st' a w E' S' O' ∧ (∀ k, Kept w E O w E' O' [2, k]) ∧ (∀ j, j ≠ i → Kept w E O w E' O' [4, j]) ∧ RT1 w E' noS O' [4, i] v' x := by
 have rt1 : ∀ {O' : Own} {v : V}, v.flat = true → RT w E noS O' [4, i] v x → RT1 w E noS O' [4, i] v x := by
  intro O' v hfl hh
  cases hh with
  | cell h => exact h
  | tup => simp [V.flat] at hfl
 have free : v.free = true → some (v, st) = some (v', st') → ∃ E' S' O', Framed w E O w E' O' ∧ Rel G noS st' a w E' S' O' ∧ (∀ k, Kept w E O w E' O' [2, k]) ∧ (∀ j, j ≠ i → Kept w E O w E' O' [4, j]) ∧ RT1 w E' noS O' [4, i] v' x := by
  intro hf he
  obtain ⟨rfl, rfl⟩ := Prod.mk.inj (Option.some.inj he)
  exact ⟨E, S, O, Framed.refl h.own, h, fun _ => Kept.refl _, fun _ _ => Kept.refl _, rt1 (flat_of_free hf) (hr.noS_free hf O)⟩
 have site : ∀ (s : Nat) (f : Pos → Pos), f = moveP [1, s] [4, i] → Rel G noS (AE.dropAny s st) a w E (setB S s none) (AE.relo f O) ∧ Framed w E O w E (AE.relo f O) ∧ (∀ k, Kept w E O w E (AE.relo f O) [2, k]) ∧ (∀ j, j ≠ i → Kept w E O w E (AE.relo f O) [4, j]) := by
  intro s f hf
  subst hf
  refine ⟨(h.dropAny s rfl).relo _ (fun d v _ r => moveP_not (notPre_tmp' r)) (fun s' y' hl' r => moveP_not (notPre_site' (fun e => by subst e; rw [(look_dropAny _ st).1] at hl'; cases hl') r)), relo_framed h.own _, fun k => relo_kept' (fun r => moveP_site_other (by decide) k r), fun j _ => relo_kept' (fun r => moveP_site_other (by decide) j r)⟩
 unfold result1 at he
 split at he
 ·rename_i s
  obtain ⟨y, hy, he⟩ := bind_some he
  split at he
  ·rename_i e ha hes
   split at he
   ·rename_i hf
    obtain ⟨rfl, rfl⟩ := Prod.mk.inj (Option.some.inj he)
    obtain ⟨g1, g2, g3, g4⟩ := site s _ rfl
    have hr1 := rf_one (E := E) (S := S) (w := w) (by simpa [V.strip, V.strip2, V.strip1] using hr.strip) rfl (by simp)
    cases hr1 with
    | base hb => cases hb
    | @ptr _ b sz _ _ hS =>
     have hio := site_io (f := moveP [1, s] [4, i]) (p := [4, i]) (h.sites _ y hy) hS ha hes hf (fun r => moveP_pre _ _ r)
     refine ⟨E, _, _, g2, g1, g3, g4, ?_⟩
     rw [Nat.zero_mul]
     exact hio
   ·cases he
  ·cases he
 ·rename_i s n
  obtain ⟨y, hy, he⟩ := bind_some he
  split at he
  ·rename_i hc
   obtain ⟨ha, hl⟩ := hc
   obtain ⟨rfl, rfl⟩ := Prod.mk.inj (Option.some.inj he)
   obtain ⟨g1, g2, g3, g4⟩ := site s _ rfl
   have hr1 := rf_one (E := E) (S := S) (w := w) (by simpa [V.strip, V.strip2, V.strip1] using hr.strip) rfl (by simp)
   have hok := h.sites s y hy
   have hsl : R w E S (AE.relo (moveP [1, s] [4, i]) O) ([4, i] ++ [0]) (.sl 2 y.sz (y.es.map V.strip2)) x := by
    cases hr1 with
    | base hb => cases hb
    | arefNil =>
     have : y.es = [] := List.eq_nil_of_length_eq_zero hl
     rw [this, List.map_nil]
     exact .free (.base (.slNil 2 y.sz))
    | @aref _ b sz _ _ cap c e fr hS hb hc hcap =>
     unfold SiteOk at hok
     rw [hS] at hok
     obtain ⟨k1, k2, c', e', fr', k3, k4, k5, k6, k7, k8, k9, k10⟩ := hok
     rw [hb] at k3
     injection k3 with k3
     injection k3 with q1 q2 q3
     subst q1; subst q2; subst q3
     subst k1
     subst hl
     rw [Nat.zero_mul] at hc ⊢
     refine own_stripped (O := O) hb (by omega) hcap k4 k5 ?_ k8 (fun i' j hi hj x hx => ⟨_, k9 ha i' j hi hj x hx⟩)
     simp only [AE.relo, k6, ha, if_true, Option.map_some]
     exact congrArg some (moveP_pre [1, s] _ [0])
   obtain ⟨E', r1, r2⟩ := sl_keep (k := (look i res).getD 0) (Nat.le_refl 2) hsl
   have hother : ∀ (k j : Nat), (k = 4 → j ≠ i) → Kept w E (AE.relo (moveP [1, s] [4, i]) O) w E' (AE.relo (moveP [1, s] [4, i]) O) [k, j] := by
    intro k j hkj
    refine r1.up.kept (fun r => ?_)
    simp only [List.cons_append, List.nil_append, List.cons_prefix_cons]
    intro hh
    exact hkj hh.1.symm hh.2.1.symm
   refine ⟨E', setB S s none, AE.relo (moveP [1, s] [4, i]) O, g2.trans (r1.framed g1.own), ?_, fun k => (g3 k).trans (hother 2 k (fun e => by cases e)), fun j hj => (g4 j hj).trans (hother 4 j (fun _ => hj)), .one rfl r2.slNoS⟩
   refine ⟨fun d v hl => ?_, fun s y hl => (g1.sites s y hl).mono r1.ext (fun _ _ h => h) rfl (hother 1 s (fun e => by cases e)), g1.live, g1.size, g1.own, g1.defers, g1.par, g1.glob.mono r1.ext⟩
   obtain ⟨x', q1, q2⟩ := g1.tmps d v hl
   exact ⟨x', q1, q2.mono r1.ext (fun _ _ h => h) (hother 0 d (fun e => by cases e))⟩
  ·cases he
 ·rename_i o sz l
  split at he
  ·rename_i ho
   obtain ⟨rfl, rfl⟩ := Prod.mk.inj (Option.some.inj he)
   have hr1 := hr.of_tmp rfl (by simp) (by simp)
   have g1 := h.relo (moveP [0, t] [4, i]) (fun d v hl r => moveP_not (notPre_tmp (fun e => by subst e; rw [ht] at hl; cases hl) r)) (fun s y _ r => moveP_not (notPre_site r))
   have hr2 : R w E S (AE.relo (moveP [0, t] [4, i]) O) ([4, i] ++ [0]) (.sl o sz l) x := hr1.reloc (fun b q hb => by
    simp only [AE.relo, hb, Option.map_some]
    rw [List.append_assoc, moveP_pre, List.append_assoc])
   obtain ⟨E', r1, r2⟩ := sl_keep (k := (look i res).getD 0) ho hr2
   have hother : ∀ (k j : Nat), (k = 4 → j ≠ i) → Kept w E (AE.relo (moveP [0, t] [4, i]) O) w E' (AE.relo (moveP [0, t] [4, i]) O) [k, j] := by
    intro k j hkj
    refine r1.up.kept (fun r => ?_)
    simp only [List.cons_append, List.nil_append, List.cons_prefix_cons]
    intro hh
    exact hkj hh.1.symm hh.2.1.symm
   refine ⟨E', S, _, (relo_framed h.own _).trans (r1.framed g1.own), ?_, fun k => (relo_kept' (fun r => moveP_tmp_other (by decide) k r)).trans (hother 2 k (fun e => by cases e)), fun j hj => (relo_kept' (fun r => moveP_tmp_other (by decide) j r)).trans (hother 4 j (fun _ => hj)), .one rfl r2.slNoS⟩
   refine ⟨fun d v hl => ?_, fun s y hl => (g1.sites s y hl).mono r1.ext (fun _ _ h => h) rfl (hother 1 s (fun e => by cases e)), g1.live, g1.size, g1.own, g1.defers, g1.par, g1.glob.mono r1.ext⟩
   obtain ⟨x', q1, q2⟩ := g1.tmps d v hl
   exact ⟨x', q1, q2.mono r1.ext (fun _ _ h => h) (hother 0 d (fun e => by cases e))⟩
  ·cases he
 ·rename_i cs
  split at he
  ·rename_i hf
   obtain ⟨rfl, rfl⟩ := Prod.mk.inj (Option.some.inj he)
   have hs : RF w E S (.agg (cs.map V.strip1)) x := by simpa [V.strip, V.strip2] using hr.strip
   exact ⟨E, S, O, Framed.refl h.own, h, fun _ => Kept.refl _, fun _ _ => Kept.refl _, rt1 rfl ((hs.rt O [0, t]).noS_free hf O)⟩
  ·cases he
 ·split at he
  ·rename_i hf
   exact free hf he
  ·cases he
/-- What a result variable yields. -/
def rvSem (tmps : Array Value) : ResultVar → Sem Value
 | .tmp t => pure (tmps.getD t undef)
 | .cell a t => do loadVar t (← asAddr (tmps.getD a undef))
theorem resultsE_ok {res : List (Nat × Nat)} {a : Act} : ∀ (rvs : List ResultVar) (i : Nat) {st st' : St} {vs : List V} {E : Bnd} {S : Sit} {O : Own}, resultsE P res i rvs st = some (vs, st') → Rel G noS st a w E S O →
  ∃ E' S' O', Framed w E O w E' O' ∧ Rel G noS st' a w E' S' O' ∧ (∀ k, Kept w E O w E' O' [2, k]) ∧ (∀ j, j < i → Kept w E O w E' O' [4, j]) ∧ vs.length = rvs.length ∧
   ∃ ys : List Value, ys.length = rvs.length ∧ (∀ j (h : j < ys.length) (h' : j < rvs.length), (rvSem a.tmps (rvs[j])).run P w = .ok (ys[j]) w) ∧ ∀ j (h : j < vs.length) (h' : j < ys.length), RT1 w E' noS O' [4, i + j] (vs[j]) (ys[j])
 | [], i, st, st', vs, E, S, O, he, h => by
  simp only [resultsE, Option.some.injEq, Prod.mk.injEq] at he
  obtain ⟨rfl, rfl⟩ := he
  exact ⟨E, S, O, Framed.refl h.own, h, fun _ => Kept.refl _, fun _ _ => Kept.refl _, rfl, [], rfl, fun j hj => by simp at hj, fun j hj => by simp at hj⟩
 | .cell ad t :: r, i, st, st', vs, E, S, O, he, h => by
  simp only [resultsE] at he
  obtain ⟨v, hv, he⟩ := bind_some he
  split at he
  ·rename_i s
   obtain ⟨y, hy, he⟩ := bind_some he
   split at he
   ·rename_i e ha hes
    obtain ⟨u, hu, he⟩ := bind_some he
    split at he
    ·rename_i hf
     obtain ⟨⟨us, st2⟩, h2, he⟩ := map_some he
     obtain ⟨rfl, rfl⟩ := Prod.mk.inj he
     obtain ⟨x, hx, hr⟩ := h.tmps ad _ hv
     have hrf : RF w E S (.ptr s 0 0) x := by simpa [V.strip, V.strip2, V.strip1] using hr.strip
     obtain ⟨z, hz1, hz2⟩ := load_ok (P := P) (t := t) (u := .ptr s 0 0) (v := u) h.sites hrf (by
      show (look s st.σ).bind _ = _
      rw [hy]
      simp only [Option.bind_some, hes, List.getElem?_cons_zero]
      exact hu)
     obtain ⟨E2, S2, O2, k1, k2, k3, k4, k5, ys, k6, k7, k8⟩ := resultsE_ok r (i + 1) h2 h
     have hrun : (rvSem a.tmps (.cell ad t)).run P w = .ok z w := by
      have hr1 := rf_one hrf rfl (by simp)
      have hgd : a.tmps.getD ad undef = x := by simp [hx]
      cases hr1 with
      | base hb => cases hb
      | ptr hS =>
       simp only [rvSem, hgd, asAddr, Sem.run_bind, Sem.run_pure, Result.andThen_ok]
       simpa only [Instr.loadAt, Instr.sureAddr, Sem.run_bind, Sem.run_pure, Result.andThen_ok] using hz1
     have hz3 : RT1 w E noS O [4, i] u.strip z := by
      have := (hz2.rt O [4, i]).noS_free (p' := [4, i]) hf O
      generalize u.strip = us at this hf
      cases this with
      | cell this => exact this
      | tup => simp [V.free, V.cells, V.free1] at hf
     refine ⟨E2, S2, O2, k1, k2, k3, fun j hj => k4 j (by omega), by simp [k5], z :: ys, by simp [k6], fun j hj hj' => ?_, fun j hj hj' => ?_⟩
     ·cases j with
      | zero => exact hrun
      | succ j => simpa using k7 j (by simpa using hj) (by simpa using hj')
     ·cases j with
      | zero => exact hz3.mono k1.ext (fun _ _ h => h) (k4 i (by omega))
      | succ j =>
       simp only [List.getElem_cons_succ]
       rw [show i + (j + 1) = i + 1 + j by omega]
       exact k8 j (by simpa using hj) (by simpa using hj')
    ·cases he
   ·cases he
  ·cases he
 | .tmp t :: r, i, st, st', vs, E, S, O, he, h => by
  simp only [resultsE] at he
  obtain ⟨v, hv, he⟩ := bind_some he
  obtain ⟨⟨v', st1⟩, h1, he⟩ := bind_some he
  obtain ⟨⟨us, st2⟩, h2, he⟩ := map_some he
  obtain ⟨rfl, rfl⟩ := Prod.mk.inj he
  obtain ⟨x, hx, hr⟩ := h.tmps t v hv
  obtain ⟨E1, S1, O1, g1, g2, g3, g4, g5⟩ := result1_ok h1 (h.drop t) (by simp [look_del]) hr
  obtain ⟨E2, S2, O2, k1, k2, k3, k4, k5, ys, k6, k7, k8⟩ := resultsE_ok r (i + 1) h2 g2
  refine ⟨E2, S2, O2, g1.trans k1, k2, fun k => (g3 k).trans (k3 k), fun j hj => (g4 j (by omega)).trans (k4 j (by omega)), by simp [k5], x :: ys, by simp [k6], fun j hj hj' => ?_, fun j hj hj' => ?_⟩
  ·cases j with
   | zero =>
    have : a.tmps.getD t undef = x := by simp [hx]
    simp only [List.getElem_cons_zero, rvSem, this]
    rfl
   | succ j => simpa using k7 j (by simpa using hj) (by simpa using hj')
  ·cases j with
   | zero => exact g5.mono k1.ext (fun _ _ h => h) (k4 i (by omega))
   | succ j =>
    simp only [List.getElem_cons_succ]
    rw [show i + (j + 1) = i + 1 + j by omega]
    exact k8 j (by simpa using hj) (by simpa using hj')
theorem run_mapM {α β : Type} {f : α → Sem β} {w : World} : ∀ (l : List α) (ys : List β), ys.length = l.length → (∀ j (h : j < ys.length) (h' : j < l.length), (f (l[j])).run P w = .ok (ys[j]) w) → (l.mapM f).run P w = .ok ys w
 | [], [], _, _ => by simp
 | [], _ :: _, h, _ => by simp at h
 | _ :: _, [], h, _ => by simp at h
 | x :: l, y :: ys, hl, h => by
  have h0 := h 0 (by simp) (by simp)
  simp only [List.getElem_cons_zero] at h0
  simp only [List.mapM_cons, Sem.run_bind, h0, Result.andThen_ok, run_mapM l ys (by simpa using hl) (fun j hj hj' => by have := h (j + 1) (by simpa using hj) (by simpa using hj'); simp only [List.getElem_cons_succ] at this; exact this), Sem.run_pure]
theorem arr_mapM {α β : Type} {f : α → Sem β} {w : World} (a : Array α) (ys : List β) (hl : ys.length = a.toList.length) (h : ∀ j (h : j < ys.length) (h' : j < a.toList.length), (f (a.toList[j])).run P w = .ok (ys[j]) w) : (a.mapM f).run P w = .ok ys.toArray w := by
 have e : a = a.toList.toArray := by simp
 rw [e, List.mapM_toArray]
 simp only [map_eq_pure_bind, Sem.run_bind]
 rw [run_mapM a.toList ys hl h]
 simp
theorem results_run {fn : Func} {tmps : Array Value} {ys : List Value} {w : World} (hl : ys.length = fn.results.toList.length) (h : ∀ j (h : j < ys.length) (h' : j < fn.results.toList.length), (rvSem tmps (fn.results.toList[j])).run P w = .ok (ys[j]) w) :
  (results fn tmps).run P w = .ok (if ys.length = 1 then ys.headD undef else .tuple ys.toArray) w := by
 unfold results
 rw [Sem.run_bind, arr_mapM fn.results ys hl (fun j hj hj' => by
   have := h j hj hj'
   cases hx : fn.results.toList[j] with
   | tmp t => rw [hx] at this; exact this
   | cell a t => rw [hx] at this; exact this), Result.andThen_ok, Sem.run_pure]
 congr 1
 match ys with
 | [x] => simp
 | [] => simp
 | x :: y :: r => simp
end
end Go.AE

namespace Go.AE
open Go.RowKit
set_option linter.unusedSimpArgs false
set_option linter.unusedVariables false
section
variable {P : Program} {G : Glo} {w : World} {E : Bnd} {S F : Sit} {O : Own} {callH : CallH}
theorem isOut_cases {v : V} (h : v.isOut = true) : (∃ e, v = .io e) ∨ ∃ sz l, v = .sl 2 sz l := by
 unfold V.isOut at h
 split at h
 ·exact .inl ⟨_, rfl⟩
 ·exact .inr ⟨_, _, rfl⟩
 ·cases h
/-- The temporary, and the site, of an argument that is handed over. -/
def argT (n d : Nat) : V → V
 | .sl _ _ l => .aref (n + d) 0 l.length
 | _ => .ptr (n + d) 0 0
def argS : V → Site
 | .io e => ⟨false, e.cells.length, [e]⟩
 | .sl _ sz l => ⟨true, sz, l⟩
 | _ => ⟨true, 0, []⟩
theorem initSt_n (n : Nat) : ∀ (args : List V) (i : Nat), (initSt n i args).n = n
 | [], _ => rfl
 | v :: r, i => by unfold initSt; split <;> rfl
theorem initSt_out {v : V} (h : v.isOut = true) (n i : Nat) (r : List V) : initSt n i (v :: r) = ⟨(i, argT n i v) :: (initSt n (i + 1) r).t, (n + i, argS v) :: (initSt n (i + 1) r).σ, n⟩ := by
 rcases isOut_cases h with ⟨e, rfl⟩ | ⟨sz, l, rfl⟩ <;> rfl
theorem initSt_in {v : V} (h : v.isOut = false) (n i : Nat) (r : List V) : initSt n i (v :: r) = ⟨(i, v) :: (initSt n (i + 1) r).t, (initSt n (i + 1) r).σ, n⟩ := by
 rw [initSt]
 ·intro e he; subst he; cases h
 ·intro sz l he; subst he; cases h
theorem look_init_t (n : Nat) : ∀ (args : List V) (i d : Nat) (v : V), look d (initSt n i args).t = some v → ∃ j, ∃ (h : j < args.length), d = i + j ∧ (((args[j]).isOut = true ∧ v = argT n d (args[j])) ∨ ((args[j]).isOut = false ∧ v = args[j]))
 | [], i, d, v, h => by cases h
 | u :: r, i, d, v, h => by
  cases hu : u.isOut with
  | true =>
   rw [initSt_out hu] at h
   simp only [look] at h
   cases hb : Nat.beq d i with
   | true =>
    rw [hb] at h
    have e1 : d = i := Nat.eq_of_beq_eq_true hb
    obtain rfl := Option.some.inj h
    exact ⟨0, by simp, by omega, .inl ⟨hu, by rw [e1]; rfl⟩⟩
   | false =>
    rw [hb] at h
    obtain ⟨j, hj, h1, h2⟩ := look_init_t n r (i + 1) d v h
    exact ⟨j + 1, by simpa using hj, by omega, by simpa using h2⟩
  | false =>
   rw [initSt_in hu] at h
   simp only [look] at h
   cases hb : Nat.beq d i with
   | true =>
    rw [hb] at h
    have e1 : d = i := Nat.eq_of_beq_eq_true hb
    obtain rfl := Option.some.inj h
    exact ⟨0, by simp, by omega, .inr ⟨hu, rfl⟩⟩
   | false =>
    rw [hb] at h
    obtain ⟨j, hj, h1, h2⟩ := look_init_t n r (i + 1) d v h
    exact ⟨j + 1, by simpa using hj, by omega, by simpa using h2⟩
theorem look_init_s (n : Nat) : ∀ (args : List V) (i s : Nat), (∀ y, look s (initSt n i args).σ = some y → ∃ j, ∃ (h : j < args.length), s = n + (i + j) ∧ (args[j]).isOut = true ∧ y = argS (args[j])) ∧
  (look s (initSt n i args).σ = none → ∀ j (h : j < args.length), (args[j]).isOut = true → s ≠ n + (i + j))
 | [], i, s => And.intro (fun y h => absurd h (by simp [initSt, look])) (fun _ j h => absurd h (by simp))
 | u :: r, i, s => by
  obtain ⟨ih1, ih2⟩ := look_init_s n r (i + 1) s
  cases hu : u.isOut with
  | true =>
   rw [initSt_out hu]
   simp only [look]
   cases hb : Nat.beq s (n + i) with
   | true =>
    have e1 : s = n + i := Nat.eq_of_beq_eq_true hb
    refine And.intro (fun y h => ?_) (fun h => absurd h (by simp))
    obtain rfl := Option.some.inj h
    exact ⟨0, by simp, by omega, hu, rfl⟩
   | false =>
    have e1 : s ≠ n + i := Nat.ne_of_beq_eq_false hb
    refine And.intro (fun y h => ?_) (fun h j hj he => ?_)
    ·obtain ⟨j, hj, h1, h2, h3⟩ := ih1 y h
     exact ⟨j + 1, by simpa using hj, by omega, by simpa using h2, by simpa using h3⟩
    ·cases j with
     | zero => omega
     | succ j =>
      have := ih2 h j (by simpa using hj) (by simpa using he)
      omega
  | false =>
   rw [initSt_in hu]
   refine And.intro (fun y h => ?_) (fun h j hj he => ?_)
   ·obtain ⟨j, hj, h1, h2, h3⟩ := ih1 y h
    exact ⟨j + 1, by simpa using hj, by omega, by simpa using h2, by simpa using h3⟩
   ·cases j with
    | zero => simp only [List.getElem_cons_zero] at he; rw [hu] at he; cases he
    | succ j =>
     have := ih2 h j (by simpa using hj) (by simpa using he)
     omega
/-- Where the arguments' memory lies when the function begins. -/
def startP (n : Nat) (args : List V) : Pos → Pos
 | 0 :: i :: r => if (args.getD i .undef).isOut then 1 :: (n + i) :: r else 0 :: i :: r
 | q => q
def startS (n : Nat) (args : List V) (xs : Array Value) : Sit := fun s =>
 if n ≤ s ∧ s - n < args.length then match args.getD (s - n) .undef, xs.getD (s - n) undef with
  | .io e, .pointer (some a) => some (a.block, e.cells.length)
  | .sl 2 sz _, .slice (some a) _ _ => some (a.block, sz)
  | _, _ => none
 else none
/-- What the caller says of an argument, at the function's beginning. -/
theorem start_hold {args : List V} {xs : Array Value} {n i : Nat} (hi : i < args.length) (hi' : i < xs.size) (hout : (args[i]).isOut = true) (hr : RT w E noS O [0, i] (args[i]) (xs[i])) :
  Hold w (startS n args xs) (n + i) (args[i]) (xs[i]) := by
 have e1 : n + i - n = i := by omega
 have e2 : args.getD i .undef = args[i] := by simp [hi]
 have e3 : xs.getD i undef = xs[i] := by unfold Array.getD; rw [dif_pos hi']; rfl
 have hS : startS n args xs (n + i) = match args[i], xs[i] with
  | .io e, .pointer (some a) => some (a.block, e.cells.length)
  | .sl 2 sz _, .slice (some a) _ _ => some (a.block, sz)
  | _, _ => none := by
  unfold startS
  rw [if_pos (by omega), e1, e2, e3]
 generalize args[i] = v at hout hr hS
 generalize xs[i] = x at hr hS
 rcases isOut_cases hout with ⟨e, rfl⟩ | ⟨sz, l, rfl⟩
 ·cases hr with
  | cell hr => cases hr with
   | one hv hh => exact absurd rfl ((shape_R hh).2.2 _)
   | io => exact ⟨_, hS, rfl⟩
 ·have hr1 := hr.of_tmp rfl (by simp) (by simp)
  simp only [Hold]
  cases hr1 with
  | free hr1 => cases hr1 with
   | base hr1 => cases hr1 with
    | slNil => exact .inl ⟨rfl, rfl⟩
  | @own _ _ _ b off cap c e fr ho hb hc hl hf hE h0 hO hw he =>
   have := h0 rfl
   subst this
   exact .inr ⟨b, cap, c, e, fr, hS, rfl, hl, hb, by omega⟩
theorem start_rel {args : List V} {xs : Array Value} {tmps : Array Value} {n : Nat} (hgl : Glob G w E) (hl : args.length = xs.size) (ho : ∀ b p, O b = some p → b < w.heap.size) (hr : ∀ i (h : i < args.length) (h' : i < xs.size), RT w E noS O [0, i] (args[i]) (xs[i]))
  (hok : args.all V.argOk = true) (ht : ∀ i (h : i < xs.size), tmps[i]? = some xs[i]) (hn : tmps.size = n) : Rel G (startS n args xs) (initSt n 0 args) { tmps := tmps, defers := [] } w E (startS n args xs) (AE.relo (startP n args) O) := by
 have hst : (initSt n 0 args).n = n := initSt_n n args 0
 have hsp : ∀ j (hj : j < args.length), (args[j]).isOut = true → ∀ r, startP n args ([0, j] ++ r) = [1, n + j] ++ r := by
  intro j hj hout r
  show startP n args (0 :: j :: r) = _
  have : args.getD j .undef = args[j] := by simp [hj]
  simp only [startP, this, hout]
  rfl
 refine ⟨fun d v hl' => ?_, fun s y hs => ?_, fun s hs => ?_, by rw [hst]; exact hn, relo_own ho _, rfl, fun s q hq => ⟨hq, ?_⟩, hgl⟩
 ·obtain ⟨j, hj, hd, hv⟩ := look_init_t n args 0 d v hl'
  rw [Nat.zero_add] at hd
  subst hd
  have hj' : d < xs.size := by omega
  refine ⟨xs[d], ht d hj', ?_⟩
  rcases hv with ⟨h1, rfl⟩ | ⟨h1, rfl⟩
  ·have hh := start_hold (n := n) hj hj' h1 (hr d hj hj')
   generalize args[d] = v at h1 hh
   generalize xs[d] = x at hh
   rcases isOut_cases h1 with ⟨e, rfl⟩ | ⟨sz, l, rfl⟩
   ·obtain ⟨b, h2, rfl⟩ := hh
    have := R1.ptr (w := w) (E := E) (S := startS n args xs) (s := n + d) (b := b) (sz := e.cells.length) (i := 0) (off := 0) h2
    rw [Nat.zero_mul] at this
    exact .cell (.one rfl (.free this))
   ·simp only [Hold] at hh
    rcases hh with ⟨rfl, rfl⟩ | ⟨b, cap, c, et, fr, h2, rfl, h3, h4, h5⟩
    ·exact .cell (.one rfl (.free .arefNil))
    ·have := R1.aref (w := w) (E := E) (S := startS n args xs) (s := n + d) (b := b) (sz := sz) (off := 0) (len := l.length) (cap := cap) h2 h4 (by omega) h3
     rw [Nat.zero_mul] at this
     exact .cell (.one rfl (.free this))
  ·refine (hr d hj hj').mono (Ext.refl _ _) (fun _ _ h => by cases h) (relo_kept fun r => ?_)
   show startP n args (0 :: d :: r) = _
   have : args.getD d .undef = args[d] := by simp [hj]
   simp only [startP, this, h1]
   rfl
 ·obtain ⟨j, hj, h1, h2, rfl⟩ := (look_init_s n args 0 s).1 y hs
  rw [Nat.zero_add] at h1
  subst h1
  have hj' : j < xs.size := by omega
  have hh := start_hold (n := n) hj hj' h2 (hr j hj hj')
  have hp := hsp j hj h2
  have hr1 := hr j hj hj'
  have hok1 : (args[j]).argOk = true := List.all_eq_true.1 hok _ (List.getElem_mem hj)
  have hnil0 : xs[j] = .slice none 0 0 → startS n args xs (n + j) = none := by
   intro hx
   unfold startS
   have e1 : n + j - n = j := by omega
   have e3 : xs.getD j undef = xs[j] := by unfold Array.getD; rw [dif_pos hj']; rfl
   rw [if_pos (by omega), e1, e3, hx]
   split
   ·rename_i q; cases q
   ·rename_i q; cases q
   ·rfl
  generalize args[j] = v at h2 hh hr1 hok1
  generalize xs[j] = x at hh hr1 hnil0
  rcases isOut_cases h2 with ⟨e, rfl⟩ | ⟨sz, l, rfl⟩
  ·obtain ⟨b, h3, rfl⟩ := hh
   cases hr1 with
   | cell hr1 => cases hr1 with
    | one hv hh => exact absurd rfl ((shape_R hh).2.2 _)
    | @io _ _ c et fr k3 k4 k5 k6 k7 k8 =>
     have hcl : e.cells.length = c.size := by simpa using k7.1
     unfold SiteOk
     rw [h3]
     refine ⟨rfl, by omega, c, et, fr, k3, k4, k5, ?_, by simp [argS]; omega, fun i hi => ?_, fun hf => Bool.noConfusion hf, fun _ => ⟨rfl, hcl.symm, fun i j' hi hj' y hy => ?_⟩⟩
     ·simp only [AE.relo, k6, Option.map_some]
      exact congrArg some (hp [])
     ·have : i = 0 := by simpa [argS] using hi
      subst this; rfl
     ·have : i = 0 := by simpa [argS] using hi
      subst this
      rw [Nat.zero_mul, Nat.zero_add] at hy
      have hj2 : j' < c.size := by
       rcases Nat.lt_or_ge j' c.size with h' | h'
       ·exact h'
       ·rw [Array.getElem?_eq_none h'] at hy; cases hy
      rw [Array.getElem?_eq_getElem hj2] at hy
      obtain rfl := Option.some.inj hy
      have hR := k7.2 j' hj' (by simpa using hj2)
      rw [Array.getElem_toList (xs := c)] at hR
      have hR2 := hR.mono (Ext.refl _ _) (S' := startS n args xs) (fun s b hs => by cases hs) ⟨fun b q hb => ⟨rfl, rfl, hb⟩⟩
      exact hR2.reloc (fun b' q hb' => by
       simp only [AE.relo, hb', Option.map_some]
       have := hp ([1] ++ [j'] ++ q)
       simpa using this)
  ·simp only [Hold] at hh
   have hr2 := hr1.of_tmp rfl (by simp) (by simp)
   have hpos : 0 < sz := Nat.le_of_ble_eq_true hok1
   rcases hh with ⟨rfl, rfl⟩ | ⟨b, cap, c, et, fr, h3, rfl, h4, h5, h6⟩
   ·unfold SiteOk
    cases hS : startS n args xs (n + j) with
    | none => exact ⟨rfl, rfl⟩
    | some q => rw [hnil0 rfl] at hS; cases hS
   ·cases hr2 with
    | free hr2 => cases hr2 with
     | base hr2 => cases hr2
    | @own _ _ _ b2 off2 cap2 c2 e2 fr2 ho2 hb2 hc2 hl2 hf2 hE2 h02 hO2 hw2 he2 =>
     unfold SiteOk
     rw [h3]
     have hmul : l.length * sz ≤ cap * sz := Nat.mul_le_mul_right _ hl2
     refine ⟨rfl, hpos, c2, e2, fr2, hb2, hf2, by rw [hE2]; rfl, ?_, by show l.length * sz ≤ _; omega, hw2, fun _ i j' hi hj' z hz => .free (he2 i j' hi hj' z (by rw [← hz]; congr 1; omega)), fun hf => Bool.noConfusion hf⟩
     simp only [AE.relo, hO2, Option.map_some]
     exact congrArg some (hp [0])
 ·unfold startS
  split
  ·rename_i hge
   split
   ·rename_i e a q1 q2
    have he' : args[s - n]'hge.2 = .io e := by simpa [hge.2] using q1
    have := (look_init_s n args 0 s).2 hs (s - n) hge.2 (by rw [he']; rfl)
    omega
   ·rename_i sz l a len cap q1 q2
    have he' : args[s - n]'hge.2 = .sl 2 sz l := by simpa [hge.2] using q1
    have := (look_init_s n args 0 s).2 hs (s - n) hge.2 (by rw [he']; rfl)
    omega
   ·rfl
  ·rfl
 ·rw [hst]
  unfold startS at hq
  split at hq
  ·rename_i hc; exact hc.1
  ·cases hq
def endP (one : Bool) : Pos → Pos
 | 4 :: i :: r => bif one then 1 :: r else 1 :: i :: r
 | q => q
/-- A function. -/
theorem evF_sound (hm : P.follows .mixedOrders = true) {anns : FuncId → FAnn} {ext : ExtH} (hext : ∀ f args r outs, ext f args = some (some (r, outs)) → FnOk G P f args r outs) :
  ∀ (k : Nat) (f : FuncId) (args : List V) (r : V) (outs : List V), evF P anns ext k f args = some (r, outs) → FnOk G P f args r outs
 | 0, f, args, r, outs, h => by cases h
 | k + 1, f, args, r, outs, h => by
  simp only [evF] at h
  split at h
  ·rename_i q hq
   subst h
   exact hext f args r outs hq
  ·split at h
   ·cases h
   ·rename_i fn hfn
    split at h
    ·cases h
    ·rename_i c hc
     split at h
     ·rename_i hname
      obtain ⟨hname, hargok⟩ := hname
      obtain ⟨⟨x, st2⟩, he, h⟩ := bind_some h
      obtain ⟨hx', h⟩ : (x = .normal ∨ x = .ret) ∧ ((outsE (max fn.ntmps args.length) 0 args st2).bind fun outs => (resultsE P (anns f).res 0 fn.results.toList outs.2).map fun x => (tupOf x.1, outs.1)) = some (r, outs) := by
       cases x with
       | normal => exact ⟨.inl rfl, h⟩
       | ret => exact ⟨.inr rfl, h⟩
       | exit i => cases h
      obtain ⟨⟨outs', st3⟩, ho, h⟩ := bind_some h
      obtain ⟨⟨vs, st4⟩, hres, h⟩ := map_some h
      obtain ⟨rfl, rfl⟩ := Prod.mk.inj h
      refine ⟨⟨fn, hfn, hname, by rw [hc]; rfl⟩, fun w E O xs hgl hl hown hr => ?_⟩
      refine calls_of_wp hfn hc ?_
      have hsz : (xs ++ Array.replicate (fn.ntmps - xs.size) undef).size = max fn.ntmps args.length := by simp; omega
      have h0 := start_rel hgl (tmps := xs ++ Array.replicate (fn.ntmps - xs.size) undef) hl hown hr hargok (fun i hi => by rw [Array.getElem?_append_left hi]; exact Array.getElem?_eq_getElem hi) hsz
      refine exec_ok hm (evF_sound hm hext k) c he h0 (fun a' w' E' S' O' hfr hrel => ?_)
      have hgetx : ∀ {j : Nat} (hj : j < xs.size), xs.getD j undef = xs[j] := fun hj => by unfold Array.getD; rw [dif_pos hj]; rfl
      have hB : ∀ j (hj : j < args.length), (args[j]).isOut = true → Hold w' S' (max fn.ntmps args.length + (0 + j)) (args[j]) (xs.getD (0 + j) undef) := by
       intro j hj hout
       have hj' : j < xs.size := by omega
       rw [Nat.zero_add, hgetx hj']
       have hh := start_hold (n := max fn.ntmps args.length) hj hj' hout (hr j hj hj')
       have hh2 := (hh.ext hfr.ext)
       generalize args[j] = v at hh2 hout
       generalize xs[j] = z at hh2
       rcases isOut_cases hout with ⟨e, rfl⟩ | ⟨sz, l, rfl⟩
       ·obtain ⟨b, h1, h2⟩ := hh2
        exact ⟨b, (hrel.par _ _ h1).1, h2⟩
       ·simp only [Hold] at hh2 ⊢
        rcases hh2 with hh2 | ⟨b, cap, c, et, fr, h1, h2⟩
        ·exact .inl hh2
        ·exact .inr ⟨b, cap, c, et, fr, (hrel.par _ _ h1).1, h2⟩
      obtain ⟨S1, O1, g1, g2, g3, g4, g5⟩ := outs_ok (max fn.ntmps args.length) (fun j => xs.getD j undef) args 0 0 ho hrel.forget hB
      obtain ⟨E2, S2, O2, k1, k2, k3, k4, k5, ys, k6, k7, k8⟩ := resultsE_ok fn.results.toList 0 hres g2
      have hfin : ∃ x E' O', (results fn a'.tmps).run P w' = .ok x w' ∧ Framed w E O w' E' O' ∧ RT w' E' noS O' [1] (tupOf vs) x ∧ outs'.length = (iosOf 0 args).length ∧
        ∀ k (h : k < outs'.length) (h' : k < (iosOf 0 args).length), RT w' E' noS O' [2, k] (outs'[k]) (xs.getD ((iosOf 0 args)[k]) undef) := by
       refine ⟨_, E2, AE.relo (endP (Nat.beq vs.length 1)) O2, results_run (by simpa using k6) k7, ?_, ?_, g4, ?_⟩
       ·have f0 := relo_framed (E := E) hown (startP (max fn.ntmps args.length) args)
        exact (((f0.trans hfr).trans g1).trans k1).trans (relo_framed k2.own _)
       ·have hlen : ys.length = vs.length := by omega
        match vs, ys, hlen with
        | [v], [y], _ =>
         have := k8 0 (by simp) (by simp)
         simp only [List.getElem_cons_zero] at this
         refine .cell (this.reloc (fun b q hb => ?_))
         simp only [AE.relo, hb, Option.map_some]
         rfl
        | [], [], _ => exact .tup rfl (fun j hj => by simp at hj)
        | v1 :: v2 :: vr, ys, hlen =>
         have hne : ¬ ys.length = 1 := by rw [hlen]; simp
         rw [if_neg hne]
         have hb1 : Nat.beq (v1 :: v2 :: vr).length 1 = false := beq_ne (by simp)
         rw [hb1]
         refine .tup (by simpa using hlen.symm) (fun j hj hj' => ?_)
         have := k8 j hj (by simpa using hj')
         rw [Nat.zero_add] at this
         simp only [List.getElem_toArray]
         exact this.reloc (fun b q hb => by
          simp only [AE.relo, hb, Option.map_some]
          rfl)
       ·intro q hq hq'
        have := g5 q hq hq'
        rw [Nat.zero_add] at this
        have h2 := (this.mono k1.ext (fun _ _ h => h) (k3 q))
        refine .cell (h2.reloc (fun b r hb => ?_))
        simp only [AE.relo, hb, Option.map_some]
        rfl
      obtain ⟨xv, Ef, Of, r1, r2, r3, r4, r5⟩ := hfin
      rcases hx' with rfl | rfl
      ·exact ⟨hrel.defers, xv, r1, xv, Ef, Of, rfl, r2, r3, r4, r5⟩
      ·exact ⟨hrel.defers, xv, r1, xv, Ef, Of, rfl, r2, r3, r4, r5⟩
     ·cases h
end
end Go.AE

namespace Go.AE
set_option linter.unusedSimpArgs false
set_option linter.unusedVariables false
section
variable {P : Program} {G : Glo} {callH : CallH} {α β γ R : Type}
theorem bindE {x : Option α} {K1 : α → Option β} {K2 : α → Option γ} {g : γ → β} (h : ∀ a, K1 a = (K2 a).map g) : x.bind K1 = (x.bind K2).map g := by
 cases x with
 | none => rfl
 | some a => exact h a
theorem bifE {c : Bool} {L : Option β} {A B : Option γ} {g : γ → β} (h1 : c = true → L = A.map g) (h0 : c = false → L = B.map g) : L = (bif c then A else B).map g := by
 cases c with
 | true => exact h1 rfl
 | false => exact h0 rfl
theorem bifE2 {c : Bool} {L1 L0 : Option β} {A B : Option γ} {g : γ → β} (h1 : c = true → L1 = A.map g) (h0 : c = false → L0 = B.map g) : (bif c then L1 else L0) = (bif c then A else B).map g := by
 cases c with
 | true => exact h1 rfl
 | false => exact h0 rfl
def forceLs (fv : V → (V → β) → β) : List V → (List V → β) → β
 | [], f => f []
 | v :: r, f => fv v fun v' => forceLs fv r fun r' => f (v' :: r')
def forceV : Nat → V → (V → β) → β
 | 0, v, f => f v
 | d + 1, v, f => match v with
  | .int k n => f (.int k n)
  | .bool b => f (.bool b)
  | .str s => f (.str s)
  | .sl o sz l => (match o with
   | 0 => f (.sl 0 sz l)
   | 1 => f (.sl 1 sz l)
   | 2 => f (.sl 2 sz l)
   | n + 3 => f (.sl (n + 3) sz l))
  | .agg cs => forceLs (forceV d) cs fun cs' => f (.agg cs')
  | .tup cs => forceLs (forceV d) cs fun cs' => f (.tup cs')
  | .pro c => forceV d c fun c' => f (.pro c')
  | .io c => forceV d c fun c' => f (.io c')
  | v => f v
def forceT : List (Nat × V) → (List (Nat × V) → β) → β
 | [], f => f []
 | (d, v) :: r, f => forceV 3 v fun v' => forceT r fun r' => f ((d, v') :: r')
def forceE : List V → (List V → β) → β
 | [], f => f []
 | v :: r, f => forceV 3 v fun v' => forceE r fun r' => f (v' :: r')
def forceS : List (Nat × Site) → (List (Nat × Site) → β) → β
 | [], f => f []
 | (d, ⟨true, sz, es⟩) :: r, f => forceS r fun r' => f ((d, ⟨true, sz, es⟩) :: r')
 | (d, ⟨false, sz, es⟩) :: r, f => forceE es fun es' => forceS r fun r' => f ((d, ⟨false, sz, es'⟩) :: r')
def forceSt : St → (St → β) → β
 | ⟨t, σ, n⟩, f => forceT t fun t' => forceS σ fun σ' => f ⟨t', σ', n⟩
theorem forceLs_eq {fv : V → (V → β) → β} (h : ∀ v f, fv v f = f v) : ∀ (cs : List V) (f : List V → β), forceLs fv cs f = f cs
 | [], f => rfl
 | v :: r, f => by simp only [forceLs, h, forceLs_eq h r]
theorem forceV_eq : ∀ (d : Nat) (v : V) (f : V → β), forceV d v f = f v
 | 0, v, f => rfl
 | d + 1, v, f => by
  have hs := fun cs f => forceLs_eq (β := β) (forceV_eq d) cs f
  cases v with
  | sl o sz l =>
   simp only [forceV]
   split <;> rfl
  | agg cs => simp only [forceV, hs]
  | tup cs => simp only [forceV, hs]
  | pro c => simp only [forceV, forceV_eq d]
  | io c => simp only [forceV, forceV_eq d]
  | _ => rfl
theorem forceT_eq : ∀ (t : List (Nat × V)) (f : List (Nat × V) → β), forceT t f = f t
 | [], f => rfl
 | (d, v) :: r, f => by simp only [forceT, forceV_eq, forceT_eq r]
theorem forceE_eq : ∀ (t : List V) (f : List V → β), forceE t f = f t
 | [], f => rfl
 | v :: r, f => by simp only [forceE, forceV_eq, forceE_eq r]
theorem forceS_eq : ∀ (t : List (Nat × Site)) (f : List (Nat × Site) → β), forceS t f = f t
 | [], f => rfl
 | (d, ⟨true, sz, es⟩) :: r, f => by simp only [forceS, forceS_eq r]
 | (d, ⟨false, sz, es⟩) :: r, f => by simp only [forceS, forceE_eq, forceS_eq r]
theorem forceSt_eq (st : St) (f : St → β) : forceSt st f = f st := by
 obtain ⟨t, σ, n⟩ := st
 simp only [forceSt, forceT_eq, forceS_eq]
def opsF (P : Program) (callH : CallH) (ops : Array Oper) (anns : List (Nat × OAnn)) : Nat → List Oper → St → Option St
 | _, [], st => some st
 | i, o :: r, st => (wantedV ops st.t o).bind fun b =>
  bif b then (stepOp P callH (annOf anns i) o st).bind (fun s => forceSt s (opsF P callH ops anns (i + 1) r)) else forceSt (unset o.dst st) (opsF P callH ops anns (i + 1) r)
theorem opsF_eq (ops : Array Oper) (anns : List (Nat × OAnn)) : ∀ (r : List Oper) (i : Nat) (st : St), opsF P callH ops anns i r st = opsE P callH ops anns i r st
 | [], i, st => rfl
 | o :: r, i, st => by
  simp only [opsF, opsE, forceSt_eq]
  have : (fun s => opsF P callH ops anns (i + 1) r s) = opsE P callH ops anns (i + 1) r := funext fun s => opsF_eq ops anns r (i + 1) s
  simp only [opsF_eq ops anns r]
def delAll (ks : List Nat) : List (Nat × V) → List (Nat × V)
 | [] => []
 | p :: r => bif ks.elem p.1 then delAll ks r else p :: delAll ks r
def killSites : List Nat → St → St
 | [], st => st
 | d :: r, ⟨t, σ, n⟩ => bif Nat.blt d n then (match look d σ with
  | none => killSites r ⟨t, σ, n⟩
  | some _ => killSites r (killRefs d ⟨t, del d σ, n⟩)) else killSites r ⟨t, σ, n⟩
def killT (ks : List Nat) : St → St
 | ⟨t, σ, n⟩ => killSites ks ⟨delAll ks t, σ, n⟩
theorem delAll_nil : ∀ t : List (Nat × V), delAll [] t = t
 | [] => rfl
 | p :: r => by
  simp only [delAll, List.elem_nil, cond_false]
  rw [delAll_nil r]
theorem delAll_cons (d : Nat) (r : List Nat) : ∀ t : List (Nat × V), delAll (d :: r) t = delAll r (del d t)
 | [] => rfl
 | p :: t => by
  simp only [delAll, del]
  have e : List.elem p.1 (d :: r) = (Nat.beq d p.1 || List.elem p.1 r) := by
   rw [List.elem_cons]
   congr 1
   cases h : Nat.beq d p.1 with
   | true => have := Nat.eq_of_beq_eq_true h; subst this; simp
   | false => have := Nat.ne_of_beq_eq_false h; simp; exact fun h => this h.symm
  rw [e]
  cases h : Nat.beq d p.1 with
  | true => simp only [Bool.true_or, cond_true]; exact delAll_cons d r t
  | false =>
   simp only [Bool.false_or, cond_false, delAll]
   rw [delAll_cons d r t]
theorem delAll_map (ks : List Nat) (f : V → V) : ∀ t : List (Nat × V), delAll ks (t.map fun p => (p.1, f p.2)) = (delAll ks t).map fun p => (p.1, f p.2)
 | [] => rfl
 | p :: t => by
  simp only [List.map_cons, delAll]
  cases ks.elem p.1 with
  | true => exact delAll_map ks f t
  | false => simp only [cond_false, List.map_cons, delAll_map ks f t]
theorem killT_eq : ∀ (ks : List Nat) (st : St), killT ks st = killAll ks st
 | [], ⟨t, σ, n⟩ => by simp only [killT, killSites, killAll, delAll_nil]
 | d :: r, ⟨t, σ, n⟩ => by
  simp only [killT, killSites, killAll, killF, delAll_cons]
  cases Nat.blt d n with
  | false => simp only [cond_false]; rw [← killT_eq r]; rfl
  | true =>
   simp only [cond_true]
   cases look d σ with
   | none => simp only; rw [← killT_eq r]; rfl
   | some y =>
    simp only
    rw [← killT_eq r]
    simp only [killRefs, killT, delAll_map]
theorem opsE_append (ops : Array Oper) (anns : List (Nat × OAnn)) : ∀ (a b : List Oper) (i : Nat) (st : St), opsE P callH ops anns i (a ++ b) st = (opsE P callH ops anns i a st).bind (opsE P callH ops anns (i + a.length) b)
 | [], b, i, st => rfl
 | o :: a, b, i, st => by
  simp only [List.cons_append, opsE, List.length_cons]
  cases wantedV ops st.t o with
  | none => rfl
  | some w =>
   simp only [Option.bind_some]
   have e : i + (a.length + 1) = i + 1 + a.length := by omega
   rw [e]
   cases w with
   | true =>
    simp only [cond_true]
    cases stepOp P callH (annOf anns i) o st with
    | none => rfl
    | some s => simp only [Option.bind_some]; exact opsE_append ops anns a b (i + 1) s
   | false =>
    simp only [cond_false]
    exact opsE_append ops anns a b (i + 1) _
/-- The operations from the i-th on, and what is no more spoken of behind them. -/
def reg (P : Program) (callH : CallH) (ops : Array Oper) (anns : List (Nat × OAnn)) (ks : List Nat) (i : Nat) (st : St) : Option St :=
 (opsE P callH ops anns i (ops.toList.drop i) st).map (killAll ks)
theorem regionE_reg {ks : List Nat} {anns : List (Nat × OAnn)} {ops : Array Oper} {st : St} : regionE P callH ⟨ks, anns⟩ ops false st = reg P callH ops anns ks 0 st := rfl
theorem drop_split {ops : Array Oper} {i m j : Nat} (hj : i + m = j) (hs : j ≤ ops.size) : ops.toList.drop i = (ops.toList.drop i).take m ++ ops.toList.drop j ∧ ((ops.toList.drop i).take m).length = m := by
 subst hj
 refine ⟨?_, by simp; omega⟩
 rw [← List.drop_drop]
 exact (List.take_append_drop m _).symm
theorem reg_adv {ops : Array Oper} {anns : List (Nat × OAnn)} {ks : List Nat} {i m j : Nat} {st st' : St} (h : opsF P callH ops anns i ((ops.toList.drop i).take m) st = some st') (hj : i + m = j) (hs : Nat.ble j ops.size = true) : reg P callH ops anns ks i st = reg P callH ops anns ks j st' := by
 unfold reg
 obtain ⟨e1, e2⟩ := drop_split hj (Nat.le_of_ble_eq_true hs)
 rw [opsF_eq] at h
 rw [e1, opsE_append, h, e2, hj]
 rfl
theorem bind_adv {ops : Array Oper} {anns : List (Nat × OAnn)} {ks : List Nat} {i m j : Nat} {X : Option St} {st' : St} (h : (X.bind fun s => forceSt s (opsF P callH ops anns i ((ops.toList.drop i).take m))) = some st') (hj : i + m = j) (hs : Nat.ble j ops.size = true) :
  X.bind (reg P callH ops anns ks i) = reg P callH ops anns ks j st' := by
 cases X with
 | none => cases h
 | some s =>
  simp only [Option.bind_some, forceSt_eq] at h ⊢
  exact reg_adv h hj hs
theorem reg_end {ops : Array Oper} {anns : List (Nat × OAnn)} {ks : List Nat} {i : Nat} {st st' : St} (h : (opsF P callH ops anns i (ops.toList.drop i) st).map (killT ks) = some st') : reg P callH ops anns ks i st = some st' := by
 rw [opsF_eq, show killT ks = killAll ks from funext (killT_eq ks)] at h
 exact h
theorem bind_end {ops : Array Oper} {anns : List (Nat × OAnn)} {ks : List Nat} {i : Nat} {X : Option St} {st' : St} (h : (X.bind fun s => forceSt s (opsF P callH ops anns i (ops.toList.drop i))).map (killT ks) = some st') : X.bind (reg P callH ops anns ks i) = some st' := by
 cases X with
 | none => cases h
 | some s =>
  simp only [Option.bind_some, forceSt_eq] at h ⊢
  exact reg_end h
theorem reg_pure {ops : Array Oper} {anns : List (Nat × OAnn)} {ks : List Nat} {i : Nat} {st : St} {o : Oper} {r : List Oper} {x : Option α} {w : α → V} (ho : ops.toList.drop i = o :: r) (hr : ops.toList.drop (i + 1) = r) (hw : wantedV ops st.t o = some true)
  (hp : (isPure (annOf anns i) o && !isAlloc o) = true) (hv : pureOp P callH st.σ (opd P st.t []) o = x.map w) :
  reg P callH ops anns ks i st = x.bind fun a => (finish (annOf anns i) o.dst (w a) st).bind (reg P callH ops anns ks (i + 1)) := by
 unfold reg
 rw [ho]
 simp only [opsE, hw, Option.bind_some, cond_true, stepOp, hp, hv]
 cases x with
 | none => rfl
 | some a =>
  simp only [Option.map_some, Option.bind_some]
  cases finish (annOf anns i) o.dst (w a) st with
  | none => rfl
  | some st' => simp only [Option.bind_some, reg, hr]
theorem reg_eff {ops : Array Oper} {anns : List (Nat × OAnn)} {ks : List Nat} {i : Nat} {st : St} {o : Oper} {r : List Oper} {x : Option α} {w : α → V × St} (ho : ops.toList.drop i = o :: r) (hr : ops.toList.drop (i + 1) = r) (hw : wantedV ops st.t o = some true)
  (hp : (isPure (annOf anns i) o && !isAlloc o) = false) (hv : effOp P callH (annOf anns i) st o = x.map w) :
  reg P callH ops anns ks i st = x.bind fun a => (finish (annOf anns i) o.dst (w a).1 (w a).2).bind (reg P callH ops anns ks (i + 1)) := by
 unfold reg
 rw [ho]
 simp only [opsE, hw, Option.bind_some, cond_true, stepOp, hp, cond_false, hv]
 cases x with
 | none => rfl
 | some a =>
  simp only [Option.map_some, Option.bind_some]
  cases finish (annOf anns i) o.dst (w a).1 (w a).2 with
  | none => rfl
  | some st' => simp only [Option.bind_some, reg, hr]
def prefixF (P : Program) (callH : CallH) (ops : Array Oper) (anns : List (Nat × OAnn)) (σ : List (Nat × Site)) (n : Nat) : Nat → List Oper → List (Nat × V) → Option (List (Nat × V))
 | _, [], t => some t
 | i, o :: r, t => (wantedV ops t o).bind fun b => match o.dst with
  | none => none
  | some d => bif Nat.blt d n then (bif b then (pureOp P callH σ (opd P t []) o).bind fun v => forceT (put d (fit (annOf anns i).keep v) t) (prefixF P callH ops anns σ n (i + 1) r)
   else forceT (put d (.tup []) t) (prefixF P callH ops anns σ n (i + 1) r)) else none
theorem prefixF_eq (ops : Array Oper) (anns : List (Nat × OAnn)) (σ : List (Nat × Site)) (n : Nat) : ∀ (r : List Oper) (i : Nat) (t : List (Nat × V)), prefixF P callH ops anns σ n i r t = prefixE P callH ops anns σ n i r t
 | [], i, t => rfl
 | o :: r, i, t => by
  simp only [prefixF, prefixE, forceT_eq, prefixF_eq ops anns σ n r]
  cases wantedV ops t o with
  | none => rfl
  | some b => cases o.dst <;> rfl
theorem prefixE_append (ops : Array Oper) (anns : List (Nat × OAnn)) (σ : List (Nat × Site)) (n : Nat) : ∀ (a b : List Oper) (i : Nat) (t : List (Nat × V)), prefixE P callH ops anns σ n i (a ++ b) t = (prefixE P callH ops anns σ n i a t).bind (prefixE P callH ops anns σ n (i + a.length) b)
 | [], b, i, t => rfl
 | o :: a, b, i, t => by
  simp only [List.cons_append, prefixE, List.length_cons]
  cases wantedV ops t o with
  | none => rfl
  | some w =>
   simp only [Option.bind_some]
   have e : i + (a.length + 1) = i + 1 + a.length := by omega
   rw [e]
   cases o.dst with
   | none => rfl
   | some d =>
    simp only
    cases Nat.blt d n with
    | false => rfl
    | true =>
     cases w with
     | true =>
      simp only [cond_true]
      cases pureOp P callH σ (opd P t []) o with
      | none => rfl
      | some v => simp only [Option.bind_some]; exact prefixE_append ops anns σ n a b (i + 1) _
     | false =>
      simp only [cond_false, cond_true]
      exact prefixE_append ops anns σ n a b (i + 1) _
/-- The same for the part of a region that has no order. -/
def regp (P : Program) (callH : CallH) (ops : Array Oper) (anns : List (Nat × OAnn)) (ks : List Nat) (p : Nat) (dk : Bool) (σ : List (Nat × Site)) (n : Nat) (i : Nat) (t : List (Nat × V)) : Option St :=
 (prefixE P callH ops anns σ n i ((ops.toList.take p).drop i) t).bind fun t => (install ((ops.toList.take p).filterMap (·.dst)) ⟨t, σ, n⟩).bind fun s => bif (dk && ghostOk P ops p (ghostL anns)) || ((ghostL anns).isEmpty && lateOk P ops anns p t s.t) then (ghosts P callH ops anns (ghostL anns) s).bind (reg P callH ops anns ks p) else none
theorem unsetAll_eq : ∀ (l : List Oper) (st : St), unsetAll l st = killAll (l.filterMap (·.dst)) st
 | [], st => rfl
 | o :: r, st => by
  simp only [unsetAll]
  cases hd : o.dst with
  | none =>
   simp only [List.filterMap_cons, hd]
   exact unsetAll_eq r st
  | some d =>
   simp only [List.filterMap_cons, hd]
   obtain ⟨t, σ, n⟩ := st
   simp only [killAll]
   rw [show killF d t σ n = killOne d ⟨t, σ, n⟩ from killF_eq d ⟨t, σ, n⟩]
   exact unsetAll_eq r _
theorem regionE_regp {ks : List Nat} {anns : List (Nat × OAnn)} {ops : Array Oper} {st : St} {p : Nat} {dk : Bool} {t : List (Nat × V)} {σ : List (Nat × Site)} {n : Nat} (hna : hasA anns = false) (hp : prefixLen anns 0 ops.toList = p) (hd : drawOk ops p = dk) (hu : killT ((ops.toList.take p).filterMap (·.dst)) st = ⟨t, σ, n⟩) :
  regionE P callH ⟨ks, anns⟩ ops true st = regp P callH ops anns ks p dk σ n 0 t := by
 subst hp
 rw [killT_eq, ← unsetAll_eq] at hu
 unfold regionE regp reg
 simp only [cond_true, hna, cond_false, hd, List.drop_zero, hu]
 cases prefixE P callH ops anns σ n 0 (ops.toList.take (prefixLen anns 0 ops.toList)) t with
 | none => rfl
 | some t =>
  simp only [Option.bind_some]
  cases install ((ops.toList.take (prefixLen anns 0 ops.toList)).filterMap (·.dst)) ⟨t, σ, n⟩ with
  | none => rfl
  | some s2 =>
   simp only [Option.bind_some]
   cases ((dk && ghostOk P ops (prefixLen anns 0 ops.toList) (ghostL anns)) || ((ghostL anns).isEmpty && lateOk P ops anns (prefixLen anns 0 ops.toList) t s2.t)) with
   | false => rfl
   | true =>
    simp only [cond_true]
    cases ghosts P callH ops anns (ghostL anns) s2 <;> rfl
theorem dropp_split {ops : Array Oper} {p i m j : Nat} (hj : i + m = j) (hs : j ≤ p) (hp : p ≤ ops.size) : (ops.toList.take p).drop i = ((ops.toList.take p).drop i).take m ++ (ops.toList.take p).drop j ∧ (((ops.toList.take p).drop i).take m).length = m := by
 subst hj
 refine ⟨?_, by simp; omega⟩
 rw [← List.drop_drop]
 exact (List.take_append_drop m _).symm
section
variable {ops : Array Oper} {anns : List (Nat × OAnn)} {ks : List Nat} {p n i m j : Nat} {dk : Bool} {σ : List (Nat × Site)} {t t' : List (Nat × V)} {st' : St}
theorem regp_adv (h : prefixF P callH ops anns σ n i (((ops.toList.take p).drop i).take m) t = some t') (hj : i + m = j) (hs : (Nat.ble j p && Nat.ble p ops.size) = true) : regp P callH ops anns ks p dk σ n i t = regp P callH ops anns ks p dk σ n j t' := by
 simp only [Bool.and_eq_true] at hs
 obtain ⟨e1, e2⟩ := dropp_split hj (Nat.le_of_ble_eq_true hs.1) (Nat.le_of_ble_eq_true hs.2)
 unfold regp
 rw [prefixF_eq] at h
 rw [e1, prefixE_append, h, e2, hj]
 rfl
theorem putp_adv (h : forceT t (prefixF P callH ops anns σ n i (((ops.toList.take p).drop i).take m)) = some t') (hj : i + m = j) (hs : (Nat.ble j p && Nat.ble p ops.size) = true) : regp P callH ops anns ks p dk σ n i t = regp P callH ops anns ks p dk σ n j t' := by
 rw [forceT_eq] at h
 exact regp_adv h hj hs
theorem regp_end (h : (forceT t fun t => (prefixF P callH ops anns σ n i ((ops.toList.take p).drop i) t).bind fun t => (install ((ops.toList.take p).filterMap (·.dst)) ⟨t, σ, n⟩).bind fun s => bif (dk && ghostOk P ops p (ghostL anns)) || ((ghostL anns).isEmpty && lateOk P ops anns p t s.t) then ((ghosts P callH ops anns (ghostL anns) s).bind fun s => forceSt s (opsF P callH ops anns p (ops.toList.drop p))).map (killT ks) else none) = some st') : regp P callH ops anns ks p dk σ n i t = some st' := by
 rw [forceT_eq] at h
 unfold regp
 rw [← h, prefixF_eq, show killT ks = killAll ks from funext (killT_eq ks)]
 simp only [forceSt_eq]
 cases prefixE P callH ops anns σ n i ((ops.toList.take p).drop i) t with
 | none => rfl
 | some t =>
  simp only [Option.bind_some]
  cases install ((ops.toList.take p).filterMap (·.dst)) ⟨t, σ, n⟩ with
  | none => rfl
  | some s =>
   simp only [Option.bind_some]
   cases ((dk && ghostOk P ops p (ghostL anns)) || ((ghostL anns).isEmpty && lateOk P ops anns p t s.t)) with
   | false => rfl
   | true =>
    simp only [cond_true]
    cases ghosts P callH ops anns (ghostL anns) s with
    | none => rfl
    | some s => simp only [Option.bind_some, opsF_eq]; rfl
theorem regp_reg (h : (forceT t fun t => (prefixF P callH ops anns σ n i ((ops.toList.take p).drop i) t).bind fun t => (install ((ops.toList.take p).filterMap (·.dst)) ⟨t, σ, n⟩).bind fun s => bif (dk && ghostOk P ops p (ghostL anns)) || ((ghostL anns).isEmpty && lateOk P ops anns p t s.t) then (ghosts P callH ops anns (ghostL anns) s).bind fun s => forceSt s (opsF P callH ops anns p ((ops.toList.drop p).take m)) else none) = some st') (hj : p + m = j) (hs : Nat.ble j ops.size = true) :
  regp P callH ops anns ks p dk σ n i t = reg P callH ops anns ks j st' := by
 rw [forceT_eq, prefixF_eq] at h
 unfold regp
 cases hx : prefixE P callH ops anns σ n i ((ops.toList.take p).drop i) t with
 | none => rw [hx] at h; cases h
 | some t2 =>
  rw [hx] at h
  simp only [Option.bind_some] at h ⊢
  cases hy : install ((ops.toList.take p).filterMap (·.dst)) ⟨t2, σ, n⟩ with
  | none => rw [hy] at h; cases h
  | some s =>
   rw [hy] at h
   simp only [Option.bind_some] at h ⊢
   cases hb : ((dk && ghostOk P ops p (ghostL anns)) || ((ghostL anns).isEmpty && lateOk P ops anns p t2 s.t)) with
   | false => rw [hb] at h; cases h
   | true =>
    rw [hb] at h
    simp only [cond_true] at h ⊢
    cases hg : ghosts P callH ops anns (ghostL anns) s with
    | none => rw [hg] at h; cases h
    | some s2 =>
     rw [hg] at h
     simp only [Option.bind_some, forceSt_eq] at h ⊢
     exact reg_adv h hj hs
theorem regp_pure {o : Oper} {r : List Oper} {d : Nat} {x : Option α} {w : α → V} (ho : (ops.toList.take p).drop i = o :: r) (hr : (ops.toList.take p).drop (i + 1) = r)
  (hw : wantedV ops t o = some true) (hd : o.dst = some d) (hn : Nat.blt d n = true) (hv : pureOp P callH σ (opd P t []) o = x.map w) :
  regp P callH ops anns ks p dk σ n i t = x.bind fun a => regp P callH ops anns ks p dk σ n (i + 1) (put d (fit (annOf anns i).keep (w a)) t) := by
 unfold regp
 rw [ho]
 simp only [prefixE, hw, Option.bind_some, hd, hn, cond_true, hv]
 cases x with
 | none => rfl
 | some a => simp only [Option.map_some, Option.bind_some, hr]
end
def execK (P : Program) (callH : CallH) (anns : List (Nat × RAnn)) (n : Nat) (c : Code) (st : St) (K : X × St → Option β) : Option β := (exec P callH anns n c st).bind K
def blkK (P : Program) (callH : CallH) (anns : List (Nat × RAnn)) (n : Nat) (id : Nat) (rest : Code) (K : X × St → Option β) : X × St → Option β
 | (.normal, s) => execK P callH anns n rest s K
 | (.exit i, s) => bif Nat.beq i id then execK P callH anns n rest s K else K (.exit i, s)
 | (.ret, s) => K (.ret, s)
def loopK (P : Program) (callH : CallH) (anns : List (Nat × RAnn)) (n : Nat) (body : Code) (m : Nat) (K : X × St → Option β) : X × St → Option β
 | (.normal, s) => (iter (exec P callH anns n body) m s).bind K
 | (.exit i, s) => K (.exit i, s)
 | (.ret, s) => K (.ret, s)
variable {anns : List (Nat × RAnn)} {n : Nat} {st : St} {K : X × St → Option β}
theorem k_assoc {a b c : Code} : execK P callH anns n (.seq (.seq a b) c) st K = execK P callH anns n (.seq a (.seq b c)) st K := by
 simp only [execK, exec]
 cases exec P callH anns n a st with
 | none => rfl
 | some r => obtain ⟨x, s⟩ := r; cases x <;> rfl
theorem k_region {id : Nat} {ops : Array Oper} {dr : Bool} {rest : Code} {ann : RAnn} {x : Option α} {g : α → St} (ha : (look id anns).getD {} = ann) (h : regionE P callH ann ops dr st = x.map g) :
  execK P callH anns n (.seq (.region id ops dr) rest) st K = x.bind fun o => execK P callH anns n rest (g o) K := by
 simp only [execK, exec, ha, h]
 cases x <;> rfl
theorem k_region0 {id : Nat} {ops : Array Oper} {dr : Bool} {rest : Code} {ann : RAnn} {st' : St} (ha : (look id anns).getD {} = ann) (h : regionE P callH ann ops dr st = some st') :
  execK P callH anns n (.seq (.region id ops dr) rest) st K = execK P callH anns n rest st' K := by
 simp only [execK, exec, ha, h]
 rfl
theorem k_lregion {id : Nat} {ops : Array Oper} {dr : Bool} {ann : RAnn} {x : Option α} {g : α → St} (ha : (look id anns).getD {} = ann) (h : regionE P callH ann ops dr st = x.map g) :
  execK P callH anns n (.region id ops dr) st K = x.bind fun o => K (.normal, g o) := by
 simp only [execK, exec, ha, h]
 cases x <;> rfl
theorem k_lregion0 {id : Nat} {ops : Array Oper} {dr : Bool} {ann : RAnn} {st' : St} (ha : (look id anns).getD {} = ann) (h : regionE P callH ann ops dr st = some st') :
  execK P callH anns n (.region id ops dr) st K = K (.normal, st') := by
 simp only [execK, exec, ha, h]
 rfl
theorem k_skip {rest : Code} : execK P callH anns n (.seq .skip rest) st K = execK P callH anns n rest st K := rfl
theorem k_lskip : execK P callH anns n .skip st K = K (.normal, st) := rfl
theorem k_ret {rest : Code} : execK P callH anns n (.seq .ret rest) st K = K (.ret, st) := rfl
theorem k_lret : execK P callH anns n .ret st K = K (.ret, st) := rfl
theorem k_exit {i : Nat} {rest : Code} : execK P callH anns n (.seq (.exit i) rest) st K = K (.exit i, st) := rfl
theorem k_cond {c : Operand} {a b rest : Code} {t : Bool} {st' : St} (h : opd P st.t [] 0 c = some (.bool t)) (hk : killCond anns c st = st') :
  execK P callH anns n (.seq (.cond c a b) rest) st K = bif t then execK P callH anns n (.seq a rest) st' K else execK P callH anns n (.seq b rest) st' K := by
 simp only [execK, exec, h, Option.bind_some, hk]
 cases t <;> rfl
theorem k_lcond {c : Operand} {a b : Code} {t : Bool} {st' : St} (h : opd P st.t [] 0 c = some (.bool t)) (hk : killCond anns c st = st') :
  execK P callH anns n (.cond c a b) st K = bif t then execK P callH anns n a st' K else execK P callH anns n b st' K := by
 simp only [execK, exec, h, Option.bind_some, hk]
 cases t <;> rfl
theorem k_blockD {id : Nat} {c rest : Code} {st' : St} (h : dullBlk anns id st = st') : execK P callH anns n (.seq (.block id c) rest) st K = execK P callH anns n c st' (blkK P callH anns n id rest K) := by
 simp only [execK, exec, h]
 cases exec P callH anns n c st' with
 | none => rfl
 | some r =>
  obtain ⟨x, s⟩ := r
  cases x with
  | normal => rfl
  | ret => rfl
  | exit i =>
   simp only [Option.map_some, Option.bind_some, blkK]
   cases Nat.beq i id <;> rfl
theorem dull_none {id : Nat} (h : (look (200000 + id) anns).isSome = false) : dullBlk anns id st = st := by
 unfold dullBlk
 cases hl : look (200000 + id) anns with
 | none => rfl
 | some r => rw [hl] at h; cases h
theorem k_block {id : Nat} {c rest : Code} (h : (look (200000 + id) anns).isSome = false) : execK P callH anns n (.seq (.block id c) rest) st K = execK P callH anns n c st (blkK P callH anns n id rest K) := k_blockD (dull_none h)
theorem k_loop {body : Code} : execK P callH anns n (.loop body) st K = (iter (exec P callH anns n body) n st).bind K := rfl
theorem k_round {body : Code} {m : Nat} : (iter (exec P callH anns n body) (m + 1) st).bind K = execK P callH anns n body st (loopK P callH anns n body m K) := by
 simp only [iter, execK]
 cases exec P callH anns n body st with
 | none => rfl
 | some r => obtain ⟨x, s⟩ := r; cases x <;> rfl
theorem blk_normal {id : Nat} {rest : Code} : blkK P callH anns n id rest K (.normal, st) = execK P callH anns n rest st K := rfl
theorem blk_ret {id : Nat} {rest : Code} : blkK P callH anns n id rest K (.ret, st) = K (.ret, st) := rfl
theorem blk_exit {id : Nat} {rest : Code} : blkK P callH anns n id rest K (.exit id, st) = execK P callH anns n rest st K := by simp [blkK]
theorem loop_normal {body : Code} {m : Nat} : loopK P callH anns n body m K (.normal, st) = (iter (exec P callH anns n body) m st).bind K := rfl
theorem loop_ret {body : Code} {m : Nat} : loopK P callH anns n body m K (.ret, st) = K (.ret, st) := rfl
theorem loop_exit {body : Code} {m i : Nat} : loopK P callH anns n body m K (.exit i, st) = K (.exit i, st) := rfl
/-- At a function's end. -/
def endK (P : Program) (n : Nat) (args : List V) (res : List (Nat × Nat)) (rvs : List ResultVar) : X × St → Option (V × List V)
 | (.exit _, _) => none
 | (.normal, s) => (outsE n 0 args s).bind fun outs => (resultsE P res 0 rvs outs.2).map fun x => (tupOf x.1, outs.1)
 | (.ret, s) => (outsE n 0 args s).bind fun outs => (resultsE P res 0 rvs outs.2).map fun x => (tupOf x.1, outs.1)
theorem evF_succ {an : FuncId → FAnn} {ext : ExtH} {k : Nat} {f : FuncId} {args : List V} {fn : Func} {c : Code} {N : Nat} {regs : List (Nat × RAnn)} {kl : List Nat} {res : List (Nat × Nat)} (hx : ext f args = none) (hf : P.funcs[f]? = some fn) (hb : fn.body = some c) (hn : fn.name ≠ "runtime.NumGoroutine")
  (ha : args.all V.argOk = true) (hr : an f = ⟨regs, kl, res⟩) (hN : max fn.ntmps args.length = N) :
  evF P an ext (k + 1) f args = execK P (evF P an ext k) regs k c (initSt N 0 args) (endK P N args res fn.results.toList) := by
 simp only [evF, hx, hf, hb, execK, hr, hN]
 rw [if_pos ⟨hn, ha⟩]
 cases exec P (evF P an ext k) regs k c (initSt N 0 args) with
 | none => rfl
 | some r => obtain ⟨x, s⟩ := r; cases x <;> rfl
theorem evF_ext {P : Program} {an : FuncId → FAnn} {ext : ExtH} {k : Nat} {f : FuncId} {args : List V} {r : Option (V × List V)} (h : ext f args = some r) : evF P an ext (k + 1) f args = r := by
 simp only [evF, h]
/-- The numbers of a list of numbers. -/
def intsOf : List V → Option (List Int)
 | [] => some []
 | .int .i64 n :: r => (intsOf r).map (n :: ·)
 | _ => none
theorem intsOf_map : ∀ l : List Int, intsOf (l.map (V.int .i64)) = some l
 | [] => rfl
 | n :: l => by simp only [List.map_cons, intsOf, intsOf_map l, Option.map_some]
theorem intsOf_eq : ∀ {es : List V} {l : List Int}, intsOf es = some l → es = l.map (V.int .i64)
 | [], l, h => by obtain rfl := Option.some.inj h; rfl
 | .int k n :: r, l, h => by
  by_cases hk : k = .i64
  ·subst hk
   simp only [intsOf] at h
   obtain ⟨m, hr, rfl⟩ := map_some h
   rw [intsOf_eq hr]
   rfl
  ·exfalso
   cases k <;> first | exact hk rfl | (simp [intsOf] at h)
 | .bool _ :: _, _, h => by simp [intsOf] at h
 | .str _ :: _, _, h => by simp [intsOf] at h
 | .sl .. :: _, _, h => by simp [intsOf] at h
 | .nilp :: _, _, h => by simp [intsOf] at h
 | .nilfn :: _, _, h => by simp [intsOf] at h
 | .nilif :: _, _, h => by simp [intsOf] at h
 | .ifc .. :: _, _, h => by simp [intsOf] at h
 | .aref .. :: _, _, h => by simp [intsOf] at h
 | .agg _ :: _, _, h => by simp [intsOf] at h
 | .ptr .. :: _, _, h => by simp [intsOf] at h
 | .pro _ :: _, _, h => by simp [intsOf] at h
 | .fn .. :: _, _, h => by simp [intsOf] at h
 | .tup _ :: _, _, h => by simp [intsOf] at h
 | .io _ :: _, _, h => by simp [intsOf] at h
 | .undef :: _, _, h => by simp [intsOf] at h
/-- slices.Reverse at []int; of no longer lists than a number can tell. -/
def revInt (l : List Int) : Option (List Int) := bif Nat.ble l.length 9223372036854775807 then some l.reverse else none
def extReverseInt : List V → Option (V × List V)
 | [.sl 2 1 es] => (intsOf es).bind fun l => (revInt l).map fun r => (.tup [], [.sl 2 1 (r.map (V.int .i64))])
 | _ => none
theorem extReverseInt_map (l : List Int) : extReverseInt [.sl 2 1 (l.map (V.int .i64))] = (revInt l).map fun r => (.tup [], [.sl 2 1 (r.map (V.int .i64))]) := by
 show (intsOf _).bind _ = _
 rw [intsOf_map]; rfl
def idx (l : List α) (i : Int) : Option α := if 0 ≤ i then l[i.toNat]? else none
theorem indexAddr_map {e : α → V} {σ : List (Nat × Site)} {t et : TypeId} {o sz : Nat} {k : IntKind} {l : List α} {i : Int} (hu : P.underlying t = some (.slice et)) (hs : P.cellsOf et = sz) (h0 : sz ≠ 0) :
  indexAddrV P σ t (.sl o sz (l.map e)) (.int k i) = (idx l i).map fun x => .pro (e x) := by
 unfold indexAddrV idx
 rw [hu]
 simp only
 rw [if_pos ⟨hs.symm, h0⟩, List.getElem?_map]
 split
 ·cases l[i.toNat]? <;> rfl
 ·rfl
def idxS (s : List UInt8) (i : Int) : Option Int := if 0 ≤ i then (s[i.toNat]?).map fun b => (b.toNat : Int) else none
theorem indexV_str {t : TypeId} {s : List UInt8} {k : IntKind} {i : Int} (hu : P.underlying t = some .string) : indexV P t (.str s) (.int k i) = (idxS s i).map (V.int .u8) := by
 unfold indexV idxS
 rw [hu]
 simp only
 split
 ·cases s[i.toNat]? <;> rfl
 ·rfl
def cut (l : List α) (lo hi : Int) : Option (List α) := if 0 ≤ lo ∧ lo ≤ hi ∧ hi ≤ (l.length : Int) then some ((l.take hi.toNat).drop lo.toNat) else none
theorem sliceV_gen {e : α → V} {t et : TypeId} {o sz : Nat} {l : List α} {a b : Option V} {lo hi : Int} (hu : P.underlying t = some (.slice et)) (hs : P.cellsOf et = sz) (h0 : sz ≠ 0) (ha : bound 0 a = some lo) (hb : bound (l.map e).length b = some hi) :
  sliceV P t (.sl o sz (l.map e)) a b none = (cut l lo hi).map fun m => .sl 0 sz (m.map e) := by
 unfold sliceV cut
 simp only [Option.isSome_none, Bool.false_eq_true, if_false, hu]
 rw [if_pos ⟨hs.symm, by rw [hs]; exact h0⟩, ha, Option.bind_some, hb, Option.bind_some]
 simp only [List.length_map]
 split
 ·simp only [Option.map_some, List.map_drop, List.map_take]
 ·rfl
theorem sliceV_str {t : TypeId} {s : List UInt8} {a b : Option V} {lo hi : Int} (hu : P.underlying t = some .string) (ha : bound 0 a = some lo) (hb : bound s.length b = some hi) :
  sliceV P t (.str s) a b none = (cut s lo hi).map V.str := by
 unfold sliceV cut
 simp only [Option.isSome_none, Bool.false_eq_true, if_false, hu, ha, Option.bind_some, hb]
 split <;> rfl
def cat (a b : List UInt8) : Option (List UInt8) := if a.length + b.length ≤ maxList then some (a ++ b) else none
theorem strAdd {a b : List UInt8} : strBin .add a b = (cat a b).map V.str := by
 show (if a.length + b.length ≤ maxList then some (V.str (a ++ b)) else none) = _
 unfold cat
 split <;> rfl
theorem call_pure {f : FuncId} {ys : List V} {l : Bool} {x : Option α} {w : α → V} (h : callH f ys = x.map fun a => (w a, [])) (hp : l = false ∨ ∀ a, plain (w a) = true) :
  ((callH f ys).bind fun r => if r.2.isEmpty && (!l || plain r.1) then some r.1 else none) = x.map w := by
 rw [h]
 cases x with
 | none => rfl
 | some a =>
  simp only [Option.map_some, Option.bind_some, List.isEmpty_nil, Bool.true_and]
  rcases hp with rfl | hp
  ·rfl
  ·rw [hp a]; simp
theorem call_fn {σ : List (Nat × Site)} {args ys : List V} {l : Bool} {f : FuncId} {x : Option α} {w : α → V} (ha : argsPure σ args = some (ys, l)) (h : callH f ys = x.map fun a => (w a, [])) (hp : l = false ∨ ∀ a, plain (w a) = true) :
  ((argsPure σ args).bind fun xs => (callH f xs.1).bind fun r => if r.2.isEmpty && (!xs.2 || plain r.1) then some r.1 else none) = x.map w := by
 rw [ha]
 exact call_pure h hp
theorem some_bind {a : α} {f : α → Option β} : (some a).bind f = f a := rfl
theorem bind_self {x : Option α} {K : α → Option β} {g : α → β} (h : ∀ a, K a = some (g a)) : x.bind K = x.map g := by
 cases x with
 | none => rfl
 | some a => exact h a
theorem len_map {e : α → V} {t et : TypeId} {o sz : Nat} {l : List α} (hu : P.underlying t = some (.slice et)) : lenV P t (.sl o sz (l.map e)) = (some ()).map fun _ => .int .i64 (l.length : Int) := by
 unfold lenV
 rw [hu]
 simp
def app (l m : List α) : Option (List α) := if l.length + m.length ≤ maxList then some (l ++ m) else none
theorem append_own {st : St} {tk : List Nat} {s x : Operand} {T T2 : TypeId} {o sz : Nat} {l m : List α} {e : α → V} (ha : opd P st.t tk T s = some (.sl o sz (l.map e))) (hb : opd P st.t [] T2 x = some (.sl 0 sz (m.map e))) (hty : appendTy P T T2 = true)
  (hsl : isSliceT P T2 = true) (hsz : elemSz P T = sz) (ho : o = 1 ∨ o = 2) :
  appendE P st tk ⟨.builtin .append, #[s, x], #[T, T2]⟩ = (app l m).map fun v => (.sl o sz (v.map e), { st with t := AE.untake tk st.t }) := by
 unfold appendE app
 simp only [ha, hb, Option.bind_some, hty, cond_true, hsl, srcE, hsz, true_or, if_true, List.length_map]
 by_cases h : l.length + m.length ≤ maxList
 ·rw [if_pos ⟨ho, trivial, h⟩, if_pos h]
  simp
 ·rw [if_neg (fun hh => h hh.2.2), if_neg h]
  rfl
section
variable {σ : List (Nat × Site)} {ρ : TypeId → Operand → Option V} {o : Oper}
theorem p_index {e : α → V} {t et : TypeId} {q sz : Nat} {k : IntKind} {l : List α} {n : Int} {x i : Operand} (hop : o.op = .indexAddr t x i) (hx : ρ t x = some (.sl q sz (l.map e))) (hi : ρ 0 i = some (.int k n)) (hu : P.underlying t = some (.slice et)) (hs : P.cellsOf et = sz) (h0 : sz ≠ 0) :
  pureOp P callH σ ρ o = (idx l n).map fun x => .pro (e x) := by
 simp only [pureOp, hop, hx, hi, Option.bind_some]
 exact indexAddr_map hu hs h0
theorem p_indexS {t : TypeId} {k : IntKind} {s : List UInt8} {n : Int} {x i : Operand} (hop : o.op = .index t x i) (hx : ρ t x = some (.str s)) (hi : ρ 0 i = some (.int k n)) (hu : P.underlying t = some .string) :
  pureOp P callH σ ρ o = (idxS s n).map (V.int .u8) := by
 simp only [pureOp, hop, hx, hi, Option.bind_some]
 exact indexV_str hu
theorem p_len {e : α → V} {t et : TypeId} {q sz : Nat} {l : List α} {c : Call} {x : Operand} (hop : o.op = .call c) (hc : c.callee = .builtin .len) (ha : c.args.toList = [x]) (h1 : c.argTypes.size = 1) (ht : argType c.argTypes 0 = t) (hx : ρ t x = some (.sl q sz (l.map e))) (hu : P.underlying t = some (.slice et)) :
  pureOp P callH σ ρ o = (some ()).map fun _ => .int .i64 (l.length : Int) := by
 simp only [pureOp, hop, hc, ha, h1, if_true, ht, hx, Option.bind_some]
 exact len_map hu
def optV (ρ : TypeId → Operand → Option V) : Option Operand → Option (Option V)
 | none => some none
 | some l => (ρ 0 l).map some
theorem p_cut {t : TypeId} {v : V} {x : Operand} {lo hi : Option Operand} {a b : Option V} (hop : o.op = .slice t x lo hi none) (hx : ρ t x = some v) (ha : optV ρ lo = some a) (hb : optV ρ hi = some b) : pureOp P callH σ ρ o = sliceV P t v a b none := by
 simp only [pureOp, hop, hx, Option.bind_some]
 cases lo with
 | none =>
  obtain rfl := Option.some.inj ha
  cases hi with
  | none => obtain rfl := Option.some.inj hb; rfl
  | some h =>
   obtain ⟨u, hu, rfl⟩ := map_some hb
   simp only [hu]; rfl
 | some l =>
  obtain ⟨u, hu, rfl⟩ := map_some ha
  cases hi with
  | none => obtain rfl := Option.some.inj hb; simp only [hu]; rfl
  | some h =>
   obtain ⟨u2, hu2, rfl⟩ := map_some hb
   simp only [hu, hu2]; rfl
theorem p_slice {e : α → V} {t et : TypeId} {q sz : Nat} {l : List α} {x : Operand} {lo hi : Option Operand} {a b : Option V} {m n : Int} (hop : o.op = .slice t x lo hi none) (hx : ρ t x = some (.sl q sz (l.map e)))
  (ha : optV ρ lo = some a) (hb : optV ρ hi = some b) (h1 : bound 0 a = some m) (h2 : bound (l.map e).length b = some n) (hu : P.underlying t = some (.slice et)) (hs : P.cellsOf et = sz) (h0 : sz ≠ 0) :
  pureOp P callH σ ρ o = (cut l m n).map fun m => .sl 0 sz (m.map e) := by
 rw [p_cut hop hx ha hb]
 exact sliceV_gen hu hs h0 h1 h2
theorem p_sliceS {t : TypeId} {s : List UInt8} {x : Operand} {lo hi : Option Operand} {a b : Option V} {m n : Int} (hop : o.op = .slice t x lo hi none) (hx : ρ t x = some (.str s))
  (ha : optV ρ lo = some a) (hb : optV ρ hi = some b) (h1 : bound 0 a = some m) (h2 : bound s.length b = some n) (hu : P.underlying t = some .string) :
  pureOp P callH σ ρ o = (cut s m n).map V.str := by
 rw [p_cut hop hx ha hb]
 exact sliceV_str hu h1 h2
theorem p_cat {t t2 : TypeId} {x y : Operand} {a b : List UInt8} (hop : o.op = .binOp .add t x y t2) (hx : ρ t x = some (.str a)) (hy : ρ t2 y = some (.str b)) : pureOp P callH σ ρ o = (cat a b).map V.str := by
 simp only [pureOp, hop, hx, hy, Option.bind_some]
 exact strAdd
theorem p_call {c : Call} {f : Operand} {fid : FuncId} {first caps vs ys : List V} {l : Bool} {x : Option α} {w : α → V} (hop : o.op = .call c) (hc : c.callee = .value f) (hf : ρ 0 f = some (.fn fid first caps)) (hv : opds ρ c.argTypes 0 c.args.toList = some vs)
  (ha : argsPure σ (first ++ vs ++ caps) = some (ys, l)) (h : callH fid ys = x.map fun a => (w a, [])) (hp : l = false ∨ ∀ a, plain (w a) = true) : pureOp P callH σ ρ o = x.map w := by
 simp only [pureOp, hop, hc, hf, hv, Option.bind_some]
 exact call_fn ha h hp
end
theorem p_app {st : St} {oa : OAnn} {o : Oper} {c : Call} {s x : Operand} {T T2 : TypeId} {q sz : Nat} {l m : List α} {e : α → V} (hop : o.op = .call c) (hc : c.callee = .builtin .append) (hargs : c.args.toList = [s, x]) (hts : c.argTypes.toList = [T, T2])
  (htk : Nat.blt 1 oa.tk.length = false) (ha : opd P st.t oa.tk T s = some (.sl q sz (l.map e))) (hb : opd P st.t [] T2 x = some (.sl 0 sz (m.map e))) (hty : appendTy P T T2 = true) (hsl : isSliceT P T2 = true) (hsz : elemSz P T = sz) (ho : q = 1 ∨ q = 2) :
  effOp P callH oa st o = (app l m).map fun v => (.sl q sz (v.map e), { st with t := AE.untake oa.tk st.t }) := by
 have h1 : c = ⟨.builtin .append, #[s, x], #[T, T2]⟩ := by
  cases c with
  | mk callee args argTypes =>
   simp only at hc hargs hts
   subst hc
   rw [show args = #[s, x] from by rw [← Array.toList_inj]; exact hargs, show argTypes = #[T, T2] from by rw [← Array.toList_inj]; exact hts]
 subst h1
 unfold effOp
 rw [htk]
 simp only [cond_false, hop]
 exact append_own ha hb hty hsl hsz ho
theorem bindX {x : Option α} {K1 : α → Option β} {K2 : α → Option γ} {g : γ → β} (h : ∀ a, x = some a → K1 a = (K2 a).map g) : x.bind K1 = (x.bind K2).map g := by
 cases x with
 | none => rfl
 | some a => exact h a rfl
/-- How far a list is taken. -/
def upTo (l : List α) (h : Int) : Option Nat := if 0 ≤ h ∧ h ≤ (l.length : Int) then some h.toNat else none
theorem upTo_le {l : List α} {h : Int} {n : Nat} (hh : upTo l h = some n) : n ≤ l.length := by
 unfold upTo at hh
 split at hh
 ·obtain rfl := Option.some.inj hh
  omega
 ·cases hh
section
variable {σ : List (Nat × Site)} {ρ : TypeId → Operand → Option V} {o : Oper}
theorem p_lenA {e : α → V} {t et : TypeId} {d : Nat} {l : List α} {c : Call} {x : Operand} (hop : o.op = .call c) (hc : c.callee = .builtin .len) (ha : c.args.toList = [x]) (h1 : c.argTypes.size = 1) (ht : argType c.argTypes 0 = t) (hx : ρ t x = some (.aref d 0 (l.map e).length)) (hu : P.underlying t = some (.slice et)) :
  pureOp P callH σ ρ o = (some ()).map fun _ => .int .i64 (l.length : Int) := by
 simp only [pureOp, hop, hc, ha, h1, if_true, ht, hx, Option.bind_some]
 unfold lenV
 rw [hu]
 simp
theorem p_sliceA {e : α → V} {t et : TypeId} {d : Nat} {l : List α} {k : IntKind} {h : Int} {x y : Operand} (hop : o.op = .slice t x none (some y) none) (hx : ρ t x = some (.aref d 0 (l.map e).length)) (hh : ρ 0 y = some (.int k h)) (hu : P.underlying t = some (.slice et)) (h0 : P.cellsOf et ≠ 0) :
  pureOp P callH σ ρ o = (upTo l h).map fun v => .aref d 0 v := by
 rw [p_cut (a := none) (b := some (.int k h)) hop hx rfl (by simp [optV, hh])]
 unfold sliceV upTo
 simp only [Option.isSome_none, Bool.false_eq_true, if_false, hu, bound, Option.bind_some, List.length_map]
 rw [if_pos ⟨h0, rfl⟩]
 split <;> rfl
end
theorem p_appA {st : St} {oa : OAnn} {o : Oper} {c : Call} {s x : Operand} {T T2 : TypeId} {d n sz : Nat} {l m : List α} {e : α → V} (hop : o.op = .call c) (hc : c.callee = .builtin .append) (hargs : c.args.toList = [s, x]) (hts : c.argTypes.toList = [T, T2])
  (htk : oa.tk = []) (ha : opd P st.t [] T s = some (.aref d 0 n)) (hb : opd P st.t [] T2 x = some (.sl 0 sz (m.map e))) (hty : appendTy P T T2 = true) (hsl : isSliceT P T2 = true) (hsz : elemSz P T = sz) (hs : look d st.σ = some ⟨true, sz, l.map e⟩) (hn : n ≤ l.length) (hd : d < st.n) :
  effOp P callH oa st o = (app (l.take n) m).map fun v => (.aref d 0 (v.map e).length, { killRefs d st with σ := put d ⟨true, sz, v.map e⟩ (killRefs d st).σ }) := by
 unfold effOp
 rw [htk]
 simp only [List.length_nil, show Nat.blt 1 0 = false from rfl, cond_false, hop, hc]
 unfold appendE app
 rw [hargs, hts]
 simp only [ha, hb, Option.bind_some, hty, cond_true, hsl, srcE, hsz, true_or, if_true, hs, List.length_map]
 have h1 : (l.take n).length = n := by simp; omega
 rw [h1]
 by_cases hm : n + m.length ≤ maxList
 ·rw [if_pos (by simp; exact ⟨hn, hm, hd⟩), if_pos hm]
  simp [h1]
 ·rw [if_neg (fun hh => hm hh.2.2.2.1), if_neg hm]
  rfl
theorem map_strip2 {l : List α} {e e' : α → V} (h : ∀ a, (e a).strip2 = e' a) : (l.map e).map V.strip2 = l.map e' := by
 rw [List.map_map]
 exact List.map_congr_left fun a _ => h a
/-- An array of rows whose tails may be written is lent without its rights. -/
theorem lendO {σ : List (Nat × Site)} {d sz : Nat} {l : List α} {e e' : α → V} (hst2 : ∀ a, (e a).strip2 = e' a) (hs : look d σ = some ⟨true, sz, l.map e⟩) : lend σ 4 (.aref d 0 (l.map e).length) = some (.sl 0 sz (l.map e'), true) := by
 simp only [lend, show Nat.beq 0 0 = true from rfl, cond_true, hs, Option.bind_some]
 rw [if_pos ⟨trivial, Nat.le_refl _⟩, List.take_length, map_strip2 hst2]
theorem lendA {σ : List (Nat × Site)} {d sz : Nat} {l : List α} {e : α → V} (hs : look d σ = some ⟨true, sz, l.map e⟩) (hst2 : ∀ a, (e a).strip2 = e a := by intro _; rfl) : lend σ 4 (.aref d 0 (l.map e).length) = some (.sl 0 sz (l.map e), true) := lendO hst2 hs
/-- A struct that holds an array of one's own is lent without its rights. -/
theorem lendD {σ : List (Nat × Site)} {d sz k : Nat} {l : List α} {e e' : α → V} (hst2 : ∀ a, (e a).strip2 = e' a) (hs : look d σ = some ⟨true, sz, l.map e⟩) : lend σ (k + 1) (.aref d 0 (l.map e).length) = some (.sl 0 sz (l.map e'), true) := by
 simp only [lend, show Nat.beq 0 0 = true from rfl, cond_true, hs, Option.bind_some]
 rw [if_pos ⟨trivial, Nat.le_refl _⟩, List.take_length, map_strip2 hst2]
theorem lendL_c {f : V → Option (V × Bool)} {v v' : V} {r r' : List V} {b c : Bool} (h : f v = some (v', b)) (hr : lendL f r = some (r', c)) : lendL f (v :: r) = some (v' :: r', b || c) := by
 simp only [lendL, h, hr, Option.bind_some, Option.map_some]
theorem lendG {σ : List (Nat × Site)} {k : Nat} {cs cs' : List V} {b : Bool} (hf : (V.agg cs).strip.free = false) (hl : lendL (lend σ k) cs = some (cs', b)) (hf' : (V.agg cs').free = true) : lend σ (k + 1) (.agg cs) = some (.agg cs', true) := by
 simp only [lend, hf, Bool.false_eq_true, if_false, hl, Option.bind_some, hf', if_true]
theorem argsL {σ : List (Nat × Site)} {v v' : V} {r r' : List V} {b c : Bool} (h : lend σ 4 v = some (v', b)) (hn : ∀ s i q, v ≠ .ptr s i q) (hr : argsPure σ r = some (r', c)) : argsPure σ (v :: r) = some (v' :: r', b || c) := by
 have e : argsPure σ (v :: r) = (lend σ 4 v).bind fun x => (argsPure σ r).map fun xs => (x.1 :: xs.1, x.2 || xs.2) := by
  cases v <;> first | rfl | exact absurd rfl (hn _ _ _)
 rw [e, h, hr]
 rfl
def inB (n : Nat) (i : Int) : Option Unit := if 0 ≤ i ∧ i < (n : Int) then some () else none
theorem p_indexA {σ : List (Nat × Site)} {ρ : TypeId → Operand → Option V} {o : Oper} {t et : TypeId} {d n : Nat} {k : IntKind} {i : Int} {x y : Operand} {z : Site} (hop : o.op = .indexAddr t x y) (hx : ρ t x = some (.aref d 0 n)) (hi : ρ 0 y = some (.int k i)) (hu : P.underlying t = some (.slice et))
  (hs : look d σ = some z) (hz : z.sz = P.cellsOf et) (h0 : z.sz ≠ 0) : pureOp P callH σ ρ o = (inB n i).map fun _ => .ptr d (0 + i.toNat) 0 := by
 simp only [pureOp, hop, hx, hi, Option.bind_some]
 unfold indexAddrV inB
 rw [hu]
 simp only [hs, Option.bind_some]
 by_cases hc : 0 ≤ i ∧ i < (n : Int)
 ·rw [if_pos hc, if_pos hc, if_pos ⟨hz, h0⟩]
  rfl
 ·rw [if_neg hc, if_neg hc]
  rfl
/-- An array has as many elements as before. -/
def sameLen (l r : List α) : Option (List α) := if r.length = l.length then some r else none
theorem p_appF {st : St} {oa : OAnn} {o : Oper} {c : Call} {s x : Operand} {T T2 : TypeId} {d sz : Nat} {l m : List α} {e : α → V} (hop : o.op = .call c) (hc : c.callee = .builtin .append) (hargs : c.args.toList = [s, x]) (hts : c.argTypes.toList = [T, T2])
  (htk : oa.tk = []) (ha : opd P st.t [] T s = some (.aref d 0 (l.map e).length)) (hb : opd P st.t [] T2 x = some (.sl 0 sz (m.map e))) (hty : appendTy P T T2 = true) (hsl : isSliceT P T2 = true) (hsz : elemSz P T = sz) (hs : look d st.σ = some ⟨true, sz, l.map e⟩) (hd : d < st.n) :
  effOp P callH oa st o = (app l m).map fun v => (.aref d 0 (v.map e).length, { killRefs d st with σ := put d ⟨true, sz, v.map e⟩ (killRefs d st).σ }) := by
 rw [List.length_map] at ha
 rw [p_appA hop hc hargs hts htk ha hb hty hsl hsz hs (Nat.le_refl _) hd, List.take_length]
theorem p_indexF {σ : List (Nat × Site)} {ρ : TypeId → Operand → Option V} {o : Oper} {t et : TypeId} {d : Nat} {k : IntKind} {i : Int} {x y : Operand} {sz : Nat} {l : List α} {e : α → V} (hop : o.op = .indexAddr t x y) (hx : ρ t x = some (.aref d 0 (l.map e).length)) (hi : ρ 0 y = some (.int k i)) (hu : P.underlying t = some (.slice et))
  (hs : look d σ = some ⟨true, sz, l.map e⟩) (hz : sz = P.cellsOf et) (h0 : sz ≠ 0) : pureOp P callH σ ρ o = (inB l.length i).map fun _ => .ptr d (0 + i.toNat) 0 := by
 rw [List.length_map] at hx
 exact p_indexA (z := ⟨true, sz, l.map e⟩) hop hx hi hu hs hz h0
theorem argsA1 {σ : List (Nat × Site)} {d sz : Nat} {l : List α} {e : α → V} (hs : look d σ = some ⟨true, sz, l.map e⟩) (hst2 : ∀ a, (e a).strip2 = e a := by intro _; rfl) : argsE σ [.aref d 0 (l.map e).length] = some ([.sl 2 sz (l.map e)], [d], false) := by
 simp only [argsE, show Nat.beq 0 0 = true from rfl, cond_true, hs, Option.bind_some]
 rw [if_pos ⟨trivial, trivial⟩, map_strip2 hst2]
 rfl
theorem p_callA {st : St} {oa : OAnn} {o : Oper} {c : Call} {f : Operand} {fid : FuncId} {first caps vs ys : List V} {d sz : Nat} {l : List α} {e : α → V} {x : Option (List α)} (hop : o.op = .call c) (hc : c.callee = .value f) (htk : oa.tk = []) (hf : opd P st.t [] 0 f = some (.fn fid first caps)) (hv : opds (opd P st.t []) c.argTypes 0 c.args.toList = some vs)
  (ha : argsE st.σ (first ++ vs ++ caps) = some (ys, [d], false)) (hs : look d st.σ = some ⟨true, sz, l.map e⟩) (h : callH fid ys = x.map fun a => (.tup [], [.sl 2 sz (a.map e)])) :
  effOp P callH oa st o = (x.bind (sameLen l)).map fun a => (.tup [], { st with σ := put d ⟨true, sz, a.map e⟩ st.σ }) := by
 unfold effOp
 rw [htk]
 simp only [List.length_nil, show Nat.blt 1 0 = false from rfl, cond_false, hop, hc]
 unfold callE
 simp only [hc, hf, hv, Option.bind_some, ha, h]
 cases x with
 | none => rfl
 | some a =>
  simp only [Option.map_some, Option.bind_some, Bool.false_and, Bool.false_eq_true, if_false, Bool.not_false, Bool.true_or, if_true, writeBack, hs, back1, sameLen, List.length_map]
  by_cases hl : a.length = l.length
  ·rw [if_pos ⟨trivial, trivial, hl⟩, if_pos hl]
   rfl
  ·rw [if_neg (fun hh => hl hh.2.2), if_neg hl]
   rfl
theorem p_callL {S : Nat → St} {oa : OAnn} {o : Oper} {c : Call} {f : Operand} {fid : FuncId} {first caps vs ys : List V} {d sz : Nat} {l : List α} {e : α → V} {x : Option (List α)} (hop : o.op = .call c) (hc : c.callee = .value f) (htk : oa.tk = []) (hf : opd P (S (l.map e).length).t [] 0 f = some (.fn fid first caps)) (hv : opds (opd P (S (l.map e).length).t []) c.argTypes 0 c.args.toList = some vs)
  (ha : argsE (S (l.map e).length).σ (first ++ vs ++ caps) = some (ys, [d], false)) (hs : look d (S (l.map e).length).σ = some ⟨true, sz, l.map e⟩) (h : callH fid ys = x.map fun a => (.tup [], [.sl 2 sz (a.map e)])) :
  effOp P callH oa (S (l.map e).length) o = (x.bind (sameLen l)).map fun a => (.tup [], { S (a.map e).length with σ := put d ⟨true, sz, a.map e⟩ (S (a.map e).length).σ }) := by
 rw [p_callA hop hc htk hf hv ha hs h]
 cases x with
 | none => rfl
 | some a =>
  simp only [Option.bind_some, sameLen]
  by_cases hl : a.length = l.length
  ·rw [if_pos hl]
   simp only [Option.map_some, List.length_map, hl]
  ·rw [if_neg hl]
   rfl
theorem p_close {st : St} {oa : OAnn} {o : Oper} {x : Operand} {d sz : Nat} {l : List α} {e : α → V} (hop : o.op = .assign x) (htk : oa.tk = []) (hcl : oa.close = true) (hx : opd P st.t [] o.type x = some (.aref d 0 (l.map e).length)) (hs : look d st.σ = some ⟨true, sz, l.map e⟩) (hd : d < st.n) (hst2 : ∀ a, (e a).strip2 = e a := by intro _; rfl) :
  effOp P callH oa st o = (some ()).map fun _ => (.sl 2 sz (l.map e), dropSite d st) := by
 unfold effOp
 rw [htk]
 simp only [List.length_nil, show Nat.blt 1 0 = false from rfl, cond_false, hop, hcl, cond_true, hx, Option.bind_some, hs]
 rw [if_pos ⟨trivial, trivial, hd⟩, map_strip2 hst2]
 rfl
/-- A store to a part of an element. -/
theorem p_storeP {S : Nat → St} {oa : OAnn} {o : Oper} {t : TypeId} {d j off sz : Nat} {l : List α} {e : α → V} {u : V} {upd : α → α} {x y : Operand} (hop : o.op = .store t x y) (htk : oa.tk = []) (hx : opd P (S (l.map e).length).t [] 0 x = some (.ptr d j off)) (hy : opd P (S (l.map e).length).t [] t y = some u) (hs : look d (S (l.map e).length).σ = some ⟨true, sz, l.map e⟩)
  (h1 : u.flat = true) (h2 : u.cells.length = P.cellsOf t) (h3 : u.isAgg = isAggT P t) (h4 : (P.info? t).isSome = true) (h5 : u.okA = true) (h6 : ∀ a, setCells (e a) off u.cells = some (e (upd a))) :
  effOp P callH oa (S (l.map e).length) o = (l[j]?).map fun a => (.tup [], { S ((l.set j (upd a)).map e).length with t := AE.untake [] (S ((l.set j (upd a)).map e).length).t, σ := put d ⟨true, sz, (l.set j (upd a)).map e⟩ (S ((l.set j (upd a)).map e).length).σ }) := by
 have hlen : ∀ a, ((l.set j (upd a)).map e).length = (l.map e).length := fun a => by simp
 unfold effOp
 rw [htk]
 simp only [List.length_nil, show Nat.blt 1 0 = false from rfl, cond_false, hop, hx, hy, Option.bind_some]
 unfold storeV
 simp only [hs, Option.bind_some, List.getElem?_map]
 cases l[j]? with
 | none => rfl
 | some a =>
  simp only [Option.map_some, Option.bind_some]
  rw [if_pos ⟨h1, h2, h3, h4, fun _ => h5⟩, h6]
  simp only [Option.map_some, List.map_set, hlen]
  rw [← List.map_set, hlen]
def quoI (k : IntKind) (a b : Int) : Option Int := if b = 0 then none else some (k.wrap (a.tdiv b))
end
def cL : Code → Code
 | .seq a _ => a
 | .cond _ a _ => a
 | .block _ c => c
 | .loop c => c
 | .scope c => c
 | c => c
def cR : Code → Code
 | .seq _ b => b
 | .cond _ _ b => b
 | c => c
def cO : Code → Array Oper
 | .region _ o _ => o
 | _ => #[]
def cB (f : Func) : Code := match f.body with | some c => c | none => .skip
/-- The way to a region: a number, whose digits tell the steps from the least on. -/
def cW : Nat → Nat → Code → Code
 | 0, _, c => c
 | k + 1, n, c => bif Nat.beq n 1 then c else cW k (n / 2) (bif Nat.beq (n % 2) 0 then cL c else cR c)
def oN (f : Func) (n : Nat) : Array Oper := cO (cW 200 n (cB f))
theorem ra {P : Program} {callH : CallH} {ops : Array Oper} {anns : List (Nat × OAnn)} {ks : List Nat} {i : Nat} {st : St} {r : Option St} (m j : Nat) (st' : St) (h : opsF P callH ops anns i ((ops.toList.drop i).take m) st = some st') (hj : i + m = j) (hs : Nat.ble j ops.size = true)
  (k : reg P callH ops anns ks j st' = r) : reg P callH ops anns ks i st = r := (reg_adv h hj hs).trans k
theorem ba {P : Program} {callH : CallH} {ops : Array Oper} {anns : List (Nat × OAnn)} {ks : List Nat} {i : Nat} {X : Option St} {r : Option St} (m j : Nat) (st' : St) (h : (X.bind fun s => forceSt s (opsF P callH ops anns i ((ops.toList.drop i).take m))) = some st') (hj : i + m = j) (hs : Nat.ble j ops.size = true)
  (k : reg P callH ops anns ks j st' = r) : X.bind (reg P callH ops anns ks i) = r := (bind_adv h hj hs).trans k
theorem et {α : Sort _} {a b c : α} (h : a = b) (k : b = c) : a = c := h.trans k
theorem rE {P : Program} {callH : CallH} {ks : List Nat} {anns : List (Nat × OAnn)} {ops : Array Oper} {st st' : St} (h : (opsF P callH ops anns 0 (ops.toList.drop 0) st).map (killT ks) = some st') : regionE P callH ⟨ks, anns⟩ ops false st = some st' := regionE_reg.trans (reg_end h)
def wfI (k : IntKind) (n : Int) : Prop := (Lit.int k n).wf = true
def wfS (s : List UInt8) : Prop := s.length ≤ maxLen
def wfT {α : Type} (_ : α) : Prop := True
def wfL {α : Type} (wf : α → Prop) (l : List α) : Prop := l.length ≤ maxLen ∧ ∀ a ∈ l, wf a
section
variable {P : Program} {G : Glo} {callH : CallH} {α : Type} {σ : List (Nat × Site)} {ρ : TypeId → Operand → Option V} {o : Oper}
/-- The element of an array's value, at a place. -/
theorem p_indexArr {t et : TypeId} {x y : Operand} {k : IntKind} {i : Int} {l : List α} {e : α → V} {n : Nat} (hop : o.op = .index t x y) (hx : ρ t x = some (.agg (l.map e))) (hi : ρ 0 y = some (.int k i)) (hu : P.underlying t = some (.array n et)) (hn : l.length = n)
  (hs : P.cellsOf et = 1) (ha : isAggT P et = false) (hq : (P.underlying et).isSome = true) : pureOp P callH σ ρ o = (idx l i).map e := by
 simp only [pureOp, hop, hx, hi, Option.bind_some]
 unfold indexV idx
 rw [hu]
 simp only
 by_cases h0 : 0 ≤ i
 ·rw [if_pos h0]
  by_cases hlt : i < (n : Int)
  ·rw [if_pos ⟨h0, hlt⟩]
   unfold partV
   rw [ha]
   simp only [Bool.false_eq_true, if_false]
   rw [if_pos hq, hs, Nat.mul_one, List.getElem?_map]
  ·rw [if_neg (fun h => hlt h.2), List.getElem?_eq_none (by omega)]
   rfl
 ·rw [if_neg (fun h => h0 h.1), if_neg h0]
  rfl
/-- So many times the same. -/
def mkN (z : α) (n : Int) : Option (List α) := if 0 ≤ n ∧ n ≤ (maxList : Int) then some (List.replicate n.toNat z) else none
theorem p_callS {st : St} {oa : OAnn} {c : Call} {f : Operand} {fid : FuncId} {first caps vs ys : List V} {x : Option α} {w : α → V} (hop : o.op = .call c) (hc : c.callee = .value f) (htk : oa.tk = []) (hf : opd P st.t [] 0 f = some (.fn fid first caps)) (hv : opds (opd P st.t []) c.argTypes 0 c.args.toList = some vs)
  (ha : argsE st.σ (first ++ vs ++ caps) = some (ys, [], false)) (h : callH fid ys = x.map fun a => (w a, [])) :
  effOp P callH oa st o = x.map fun a => (w a, st) := by
 unfold effOp
 rw [htk]
 simp only [List.length_nil, show Nat.blt 1 0 = false from rfl, cond_false, hop, hc]
 unfold callE
 simp only [hc, hf, hv, Option.bind_some, ha, h]
 cases x with
 | none => rfl
 | some a => rfl
end
def repS (s : List UInt8) (n : Int) : Option (List UInt8) := if 0 ≤ n ∧ n ≤ 1000000 ∧ s.length ≤ 1000000 then some (List.replicate n.toNat s).flatten else none
def extStrRep : List V → Option (V × List V)
 | [.str s, .int .i64 n] => (repS s n).map fun r => (.str r, [])
 | _ => none
def strs : List V → Option (List (List UInt8))
 | [] => some []
 | .str s :: r => (strs r).map (s :: ·)
 | _ => none
theorem strs_map : ∀ xs : List (List UInt8), strs (xs.map V.str) = some xs
 | [] => rfl
 | s :: xs => by
  show (strs (xs.map V.str)).map (s :: ·) = _
  rw [strs_map xs]
  rfl
def joinS (xs : List (List UInt8)) (sep : List UInt8) : Option (List UInt8) := if xs.length ≤ 1000000 ∧ (sep.intercalate xs).length ≤ 140737488355328 then some (sep.intercalate xs) else none
def extStrJoin : List V → Option (V × List V)
 | [.sl 0 1 l, .str sep] => (strs l).bind fun xs => (joinS xs sep).map fun r => (.str r, [])
 | _ => none
theorem extStrJoin_map (xs : List (List UInt8)) (sep : List UInt8) : extStrJoin [.sl 0 1 (xs.map V.str), .str sep] = (joinS xs sep).map fun r => (.str r, []) := by
 unfold extStrJoin
 simp only [strs_map, Option.bind_some]
/-- How texts stand to each other, byte by byte. -/
def cmpB : List UInt8 → List UInt8 → Int
 | [], [] => 0
 | [], _ :: _ => -1
 | _ :: _, [] => 1
 | a :: x, b :: y => if a < b then -1 else if b < a then 1 else cmpB x y
def extStrCmp : List V → Option (V × List V)
 | [.str a, .str b] => some (.int .i64 (cmpB a b), [])
 | _ => none
def repL (l : List (List UInt8)) (n : Int) : Option (List (List UInt8)) := match l with
 | [s] => if 1 ≤ n ∧ n ≤ 1000000 then some (List.replicate n.toNat s) else none
 | _ => none
end Go.AE

namespace Go.AE
set_option linter.unusedSimpArgs false
set_option linter.unusedVariables false
section
variable {P : Program} {G : Glo} {callH : CallH} {α β γ : Type} {anns : List (Nat × RAnn)} {n : Nat} {st : St} {K : X × St → Option β} {id : Nat} {ops : Array Oper} {rest : Code}
/-- A region that is looked up and comes to a state at sight. -/
theorem kr (st' : St) {r : Option β} (h : (opsF P callH ops ((look id anns).getD {}).ops 0 (ops.toList.drop 0) st).map (killT ((look id anns).getD {}).kill) = some st') (k : execK P callH anns n rest st' K = r) :
  execK P callH anns n (.seq (.region id ops false) rest) st K = r := (k_region0 (ann := ⟨_, _⟩) rfl (rE h)).trans k
theorem kl (st' : St) {r : Option β} (h : (opsF P callH ops ((look id anns).getD {}).ops 0 (ops.toList.drop 0) st).map (killT ((look id anns).getD {}).kill) = some st') (k : K (.normal, st') = r) :
  execK P callH anns n (.region id ops false) st K = r := (k_lregion0 (ann := ⟨_, _⟩) rfl (rE h)).trans k
/-- The same, where it only adds values at the end. -/
theorem kra {t : List (Nat × V)} {σ : List (Nat × Site)} {n' : Nat} (d : List (Nat × V)) {r : Option β} (h : (opsF P callH ops ((look id anns).getD {}).ops 0 (ops.toList.drop 0) ⟨t, σ, n'⟩).map (killT ((look id anns).getD {}).kill) = some ⟨t ++ d, σ, n'⟩) (k : execK P callH anns n rest ⟨t ++ d, σ, n'⟩ K = r) :
  execK P callH anns n (.seq (.region id ops false) rest) ⟨t, σ, n'⟩ K = r := kr _ h k
/-- A region that comes to a state, by a proof. -/
theorem krp (a : RAnn) (ha : (look id anns).getD {} = a) (st' : St) {r : Option β} (h : reg P callH ops a.ops a.kill 0 st = some st') (k : execK P callH anns n rest st' K = r) :
  execK P callH anns n (.seq (.region id ops false) rest) st K = r := (k_region0 ha (regionE_reg.trans h)).trans k
/-- A region that may come to nothing. -/
theorem kg {δ : Type} (a : RAnn) (ha : (look id anns).getD {} = a) {x : Option α} (g : α → St) {f : α → Option δ} {fin : δ → β} (h : reg P callH ops a.ops a.kill 0 st = x.map g) (k : ∀ o, execK P callH anns n rest (g o) K = (f o).map fin) :
  execK P callH anns n (.seq (.region id ops false) rest) st K = (x.bind f).map fin := (k_region ha (regionE_reg.trans h)).trans (bindE k)
theorem kgl {δ : Type} (a : RAnn) (ha : (look id anns).getD {} = a) {x : Option α} (g : α → St) {f : α → Option δ} {fin : δ → β} (h : reg P callH ops a.ops a.kill 0 st = x.map g) (k : ∀ o, K (.normal, g o) = (f o).map fin) :
  execK P callH anns n (.region id ops false) st K = (x.bind f).map fin := (k_lregion ha (regionE_reg.trans h)).trans (bindE k)
theorem kga {δ : Type} {t : List (Nat × V)} {σ : List (Nat × Site)} {n' : Nat} (a : RAnn) (ha : (look id anns).getD {} = a) {x : Option α} (d : α → List (Nat × V)) {f : α → Option δ} {fin : δ → β} (h : reg P callH ops a.ops a.kill 0 ⟨t, σ, n'⟩ = x.map fun o => ⟨t ++ d o, σ, n'⟩) (k : ∀ o, execK P callH anns n rest ⟨t ++ d o, σ, n'⟩ K = (f o).map fin) :
  execK P callH anns n (.seq (.region id ops false) rest) ⟨t, σ, n'⟩ K = (x.bind f).map fin := kg a ha _ h k
theorem kd {δ : Type} (a : RAnn) (ha : (look id anns).getD {} = a) {x : Option α} (g : α → St) {f : α → Option δ} {fin : δ → β} (h : regionE P callH a ops true st = x.map g) (k : ∀ o, execK P callH anns n rest (g o) K = (f o).map fin) :
  execK P callH anns n (.seq (.region id ops true) rest) st K = (x.bind f).map fin := (k_region ha h).trans (bindE k)
theorem kdl {δ : Type} (a : RAnn) (ha : (look id anns).getD {} = a) {x : Option α} (g : α → St) {f : α → Option δ} {fin : δ → β} (h : regionE P callH a ops true st = x.map g) (k : ∀ o, K (.normal, g o) = (f o).map fin) :
  execK P callH anns n (.region id ops true) st K = (x.bind f).map fin := (k_lregion ha h).trans (bindE k)
/-- A condition. -/
theorem kc {δ : Type} {c : Operand} {a b : Code} {t : Bool} {A B : Option δ} {fin : δ → β} (h : opd P st.t [] 0 c = some (.bool t)) (hk : killCond anns c st = st) (h1 : t = true → execK P callH anns n (.seq a rest) st K = A.map fin) (h0 : t = false → execK P callH anns n (.seq b rest) st K = B.map fin) :
  execK P callH anns n (.seq (.cond c a b) rest) st K = (bif t then A else B).map fin := (k_cond h hk).trans (bifE2 h1 h0)
theorem kcl {δ : Type} {c : Operand} {a b : Code} {t : Bool} {A B : Option δ} {fin : δ → β} (h : opd P st.t [] 0 c = some (.bool t)) (hk : killCond anns c st = st) (h1 : t = true → execK P callH anns n a st K = A.map fin) (h0 : t = false → execK P callH anns n b st K = B.map fin) :
  execK P callH anns n (.cond c a b) st K = (bif t then A else B).map fin := (k_lcond h hk).trans (bifE2 h1 h0)
end
section
variable {P : Program} {G : Glo} {callH : CallH} {α β : Type} {ops : Array Oper} {anns : List (Nat × OAnn)} {ks : List Nat} {i n : Nat} {st : St} {t : List (Nat × V)} {σ : List (Nat × Site)} {r : Option St}
/-- Operations at sight, that only add values at the end. -/
theorem rd (j : Nat) (d : List (Nat × V)) (h : opsF P callH ops anns i ((ops.toList.drop i).take (j - i)) ⟨t, σ, n⟩ = some ⟨t ++ d, σ, n⟩) (hj : (Nat.beq (i + (j - i)) j && Nat.ble j ops.size) = true) (k : reg P callH ops anns ks j ⟨t ++ d, σ, n⟩ = r) :
  reg P callH ops anns ks i ⟨t, σ, n⟩ = r := by
 rw [Bool.and_eq_true] at hj
 exact ra (j - i) j _ h (Nat.eq_of_beq_eq_true hj.1) hj.2 k
theorem bd {oa : OAnn} {dst : Option Tmp} {v : V} (j : Nat) (d : List (Nat × V)) (h : ((finish oa dst v ⟨t, σ, n⟩).bind fun s => forceSt s (opsF P callH ops anns i ((ops.toList.drop i).take (j - i)))) = some ⟨t ++ d, σ, n⟩) (hj : (Nat.beq (i + (j - i)) j && Nat.ble j ops.size) = true) (k : reg P callH ops anns ks j ⟨t ++ d, σ, n⟩ = r) :
  (finish oa dst v ⟨t, σ, n⟩).bind (reg P callH ops anns ks i) = r := by
 rw [Bool.and_eq_true] at hj
 exact ba (j - i) j _ h (Nat.eq_of_beq_eq_true hj.1) hj.2 k
/-- The next operation, if it is a pure one that is wanted. -/
def pureAt (ops : Array Oper) (anns : List (Nat × OAnn)) (i : Nat) (t : List (Nat × V)) : Option Oper := match ops.toList.drop i with
 | o :: _ => (match wantedV ops t o with | some true => bif isPure (annOf anns i) o && !isAlloc o then some o else none | _ => none)
 | [] => none
theorem pureAt_eq {t : List (Nat × V)} {o : Oper} (h : pureAt ops anns i t = some o) : ∃ r, ops.toList.drop i = o :: r ∧ ops.toList.drop (i + 1) = r ∧ wantedV ops t o = some true ∧ (isPure (annOf anns i) o && !isAlloc o) = true := by
 unfold pureAt at h
 split at h
 ·rename_i o' r' e
  split at h
  ·rename_i e2
   cases e3 : isPure (annOf anns i) o' && !isAlloc o' with
   | true =>
    rw [e3] at h
    obtain rfl := Option.some.inj h
    refine ⟨r', e, ?_, e2, e3⟩
    rw [← List.drop_drop, e]
    rfl
   | false => rw [e3] at h; cases h
  ·cases h
 ·cases h
theorem rp {o : Oper} {x : Option α} {w : α → V} {f : α → Option β} {g : β → St} (ho : pureAt ops anns i st.t = some o) (hv : pureOp P callH st.σ (opd P st.t []) o = x.map w) (k : ∀ a, (finish (annOf anns i) o.dst (w a) st).bind (reg P callH ops anns ks (i + 1)) = (f a).map g) :
  reg P callH ops anns ks i st = (x.bind f).map g := by
 obtain ⟨r, e1, e2, e3, e4⟩ := pureAt_eq ho
 exact (reg_pure e1 e2 e3 e4 hv).trans (bindE k)
theorem rx {o : Oper} {x : Option α} {w : α → V} {f : α → Option β} {g : β → St} (ho : pureAt ops anns i st.t = some o) (hv : pureOp P callH st.σ (opd P st.t []) o = x.map w) (k : ∀ a, x = some a → (finish (annOf anns i) o.dst (w a) st).bind (reg P callH ops anns ks (i + 1)) = (f a).map g) :
  reg P callH ops anns ks i st = (x.bind f).map g := by
 obtain ⟨r, e1, e2, e3, e4⟩ := pureAt_eq ho
 exact (reg_pure e1 e2 e3 e4 hv).trans (bindX k)
theorem rs {o : Oper} {x : Option α} {w : α → V} {g : α → St} (ho : pureAt ops anns i st.t = some o) (hv : pureOp P callH st.σ (opd P st.t []) o = x.map w) (k : ∀ a, (finish (annOf anns i) o.dst (w a) st).bind (reg P callH ops anns ks (i + 1)) = some (g a)) :
  reg P callH ops anns ks i st = x.map g := by
 obtain ⟨r, e1, e2, e3, e4⟩ := pureAt_eq ho
 exact (reg_pure e1 e2 e3 e4 hv).trans (bind_self k)
theorem rl {o : Oper} {w : Unit → V} {r : Option St} (ho : pureAt ops anns i st.t = some o) (hv : pureOp P callH st.σ (opd P st.t []) o = (some ()).map w) (k : (finish (annOf anns i) o.dst (w ()) st).bind (reg P callH ops anns ks (i + 1)) = r) :
  reg P callH ops anns ks i st = r := by
 obtain ⟨r', e1, e2, e3, e4⟩ := pureAt_eq ho
 exact (reg_pure e1 e2 e3 e4 hv).trans k
end
/-- The first place of a byte in a text, or -1. -/
def idxB : List UInt8 → UInt8 → Int
 | [], _ => -1
 | b :: l, c => if b == c then 0 else if idxB l c == -1 then -1 else idxB l c + 1
def remE (a b : Int) : Option Int := if b = 0 then none else some (a.tmod b)
def shlI (k : IntKind) (a b : Int) : Option Int := if b < 0 then none else some (k.wrap (a * 2 ^ (min b.toNat k.bits)))
def shrI (k : IntKind) (a b : Int) : Option Int := if b < 0 then none else some (a.fdiv (2 ^ (min b.toNat k.bits)))
def andI (k : IntKind) (a b : Int) : Int := k.wrap ((BitVec.ofInt k.bits a &&& BitVec.ofInt k.bits b).toNat)
def orI (k : IntKind) (a b : Int) : Int := k.wrap ((BitVec.ofInt k.bits a ||| BitVec.ofInt k.bits b).toNat)
def xorI (k : IntKind) (a b : Int) : Int := k.wrap ((BitVec.ofInt k.bits a ^^^ BitVec.ofInt k.bits b).toNat)
section
variable {P : Program} {G : Glo} {callH : CallH} {σ : List (Nat × Site)} {ρ : TypeId → Operand → Option V} {o : Oper} {t t2 : TypeId} {x y : Operand} {k k' : IntKind} {a b : Int}
end
def catL {α : Type} : List (List α) → Option (List α)
 | [] => none
 | x :: r => if (x :: r).length ≤ 1000 ∧ (x :: r).flatten.length ≤ 4294967296 then some (x :: r).flatten else none
/-- strconv.Itoa. -/
def itoaA (n : Int) : Option (List UInt8) := if 0 ≤ n ∧ n < 10 then some [UInt8.ofNat (48 + n.toNat)] else if -9223372036854775808 ≤ n ∧ n ≤ 9223372036854775807 then some (Go.Lib.itoa n) else none
/-- strings.TrimRight of one byte below 128. -/
def trimR (s cs : List UInt8) : Option (List UInt8) :=
 match cs with
 | [c] => if c.toNat < 128 ∧ s.length ≤ 1000000 then some (Go.Lib.trimRightB s c) else none
 | _ => none
/-- The number of at most nine digits, and whether it is one. -/
def fdGo : List UInt8 → Int → Int × Int
 | [], n => (n, 0)
 | c :: r, n => if c.toNat < 48 ∨ 57 < c.toNat then (0, 3) else fdGo r (10 * n + ((c.toNat : Int) - 48))
def fdS (s : List UInt8) : Int × Int := if s.length < 1 ∨ 9 < s.length then (0, 3) else fdGo s 0
/-- strings.ReplaceAll. -/
def repG (s old new : List UInt8) : Option (List UInt8) := if s.length ≤ 1000000 ∧ 1 ≤ old.length ∧ new.length ≤ 1000 then some (Go.Lib.replaceAll s old new) else none
end Go.AE

namespace Go.AE
open Go.RowKit
set_option linter.unusedSimpArgs false
set_option linter.unusedVariables false
abbrev noE : Bnd := fun _ => none
abbrev noO : Own := fun _ => none
/-- A row of cells that nobody writes. -/
def RC0 (w : World) (vs : List V) (xs : List Value) : Prop := vs.length = xs.length ∧ ∀ j (h : j < vs.length) (h' : j < xs.length), R0 w noE (vs[j]) (xs[j])
theorem RC0.nil {w : World} : RC0 w [] [] := ⟨rfl, fun j h => by simp at h⟩
theorem RC0.one {w : World} {v : V} {x : Value} (h : R0 w noE v x) : RC0 w [v] [x] := ⟨rfl, fun j hj hj' => by
 have : j = 0 := by simp at hj; omega
 subst this
 exact h⟩
theorem RC0.append {w : World} {a b : List V} {x y : List Value} (h : RC0 w a x) (k : RC0 w b y) : RC0 w (a ++ b) (x ++ y) := by
 refine ⟨by simp [h.1, k.1], fun j hj hj' => ?_⟩
 have h1 := h.1
 by_cases hlt : j < a.length
 ·rw [List.getElem_append_left hlt, List.getElem_append_left (by omega)]
  exact h.2 j hlt (by omega)
 ·rw [List.getElem_append_right (by omega), List.getElem_append_right (by omega)]
  have := k.2 (j - a.length) (by simp at hj; omega) (by have := k.1; simp at hj; omega)
  simpa [h1] using this
section
variable {H : Type} {enc : TypeId × Value → H} {P : Program} {G : Glo} {w : World}
/-- What reads at a type, up to a size: the typed values' cells. -/
structure Opens (enc : TypeId × Value → H) (P : Program) (w : World) (t : TypeId) {α : Type} (cells : α → List V) (wf : α → Prop) : Prop where
 len : ∀ a, (cells a).length = P.cellsOf t
 ok : ∀ fuel cs x, DataW.trod enc P w 0 (fun _ => true) true fuel t cs = some x → ∃ a, wf a ∧ RC0 w (cells a) cs
theorem Opens.mono {t : TypeId} {α : Type} {cells : α → List V} {wf wf' : α → Prop} (h : Opens enc P w t cells wf) (k : ∀ a, wf a → wf' a) : Opens enc P w t cells wf' :=
 ⟨h.len, fun fuel cs x hx => by
  obtain ⟨a, h1, h2⟩ := h.ok fuel cs x hx
  exact ⟨a, k a h1, h2⟩⟩
theorem opens_int {t : TypeId} {k : IntKind} (ht : P.underlying t = some (.int k)) (hc : P.cellsOf t = 1) : Opens enc P w t (fun n : Int => [V.int k n]) (wfI k) :=
 ⟨fun _ => hc.symm, fun fuel cs x h => by
  obtain ⟨n, rfl, _, hw⟩ := DataW.trod_int ht h
  exact ⟨n, hw, .one (.int k n)⟩⟩
theorem opens_str {t : TypeId} (ht : P.underlying t = some .string) (hc : P.cellsOf t = 1) : Opens enc P w t (fun s : List UInt8 => [V.str s]) wfS :=
 ⟨fun _ => hc.symm, fun fuel cs x h => by
  obtain ⟨s, rfl, _, hw⟩ := DataW.trod_string ht h
  refine ⟨s.data.toList, ?_, .one ?_⟩
  ·unfold wfS
   rw [Array.length_toList]
   exact hw
  ·exact R0.str (w := w) (E := noE) s.data.toList⟩
/-- The fields of a struct, from a place on. -/
structure OpensF (enc : TypeId × Value → H) (P : Program) (w : World) (off : Nat) (fs : List Field) (N : Nat) {β : Type} (cells : β → List V) (wf : β → Prop) : Prop where
 len : ∀ b, off + (cells b).length = N
 ok : ∀ fuel (cs : List Value), cs.length = N → (∀ f ∈ fs, ∃ x, DataW.trod enc P w 0 (fun _ => true) true fuel f.type ((cs.drop f.offset).take (P.cellsOf f.type)) = some x) → ∃ b, wf b ∧ RC0 w (cells b) (cs.drop off)
theorem rt_of_cells {v : V} {x : Value} {S : Sit} {O : Own} {p : Pos} (hr : RC0 w v.cells x.cells.toList) (hv : v.isAgg = true ↔ ∃ c, x = .agg c) (hs : v.isAgg = false → v.isTup = false) (hx : ∀ c, x ≠ .tuple c) : RT w noE S O p v x := by
 cases hva : v.isAgg with
 | true =>
  obtain ⟨c, rfl⟩ := hv.1 hva
  cases v <;> simp [V.isAgg] at hva
  refine .cell (.agg ⟨hr.1, fun j h h' => .free (.base (hr.2 j h h'))⟩)
 | false =>
  have h1 : v.cells = [v] := by cases v <;> first | rfl | simp [V.isAgg] at hva | (have := hs rfl; simp [V.isTup] at this)
  have h2 : x.cells.toList = [x] := by
   cases x <;> first | rfl | (exfalso; have := hv.2 ⟨_, rfl⟩; rw [this] at hva; cases hva) | exact absurd rfl (hx _)
  rw [h1, h2] at hr
  exact .cell (.one hva (.free (.base (hr.2 0 (by simp) (by simp)))))
theorem noGlob : Glob (fun _ => none) w noE := fun b c h => by cases h
theorem row_calls {hm : P.follows .mixedOrders = true} {anns : FuncId → FAnn} {ext : ExtH} (hext : ∀ f args r outs, ext f args = some (some (r, outs)) → FnOk G P f args r outs) {k : Nat} {f : FuncId} {args : List V}
  (h : evF P anns ext k f args = some (.bool true, [])) {W : World} (hgl : Glob G W noE) {xs : Array Value} (hl : args.length = xs.size) (hr : ∀ i (h : i < args.length) (h' : i < xs.size), RT W noE noS noO [0, i] (args[i]) (xs[i])) :
  Calls P f xs W fun e W' => e = .returned (.bool true) ∧ Below W.heap.size W W' := by
 refine ((evF_sound hm hext k f args _ _ h).2 W noE noO xs hgl hl (fun b p hb => by cases hb) hr).mono ?_
 rintro e W' ⟨x, E', O', rfl, hfr, hx, _, _⟩
 have hx1 := hx.of_tmp rfl (by simp) (by simp)
 refine ⟨?_, ⟨hfr.os, hfr.tape, hfr.output, hfr.ext.size, fun b hb => (hfr.free b hb rfl).1⟩⟩
 cases hx1 with
 | free hx1 => cases hx1 with
  | base hx1 => cases hx1; rfl
end
end Go.AE

namespace Go.AE
open Go.RowKit Go.Shelf Go.Sort Go.Proofs
theorem rev_world {w : World} {b : Nat} {c : Array Value} {e : TypeId} {fr : Nat × Nat} (hb : w.heap[b]? = some (.cells c e fr)) (n : Nat) (l : List Int) (hl : l.length ≤ c.size) :
  ∃ c', Wrote w (putRow (Value.int .i64) (Sort.ahead w n) b 0 l.toArray) b 0 (l.map (Value.int .i64)) c e fr c' := by
 refine ⟨putCells (Value.int .i64) 0 l.toArray c, ?_, ?_, ?_, ?_, ?_, ?_, rfl, rfl, rfl⟩
 ·simp [putRow, mapBlock, Sort.ahead, Array.getElem?_modify, hb, onCells]
 ·simp [putCells]
 ·intro j hj
  simp only [List.length_map] at hj
  have hjc : j < c.size := by omega
  simp [putCells, hjc, hj]
 ·intro i hi
  simp only [List.length_map, Nat.zero_add] at hi
  have hi' : ¬ i < l.length := by omega
  simp [putCells, hi']
 ·intro b' hb'
  simp only [putRow, mapBlock, Sort.ahead, Array.getElem?_modify]
  rw [if_neg (fun h => hb' h.symm)]
 ·simp [putRow, mapBlock, Sort.ahead]
set_option linter.unusedSimpArgs false in
theorem reverse_ok {G : Glo} {P : Program} {ρ : Ren} (L : Lays.n112 P ρ) (args : List V) (r : V) (outs : List V) (h : extReverseInt args = some (r, outs)) : FnOk G P (ρ.f 112) args r outs := by
 refine ⟨⟨Body.n112 ρ, L.f112, by simp [Body.n112], rfl⟩, ?_⟩
 intro w E O xs hgl hl ho hr
 unfold extReverseInt at h
 split at h
 ·rename_i es
  obtain ⟨l, hl1, h⟩ := bind_some h
  obtain ⟨l2, hl2, h⟩ := map_some h
  injection h with h1 h2
  subst h1; subst h2
  obtain rfl := intsOf_eq hl1
  unfold revInt at hl2
  cases hble : Nat.ble l.length 9223372036854775807 with
  | false => rw [hble] at hl2; cases hl2
  | true =>
   rw [hble] at hl2
   obtain rfl := Option.some.inj hl2
   have hlen : l.length ≤ 9223372036854775807 := Nat.le_of_ble_eq_true hble
   obtain ⟨x, rfl⟩ : ∃ x, xs = #[x] := by
    rcases xs with ⟨xs⟩
    match xs, hl with
    | [x], _ => exact ⟨x, rfl⟩
   have hr1 := (hr 0 (by simp) (by simp)).of_tmp rfl (by simp) (by simp)
   simp only [List.getElem_cons_zero, List.getElem_toArray] at hr1
   have hout : (iosOf 0 [V.sl 2 1 (l.map (V.int .i64))]) = [0] := rfl
   rw [hout]
   generalize hes : l.map (V.int .i64) = es at hr1
   cases hr1 with
   | free hr1 =>
    cases hr1 with
    | base hr1 =>
     cases hr1 with
     | slNil =>
      have hl0 : l = [] := by simpa using hes
      subst hl0
      refine (Go.Proofs.Any.slices_Reverse_int_empty L none 0 w).mono ?_
      rintro e w' ⟨rfl, rfl⟩
      refine ⟨_, E, O, rfl, Framed.refl ho, .tup rfl (fun j hj => by simp at hj), rfl, fun k hk _ => ?_⟩
      have hk0 : k = 0 := by simp at hk; omega
      subst hk0
      exact .cell (.one rfl (.free (.base (.slNil 2 1))))
   | @own _ _ _ b off cap c e fr ho' hb hc hl' hf hE h0 hO hw he =>
    have hoff := h0 rfl
    subst hoff
    have hlen' : es.length = l.length := by rw [← hes, List.length_map]
    rw [hlen'] at hl'
    have hcell : ∀ j (hj : j < l.length), c[j]? = some (Value.int .i64 l[j]) := by
     intro j hj
     have hjc : j < c.size := by omega
     have hj2 : j < es.length := by omega
     have hej : es[j] = V.int .i64 l[j] := by subst hes; simp
     obtain ⟨y, hy⟩ : ∃ y, c[j]? = some y := ⟨c[j], by simp [hjc]⟩
     have := he j 0 hj2 (by rw [hej]; simp [V.cells]) y (by simpa using hy)
     simp only [hej, V.cells, List.getElem_cons_zero] at this
     rw [hy]
     cases this
     rfl
    have hH : Holds (Value.int .i64) w b 0 l.toArray := by
     intro j hj
     have hj' : j < l.length := by simpa using hj
     refine ⟨?_, ?_⟩
     ·simp only [World.cell?, hb, Nat.zero_add]
      rw [hcell j hj']
      simp [hj', getElem!_pos]
     ·simp only [World.frozen?, hb, Nat.zero_add]
      have := hf j (by omega)
      cases hh : (decide (fr.1 ≤ j) && decide (j < fr.2)) with
      | false => rfl
      | true => simp at hh; simp at this; omega
    rw [hlen']
    refine (Go.Proofs.Any.slices_Reverse_int L b 0 cap l w hH hlen).mono ?_
    rintro e' w' ⟨rfl, n, rfl⟩
    obtain ⟨c', hwr⟩ := rev_world hb n l.reverse (by simp; omega)
    have hE0 : E b = some 0 := by simpa using hE
    have hfr := hwr.framed hb ho hO hE0 (Nat.le_refl 0) (Nat.le_refl 0)
    refine ⟨_, setB E b (some 0), relo (moveP [0, 0, 0] [2, 0, 0]) O, rfl, hfr.trans (relo_framed hfr.own _), .tup rfl (fun j hj => by simp at hj), rfl, fun k hk _ => ?_⟩
    have hk0 : k = 0 := by simp at hk; omega
    subst hk0
    simp only [List.getElem_cons_zero]
    refine .cell (.one rfl ?_)
    have hx : (#[Value.slice (some ⟨b, 0, none⟩) l.length cap].getD 0 undef) = .slice (some ⟨b, 0, none⟩) (l.reverse.map (V.int .i64)).length cap := by simp
    rw [hx]
    refine .own (.inr rfl) hwr.at_ (by rw [hwr.size]; omega) (by simpa using hl') (fun o ho2 => hf o (by rw [← hwr.size]; exact ho2)) (by simp [setB]) (fun _ => rfl) ?_ ?_ ?_
    ·have := moveP_pre [0, 0, 0] [2, 0, 0] []
     simp only [List.append_nil] at this
     simp only [relo, hO, Option.map_some]
     rw [show ([0, 0] ++ [0] : Pos) = [0, 0, 0] from rfl, this]
     rfl
    ·intro i hi
     simp [V.cells]
    ·intro i j hi hj y hy
     have hj0 : j = 0 := by simp [V.cells] at hj; omega
     subst hj0
     have hi' : i < l.length := by simpa using hi
     have := hwr.new i (by simpa using hi')
     simp only [Nat.zero_add, Nat.mul_one, Nat.add_zero] at this hy
     rw [this] at hy
     simp only [List.getElem?_map, List.getElem?_eq_getElem (show i < l.reverse.length by simpa using hi'), Option.map_some] at hy
     obtain rfl := Option.some.inj hy
     simp only [List.getElem_map, V.cells, List.getElem_cons_zero]
     exact .int _ _
 ·cases h
end Go.AE

namespace Go.AE
open Go.RowKit
theorem framed_below {w w' : World} {E : Bnd} {O : Own} (h : Below w.heap.size w w') (ho : ∀ b p, O b = some p → b < w.heap.size) : Framed w E O w' E O := by
 refine ⟨⟨h.size, fun b c e fr hb => ⟨c, fr, by rw [h.block b (lt_of_some hb)]; exact hb, rfl, fun _ _ => rfl⟩, fun b _ x hx => ⟨x, hx, Nat.le_refl _⟩⟩, fun b hb _ => ⟨h.block b hb, rfl, by assumption⟩, h.os, h.tape, h.output, fun b p hb => Nat.lt_of_lt_of_le (ho b p hb) h.size⟩
end Go.AE

namespace Go.AE
open Go.RowKit Go.Shelf Go.Proofs
theorem repeatL_flat (l : List UInt8) : ∀ c, Lib.repeatL l c = (List.replicate c l).flatten
 | 0 => rfl
 | c + 1 => by rw [Lib.repeatL, repeatL_flat l c, List.replicate_succ, List.flatten_cons]
theorem rt_str {w : World} {E : Bnd} {O : Own} {p : Pos} {s : List UInt8} {x : Value} (h : RT w E noS O p (.str s) x) : x = .string ⟨s.toArray⟩ := by
 cases h with
 | cell h => cases h with
  | one hv h => cases h with
   | free h => cases h with
    | base h => cases h; rfl
theorem rt_int {w : World} {E : Bnd} {O : Own} {p : Pos} {k : IntKind} {n : Int} {x : Value} (h : RT w E noS O p (.int k n) x) : x = .int k n := by
 cases h with
 | cell h => cases h with
  | one hv h => cases h with
   | free h => cases h with
    | base h => cases h; rfl
theorem strRep_ok {G : Glo} {P : Program} {ρ : Ren} (L : Lays.n105 P ρ) (X : Builder.Extra P ρ) (args : List V) (r : V) (outs : List V) (h : extStrRep args = some (r, outs)) : FnOk G P (ρ.f 105) args r outs := by
 refine ⟨⟨Body.n105 ρ, L.f105, by simp [Body.n105], rfl⟩, ?_⟩
 intro w E O xs hgl hl ho hr
 unfold extStrRep at h
 split at h
 ·rename_i s n
  obtain ⟨l, hl1, h⟩ := map_some h
  injection h with h1 h2
  subst h1; subst h2
  unfold repS at hl1
  split at hl1
  ·rename_i hc
   obtain rfl := Option.some.inj hl1
   obtain ⟨x, y, rfl⟩ : ∃ x y, xs = #[x, y] := by
    rcases xs with ⟨xs⟩
    match xs, hl with
    | [x, y], _ => exact ⟨x, y, rfl⟩
   have hx := rt_str (hr 0 (by simp) (by simp))
   have hy := rt_int (hr 1 (by simp) (by simp))
   simp only [List.getElem_toArray, List.getElem_cons_zero, List.getElem_cons_succ] at hx hy
   subst hx; subst hy
   obtain ⟨m, rfl⟩ := Int.eq_ofNat_of_zero_le hc.1
   have hsz : (⟨s.toArray⟩ : ByteArray).size = s.length := by simp [ByteArray.size]
   have hm : m ≤ 1000000 := by omega
   have hmul : (⟨s.toArray⟩ : ByteArray).size * m ≤ 1000000 * 1000000 := by
    rw [hsz]
    exact Nat.mul_le_mul hc.2.2 hm
   refine (Any.strings_Repeat L X ⟨s.toArray⟩ m w (by omega) (by omega)).mono ?_
   rintro e w' ⟨rfl, hb⟩
   refine ⟨_, E, O, rfl, framed_below hb ho, ?_, rfl, fun k hk => by simp at hk⟩
   simp only [repeatL_flat, Int.toNat_natCast]
   exact .cell (.one rfl (.free (.base (.str _))))
  ·cases hl1
 ·cases h
end Go.AE

namespace Go.AE
open Go.RowKit Go.Shelf Go.Proofs
theorem bytes_toList (s : List UInt8) : (⟨s.toArray⟩ : ByteArray).data.toList = s := rfl
theorem strs_spec : ∀ (l : List V) (xs : List (List UInt8)), strs l = some xs → l = xs.map V.str
 | [], xs, h => by
  obtain rfl := Option.some.inj h
  rfl
 | v :: l, xs, h => by
  unfold strs at h
  split at h
  ·rename_i h0; cases h0
  ·rename_i s r h0
   injection h0 with h1 h2
   subst h1; subst h2
   obtain ⟨ys, hy, rfl⟩ := map_some h
   rw [strs_spec _ ys hy]
   rfl
  ·cases h
theorem strJoin_ok {G : Glo} {P : Program} {ρ : Ren} (L : Lays.n156 P ρ) (X : Builder.Extra P ρ) (args : List V) (r : V) (outs : List V) (h : extStrJoin args = some (r, outs)) : FnOk G P (ρ.f 156) args r outs := by
 refine ⟨⟨Body.n156 ρ, L.f156, by simp [Body.n156], rfl⟩, ?_⟩
 intro w E O xs hgl hl ho hr
 unfold extStrJoin at h
 split at h
 ·rename_i l sep
  obtain ⟨ss, h1, h⟩ := bind_some h
  obtain ⟨r', h2, h⟩ := map_some h
  injection h with h3 h4
  subst h3; subst h4
  obtain rfl := strs_spec l ss h1
  unfold joinS at h2
  split at h2
  ·rename_i hc
   obtain rfl := Option.some.inj h2
   obtain ⟨x, y, rfl⟩ : ∃ x y, xs = #[x, y] := by
    rcases xs with ⟨xs⟩
    match xs, hl with
    | [x, y], _ => exact ⟨x, y, rfl⟩
   have hx := (hr 0 (by simp) (by simp)).of_tmp rfl (by simp) (by simp)
   have hy := rt_str (hr 1 (by simp) (by simp))
   simp only [List.getElem_toArray, List.getElem_cons_zero, List.getElem_cons_succ] at hx hy
   subst hy
   cases hx with
   | free hx => cases hx with
    | base hx =>
     generalize hss : ss.map V.str = l0 at hx
     cases hx with
     | slNil =>
      have : ss = [] := by simpa using hss
      subst this
      refine (Any.strings_Join_none L X none 0 ⟨sep.toArray⟩ w).mono ?_
      rintro e w' ⟨rfl, rfl⟩
      refine ⟨_, E, O, rfl, framed_below (Below.refl _ _) ho, ?_, rfl, fun k hk => by simp at hk⟩
      exact .cell (.one rfl (.free (.base (.str _))))
     | slE a =>
      have : ss = [] := by simpa using hss
      subst this
      refine (Any.strings_Join_none L X _ 0 ⟨sep.toArray⟩ w).mono ?_
      rintro e w' ⟨rfl, rfl⟩
      refine ⟨_, E, O, rfl, framed_below (Below.refl _ _) ho, ?_, rfl, fun k hk => by simp at hk⟩
      exact .cell (.one rfl (.free (.base (.str _))))
     | @sl _ _ b off cap c e fr hb hc1 hl2 hE hw1 he =>
      subst hss
      have hlen : (ss.map V.str).length = (ss.map fun s => (⟨s.toArray⟩ : ByteArray)).length := by simp
      have hmap : (ss.map fun s => (⟨s.toArray⟩ : ByteArray)).map (·.data.toList) = ss := by
       rw [List.map_map]
       conv => rhs; rw [← List.map_id ss]
       rfl
      have hj := Any.strings_Join L X b off cap (ss.map fun s => (⟨s.toArray⟩ : ByteArray)) ⟨sep.toArray⟩ w (fun j x hjx => by
        rw [List.getElem?_map] at hjx
        obtain ⟨s, hs, rfl⟩ := Option.map_eq_some_iff.1 hjx
        have hjl : j < ss.length := (List.getElem?_eq_some_iff.1 hs).1
        have hss : ss[j] = s := (List.getElem?_eq_some_iff.1 hs).2
        simp only [List.length_map] at hl2
        have hcs : off + j < c.size := by omega
        have h0 := he j 0 (by simpa using hjl) (by simp [V.cells]) c[off + j] (by simp [hcs])
        simp only [List.getElem_map, V.cells, List.getElem_cons_zero, hss] at h0
        have h2 : c[off + j] = .string ⟨s.toArray⟩ := by
         generalize c[off + j] = y at h0
         cases h0
         rfl
        simp [World.cell?, hb, hcs, h2]) (lt_of_some hb) (by simp; omega) (by simpa using hl2) (by rw [hmap, bytes_toList]; exact hc.2)
      rw [hmap, ← hlen] at hj
      refine hj.mono ?_
      rintro e w' ⟨rfl, hb'⟩
      refine ⟨_, E, O, rfl, framed_below hb' ho, ?_, rfl, fun k hk => by simp at hk⟩
      exact .cell (.one rfl (.free (.base (.str _))))
   | own ho2 => omega
  ·cases h2
 ·cases h
theorem cmpB_eq : ∀ a b : List UInt8, cmpB a b = Go.Lib.compareBytes a b
 | [], [] => rfl
 | [], _ :: _ => rfl
 | _ :: _, [] => rfl
 | a :: x, b :: y => by
  unfold cmpB Go.Lib.compareBytes
  rw [cmpB_eq x y]
theorem strCmp_ok {G : Glo} {P : Program} {ρ : Ren} (L : Lays.n106 P ρ) (args : List V) (r : V) (outs : List V) (h : extStrCmp args = some (r, outs)) : FnOk G P (ρ.f 106) args r outs := by
 refine ⟨⟨Body.n106 ρ, L.f106, by simp [Body.n106], rfl⟩, ?_⟩
 intro w E O xs hgl hl ho hr
 unfold extStrCmp at h
 split at h
 ·rename_i a b
  injection h with h
  injection h with h1 h2
  subst h1; subst h2
  obtain ⟨x, y, rfl⟩ : ∃ x y, xs = #[x, y] := by
   rcases xs with ⟨xs⟩
   match xs, hl with
   | [x, y], _ => exact ⟨x, y, rfl⟩
  have hx := rt_str (hr 0 (by simp) (by simp))
  have hy := rt_str (hr 1 (by simp) (by simp))
  simp only [List.getElem_toArray, List.getElem_cons_zero, List.getElem_cons_succ] at hx hy
  subst hx; subst hy
  refine (Any.strings_Compare L ⟨a.toArray⟩ ⟨b.toArray⟩ w).mono ?_
  rintro e w' ⟨rfl, rfl⟩
  refine ⟨_, E, O, rfl, framed_below (Below.refl _ _) ho, ?_, rfl, fun k hk => by simp at hk⟩
  rw [cmpB_eq]
  exact .cell (.one rfl (.free (.base (.int _ _))))
 ·cases h
end Go.AE

