/- MatchTurns: a term with the Op that is told holds when its field and its value change places, for all inputs. -/
import Derived.Test.YtgpblbjceghpjaaRows
import Derived.Test.YtgpblbjceghpjaaE1
import Derived.Test.YtgpblbjceghpjaaB1
import Derived.Test.YtgpblbjceghpjaaA3
import Derived.Test.YtgpblbjceghpjaaS1
import Derived.WalkKit
import Derived.Lib.Walk
import Derived.Lib.SliceRun
import Derived.Deep.LoopGhost
import Derived.Shelf.RegionOpenPlain
import Derived.ProofKit
import Derived.OpenShut
import Derived.ShutString
import Derived.ChangeOld
import Derived.Below
import Derived.SizedLaws
import Derived.Carry
namespace Go.Proofs.Ytgpblbjceghpjaa
open Go.ChangeShapes Go.WideShapes Go.ChangeAt Go.RowKit Go.AE Go.Sh
set_option linter.unusedVariables false
set_option maxRecDepth 100000
theorem own : ownKnob Try.prog.godebug = none := by kernel_rfl
theorem laidOut : laidOutB Try.prog = true := by kernel_rfl
theorem mixed : Try.prog.follows .mixedOrders = true := by kernel_rfl
def shopF : Array Value := #[.string ⟨#[67, 85, 83, 84, 78, 79]⟩, .int .i64 0, .int .i64 4]
def shopT (b : Nat) : Array Value := #[.string ⟨#[67, 85, 83, 84]⟩, .int .i64 (-1), .int .i64 4, .int .i64 10, .slice (some ⟨b, 0, none⟩) 1 1, .int .i64 0, .bool true, .bool false]
def shopB (b : Nat) : Array Value := #[.string ⟨#[83, 72, 79, 80]⟩, .int .i64 4, .slice (some ⟨b, 0, none⟩) 1 1, .slice none 0 0]
theorem cell_run {P : Program} {w : World} {b t : Nat} {c : Array Value} {e : TypeId} {fr : Nat × Nat} (ha : isAggT P t = true) (hb : w.heap[b]? = some (.cells c e fr)) (hc : P.cellsOf t = c.size) : (loadVar t ⟨b, 0, none⟩).run P w = .ok (.agg c) w := by
 obtain ⟨xs, h1, h2, h3⟩ := load_agg (P := P) (off := 0) ha hb (by omega)
 have : xs = c := Array.ext (by omega) (fun i hi hi' => by
  have := h3 i (by omega)
  rw [Nat.zero_add, Array.getElem?_eq_getElem hi, Array.getElem?_eq_getElem hi'] at this
  exact Option.some.inj this)
 subst this
 simpa only [Instr.loadAt, Instr.sureAddr, Sem.run_bind, Sem.run_pure, Result.andThen_ok] using h1

theorem alloc_last (w : World) (o : Obj) : (w.alloc o).heap[w.heap.size]? = some o := Array.getElem?_push_size
theorem alloc_old (w : World) (o : Obj) {b : Nat} (h : b < w.heap.size) : (w.alloc o).heap[b]? = w.heap[b]? := (Array.getElem?_push_lt h).trans (Array.getElem?_eq_getElem h).symm

set_option maxHeartbeats 1000000 in
theorem shopWalk (w : World) : Calls Try.prog 19 #[] w fun e w' => e = .returned (.agg (shopB (w.heap.size + 1 + 1))) ∧ w' = ((w.alloc (.cells (shopB (w.heap.size + 1 + 1)) 25)).alloc (.cells shopF 47)).alloc (.cells (shopT (w.heap.size + 1)) 45) := by
 have s1 : (w.alloc (.cells (shopB (w.heap.size + 1 + 1)) 25)).heap.size = w.heap.size + 1 := Array.size_push _
 have s2 : ((w.alloc (.cells (shopB (w.heap.size + 1 + 1)) 25)).alloc (.cells shopF 47)).heap.size = w.heap.size + 1 + 1 := by
  show (Array.push _ _).size = _
  rw [Array.size_push, s1]
 have h0 : (((w.alloc (.cells (shopB (w.heap.size + 1 + 1)) 25)).alloc (.cells shopF 47)).alloc (.cells (shopT (w.heap.size + 1)) 45)).heap[w.heap.size]? = some (.cells (shopB (w.heap.size + 1 + 1)) 25) := by
  rw [alloc_old _ _ (by rw [s2]; omega), alloc_old _ _ (by rw [s1]; omega), alloc_last]
 have hl := cell_run (P := Try.prog) (t := 25) (by kernel_rfl) h0 (by kernel_rfl)
 have hres : Try.f19.results = #[ResultVar.cell 0 25] := by kernel_rfl
 go_enter Try.func19, Try.ntmps19
 go_wp2
 refine bodyPost_ret (results_run (ys := [.agg (shopB (w.heap.size + 1 + 1))]) (by rw [hres]; rfl) (fun j hj hj' => ?_)) rfl ⟨rfl, rfl⟩
 obtain rfl : j = 0 := by simpa using hj
 simp only [hres]
 exact hl

theorem shop_ok {k : Nat} : FnOk (fun _ => none) Try.prog 19 [] (.agg [.str [83, 72, 79, 80], .int .i64 4, .sl 2 8 [.agg [.str [67, 85, 83, 84], .int .i64 (-1), .int .i64 4, .int .i64 10, .sl 0 3 [.agg [.str [67, 85, 83, 84, 78, 79], .int .i64 0, .int .i64 4]], .int .i64 0, .bool true, .bool false]], .sl 0 k []]) [] := by
 refine ⟨⟨_, Try.func19, by decide, rfl⟩, fun w E O xs hG hlen hO hargs => ?_⟩
 obtain rfl : xs = #[] := by
  apply Array.eq_empty_of_size_eq_zero
  simpa using hlen.symm
 refine (shopWalk w).mono ?_
 rintro e w' ⟨rfl, rfl⟩
 have s1 : (w.alloc (.cells (shopB (w.heap.size + 1 + 1)) 25)).heap.size = w.heap.size + 1 := Array.size_push _
 have s2 : ((w.alloc (.cells (shopB (w.heap.size + 1 + 1)) 25)).alloc (.cells shopF 47)).heap.size = w.heap.size + 1 + 1 := by
  show (Array.push _ _).size = _
  rw [Array.size_push, s1]
 have n1 := New.alloc (E := E) hO (.cells (shopB (w.heap.size + 1 + 1)) 25) none none
 have n2 := New.alloc (E := setB E w.heap.size none) n1.own (.cells shopF 47) none none
 have n3 := New.alloc (E := setB (setB E w.heap.size none) (w.alloc (.cells (shopB (w.heap.size + 1 + 1)) 25)).heap.size none) n2.own (.cells (shopT (w.heap.size + 1)) 45) (some 0) (some [1, 2])
 rw [s2] at n3
 rw [s1] at n2 n3
 have b2 : (((w.alloc (.cells (shopB (w.heap.size + 1 + 1)) 25)).alloc (.cells shopF 47)).alloc (.cells (shopT (w.heap.size + 1)) 45)).heap[w.heap.size + 1 + 1]? = some (.cells (shopT (w.heap.size + 1)) 45) := by
  have := alloc_last ((w.alloc (.cells (shopB (w.heap.size + 1 + 1)) 25)).alloc (.cells shopF 47)) (.cells (shopT (w.heap.size + 1)) 45)
  rw [s2] at this
  exact this
 have b1 : (((w.alloc (.cells (shopB (w.heap.size + 1 + 1)) 25)).alloc (.cells shopF 47)).alloc (.cells (shopT (w.heap.size + 1)) 45)).heap[w.heap.size + 1]? = some (.cells shopF 47) := by
  rw [alloc_old _ _ (by rw [s2]; omega)]
  have := alloc_last (w.alloc (.cells (shopB (w.heap.size + 1 + 1)) 25)) (.cells shopF 47)
  rw [s1] at this
  exact this
 refine ⟨_, _, _, rfl, ((n1.trans n2).trans n3).framed, ?_, rfl, fun k h => by simp at h⟩
 generalize hw : ((w.alloc (.cells (shopB (w.heap.size + 1 + 1)) 25)).alloc (.cells shopF 47)).alloc (.cells (shopT (w.heap.size + 1)) 45) = w' at b1 b2
 generalize w.heap.size = n at *
 have e1 : (setB (setB (setB E n none) (n + 1) none) (n + 1 + 1) (some 0)) (n + 1) = none := by simp [setB]
 have e2 : (setB (setB (setB E n none) (n + 1) none) (n + 1 + 1) (some 0)) (n + 1 + 1) = some 0 := by simp [setB]
 have e3 : (setB (setB (setB O n none) (n + 1) none) (n + 1 + 1) (some [1, 2])) (n + 1 + 1) = some [1, 2] := by simp [setB]
 generalize (setB (setB (setB E n none) (n + 1) none) (n + 1 + 1) (some 0)) = E' at e1 e2 ⊢
 generalize (setB (setB (setB O n none) (n + 1) none) (n + 1 + 1) (some [1, 2])) = O' at e3 ⊢
 have f : R0 w' E' (.sl 0 3 [.agg [.str [67, 85, 83, 84, 78, 79], .int .i64 0, .int .i64 4]]) (.slice (some ⟨n + 1, 0, none⟩) 1 1) := by
  refine R0.sl (l := [_]) b1 (by decide) (by decide) (fun x hx => by rw [e1] at hx; cases hx) (fun i hi => ?_) (fun i j hi hj x hx => ?_)
  ·obtain rfl : i = 0 := by simpa using hi
   rfl
  ·obtain rfl : i = 0 := by simpa using hi
   match j, hj, hx with
   | 0, _, hx => obtain rfl := Option.some.inj hx; exact .str _
   | 1, _, hx => obtain rfl := Option.some.inj hx; exact .int _ _
   | 2, _, hx => obtain rfl := Option.some.inj hx; exact .int _ _
   | j + 3, hj, _ => exact absurd hj (by simp [V.cells])
 refine .cell (.agg ⟨rfl, fun j hj hj' => ?_⟩)
 match j, hj, hj' with
 | 0, _, _ => exact .free (.base (.str _))
 | 1, _, _ => exact .free (.base (.int _ _))
 | 3, _, _ => exact .free (.base (.slNil _ _))
 | 2, _, _ =>
  refine R.own (l := [_]) (.inr rfl) b2 (Nat.le_refl 8) (Nat.le_refl 1) (fun o _ h => by omega) e2 (fun _ => rfl) e3 (fun i hi => ?_) (fun i j hi hj x hx => ?_)
  ·obtain rfl : i = 0 := by simpa using hi
   rfl
  ·obtain rfl : i = 0 := by simpa using hi
   match j, hj, hx with
   | 0, _, hx => obtain rfl := Option.some.inj hx; exact .str _
   | 1, _, hx => obtain rfl := Option.some.inj hx; exact .int _ _
   | 2, _, hx => obtain rfl := Option.some.inj hx; exact .int _ _
   | 3, _, hx => obtain rfl := Option.some.inj hx; exact .int _ _
   | 4, _, hx => obtain rfl := Option.some.inj hx; exact f
   | 5, _, hx => obtain rfl := Option.some.inj hx; exact .int _ _
   | 6, _, hx => obtain rfl := Option.some.inj hx; exact .bool _
   | 7, _, hx => obtain rfl := Option.some.inj hx; exact .bool _
   | j + 8, hj, _ => exact absurd hj (by simp [V.cells])
 | j + 4, hj, _ => exact absurd hj (by simp)
def rho : Go.Shelf.Ren := ⟨fun _ => 108, fun t => bif Nat.beq t 3 then 3 else bif Nat.beq t 4 then 4 else bif Nat.beq t 28 then 87 else t, fun g => g⟩
theorem lays : Go.Proofs.Lays.n112 Try.prog rho := ⟨mixed, Try.func108, Try.underlying0, Try.isAgg0, Try.sizeOf0, Try.zeroValue0, Try.underlying3, Try.isAgg3, Try.sizeOf3, Try.zeroValue3, Try.underlying4, Try.isAgg4, Try.sizeOf4, Try.zeroValue4, Try.underlying87, Try.isAgg87, Try.sizeOf87, Try.zeroValue87⟩
theorem ext_ok : ∀ f args r outs, Go.AE.ext f args = some (some (r, outs)) → FnOk (fun _ => none) Try.prog f args r outs := by
 intro f args r outs h
 unfold Go.AE.ext at h
 cases hf0 : Nat.beq f 19 with
 | true =>
  rw [hf0] at h
  obtain rfl := Nat.eq_of_beq_eq_true hf0
  have h2 := Option.some.inj h
  cases args with
  | nil =>
   obtain ⟨rfl, rfl⟩ := Prod.mk.inj (Option.some.inj h2)
   exact shop_ok
  | cons a l => cases h2
 | false =>
  rw [hf0] at h
  simp only [cond_false] at h
  cases hf1 : Nat.beq f 108 with
  | true =>
   rw [hf1] at h
   obtain rfl := Nat.eq_of_beq_eq_true hf1
   exact reverse_ok lays args r outs (Option.some.inj h)
  | false =>
   rw [hf1] at h
   simp only [cond_false] at h
   cases hf2 : Nat.beq f 55 with
   | true =>
    rw [hf2] at h
    obtain rfl := Nat.eq_of_beq_eq_true hf2
    exact strRep_ok Try.lays105 Try.Builder_Extra_105 args r outs (Option.some.inj h)
   | false =>
    rw [hf2] at h
    simp only [cond_false] at h
    cases hf3 : Nat.beq f 57 with
    | true =>
     rw [hf3] at h
     obtain rfl := Nat.eq_of_beq_eq_true hf3
     exact strJoin_ok Try.lays156 Try.Builder_Extra_156 args r outs (Option.some.inj h)
    | false =>
     rw [hf3] at h
     simp only [cond_false] at h
     cases hf4 : Nat.beq f 70 with
     | true =>
      rw [hf4] at h
      obtain rfl := Nat.eq_of_beq_eq_true hf4
      exact strCmp_ok Try.lays106 args r outs (Option.some.inj h)
     | false =>
      rw [hf4] at h
      simp only [cond_false] at h
      cases h
theorem matchTurns_lifted (os : Os) (started : os.Started) (H : Type) (enc : TypeId × Value → H) :
  ReturnsInHanded {} Try.checked os 5 .any (Rows.matchTurnsSpec.pre6 enc Try.prog Try.f5 Rows.matchTurnsRow.domain false) (Rows.matchTurnsSpec.post enc Try.prog Try.f5 false true false false) := by
 refine returnsInHanded_of_change_sized (C := Try.checked) own started (by kernel_rfl) Try.func5
  (ChangeSpec.witness6 (enc := enc) (C := Try.checked) false ⟨#[], #[.string ByteArray.empty, .string ByteArray.empty, .int .i64 0], []⟩ 8 (by kernel_rfl) (by kernel_rfl) (by kernel_rfl) (by kernel_rfl)) ?_
 intro W base args ds gs before hval0 hW hcnd hsz0 _
 have hval : ∀ (j : Nat) t v, Try.f5.params[j]? = some t → args[j]? = some v → Value.okWide Try.prog W .any base t v := hval0
 have hW' := hW
 obtain ⟨p, q, hA0, hV, rfl, hfz, hnd⟩ := hW
 have hA : DataW.TrodAll enc Try.prog W 0 (fun _ => true) true Try.f5.params.toList args.toList ds p := hA0
 rw [Try.params5] at hA hval
 obtain ⟨v0, vs0, d0, ds0, p0, q0, hargs, rfl, rfl, h0, r0⟩ := trodAll_cons hA
 obtain ⟨v1, vs1, d1, ds1, p1, q1, rfl, rfl, rfl, h1, r1⟩ := trodAll_cons r0
 obtain ⟨v2, vs2, d2, ds2, p2, q2, rfl, rfl, rfl, h2, r2⟩ := trodAll_cons r1
 obtain ⟨rfl, rfl, rfl⟩ := trodAll_nil r2
 obtain rfl : args = #[v0, v1, v2] := by cases args; simp_all
 obtain ⟨rfl, rfl⟩ := trodVars_none hV
 have lt0 : ∀ x ∈ p0, x.block < W.heap.size := by obtain ⟨m, hm⟩ := h0; exact DataW.trod_lt m _ _ _ hm
 obtain ⟨c0, rfl⟩ := okWide_string Try.underlying9 (hval 0 9 v0 rfl rfl)
 obtain ⟨a0, w0, e0⟩ := h0.elim fun m hm => ((opens_str Try.underlying9 (by kernel_rfl))).ok m _ _ hm
 have t0 : RT W noE noS noO [0, 0] (V.str a0) _ := rt_of_cells e0 ⟨(fun h => by cases h), (fun ⟨_, h⟩ => by cases h)⟩ (fun _ => rfl) (fun _ h => by cases h)
 have lt1 : ∀ x ∈ p1, x.block < W.heap.size := by obtain ⟨m, hm⟩ := h1; exact DataW.trod_lt m _ _ _ hm
 obtain ⟨c1, rfl⟩ := okWide_string Try.underlying9 (hval 1 9 v1 rfl rfl)
 obtain ⟨a1, w1, e1⟩ := h1.elim fun m hm => ((opens_str Try.underlying9 (by kernel_rfl))).ok m _ _ hm
 have t1 : RT W noE noS noO [0, 1] (V.str a1) _ := rt_of_cells e1 ⟨(fun h => by cases h), (fun ⟨_, h⟩ => by cases h)⟩ (fun _ => rfl) (fun _ h => by cases h)
 have lt2 : ∀ x ∈ p2, x.block < W.heap.size := by obtain ⟨m, hm⟩ := h2; exact DataW.trod_lt m _ _ _ hm
 obtain ⟨c2, rfl⟩ := okWide_int Try.underlying3 (hval 2 3 v2 rfl rfl)
 obtain ⟨a2, w2, e2⟩ := h2.elim fun m hm => ((opens_int Try.underlying3 (by kernel_rfl))).ok m _ _ hm
 have t2 : RT W noE noS noO [0, 2] (V.int .i64 a2) _ := rt_of_cells e2 ⟨(fun h => by cases h), (fun ⟨_, h⟩ => by cases h)⟩ (fun _ => rfl) (fun _ h => by cases h)
 clear hA0 hval0 hsz0
 obtain ⟨k, hk⟩ := law_law12_MatchTurns a0 a1 a2 w0 w1 w2
 have hev := (law12_MatchTurns_ok k a0 a1 a2).trans (by rw [hk]; rfl : _ = some (V.bool true, []))
 refine (row_calls (hm := mixed) ext_ok hev noGlob rfl (fun i h h' => ?_)).mono fun e W' ⟨he, bel⟩ => ?_
 ·match i, h with
  | 0, _ => exact t0
  | 1, _ => exact t1
  | 2, _ => exact t2
 ·subst he
  exact ⟨_, rfl, _, _, _, [], _, [], hW', trodAll_mk1 (shut_bool Try.underlying4 _), (trodAll_cons_mk (Below.trod laidOut (by kernel_rfl) (of_decide_eq_true (by kernel_rfl)) h0 bel lt0) (trodAll_cons_mk (Below.trod laidOut (by kernel_rfl) (of_decide_eq_true (by kernel_rfl)) h1 bel lt1) (trodAll_cons_mk (Below.trod laidOut (by kernel_rfl) (of_decide_eq_true (by kernel_rfl)) h2 bel lt2) trodAll_mk0))), rfl, bel.frame _, fun h => by cases h⟩
theorem matchTurns_over : Rows.matchTurnsRow.holds Try.pinned (OpenSpec.ofChange Rows.matchTurnsSpec) :=
 OpenClaim.holds_of_wide 5 Try.f5 rfl rfl rfl rfl rfl rfl rfl ⟨rfl, rfl, rfl, rfl, rfl⟩ rfl rfl rfl rfl rfl (by kernel_rfl) Try.func5 (by kernel_rfl)
  (of_decide_eq_true (by kernel_rfl)) (by unfold Func.isWrapper; first | (rw [if_pos (by decide +kernel)]; kernel_rfl) | (rw [if_neg (by decide +kernel)]; exact ⟨rfl, rfl⟩))
  (fun os started H enc _ => matchTurns_lifted os started H enc)
theorem matchTurns_holds : Rows.MatchTurnsSaid := matchTurns_over
end Go.Proofs.Ytgpblbjceghpjaa
