/- What the bytes are of is what a reader takes of them, whatever follows. -/
import Derived.Test.YteecoopnleidaaaDoorRows
import Derived.Test.YteecoopnleidaaaDoorE1
import Derived.Test.YteecoopnleidaaaDoorB1
import Derived.Test.YteecoopnleidaaaDoorA3
import Derived.Test.YteecoopnleidaaaDoorS1
import Derived.Test.YteecoopnleidaaaDoorTie
import Derived.Test.YteecoopnleidaaaDoorCards
import Derived.WalkKit
import Derived.Lib.Walk
import Derived.Lib.SliceRun
import Derived.Deep.LoopGhost
import Derived.Shelf.RegionOpenPlain
import Derived.ProofKit
import Derived.OpenShut
import Derived.ShutString
import Derived.ChangeOld
import Derived.Below
import Derived.SizedLaws
import Derived.Carry
import Derived.Lay
import Derived.LaidOnce
import Derived.SevenTiedAt
import Derived.MakeChecks
namespace Go.Proofs.YteecoopnleidaaaDoor
open Go.ChangeShapes Go.WideShapes Go.ChangeAt Go.RowKit Go.AE Go.Sh
set_option linter.unusedVariables false
set_option maxRecDepth 100000
theorem own : ownKnob Tryd.prog.godebug = none := by kernel_rfl
theorem laidOut : laidOutB Tryd.prog = true := by kernel_rfl
theorem mixed : Tryd.prog.follows .mixedOrders = true := by kernel_rfl
theorem clone_nil53 (n c : Nat) (w : World) : Calls Tryd.prog 53 #[.slice none n c] w fun e w' => e = .returned (.slice none 0 0) ∧ w' = w := by
  have q22 : ∀ (w : World) (a : Option Addr) (n c n' c' : Nat), (binOp .eql 26 (.slice a n c) (.slice none n' c')).run Tryd.prog w = .ok (.bool a.isNone) w := fun w a n c n' c' => Lib.run_eql_slice_nil w _ _ a n c n' c' Tryd.underlying26
  go_enter Tryd.func53, Tryd.ntmps53
  go_wp2
  go_ret
  exact ⟨rfl, rfl⟩
theorem clone_zero53 (a : Addr) (c : Nat) (w : World) : Calls Tryd.prog 53 #[.slice (some a) 0 c] w fun e w' => ∃ b, e = .returned (.slice (some b) 0 0) ∧ Below w.heap.size w w' := by
  have q22 : ∀ (w : World) (a : Option Addr) (n c n' c' : Nat), (binOp .eql 26 (.slice a n c) (.slice none n' c')).run Tryd.prog w = .ok (.bool a.isNone) w := fun w a n c n' c' => Lib.run_eql_slice_nil w _ _ a n c n' c' Tryd.underlying26
  go_enter Tryd.func53, Tryd.ntmps53
  go_wp2
  go_ret
  exact ⟨_, rfl, (Below.refl _ w).alloc (Nat.le_refl _) _⟩
theorem ext_ok {G : Glo} {m : Int} (hG : ∃ c, G 0 = some c ∧ c[0]? = some (.int .i64 m)) : ∀ f args r outs, Go.AE.ext f args = some (some (r, outs)) → FnOk G Tryd.prog f args r outs := by
  intro f args r outs h
  unfold Go.AE.ext at h
  cases hf0 : Nat.beq f 57 with
  | true =>
    rw [hf0] at h
    obtain rfl := Nat.eq_of_beq_eq_true hf0
    exact itoa_ok Tryd.lays171 args r outs (Option.some.inj h)
  | false =>
    rw [hf0] at h
    simp only [cond_false] at h
    cases hf1 : Nat.beq f 55 with
    | true =>
      rw [hf1] at h
      obtain rfl := Nat.eq_of_beq_eq_true hf1
      exact strRep_ok Tryd.lays105 Tryd.Builder_Extra_105 args r outs (Option.some.inj h)
    | false =>
      rw [hf1] at h
      simp only [cond_false] at h
      cases hf2 : Nat.beq f 49 with
      | true =>
        rw [hf2] at h
        obtain rfl := Nat.eq_of_beq_eq_true hf2
        exact repAll_ok Tryd.lays155 Tryd.Builder_Extra_155 hG args r outs (Option.some.inj h)
      | false =>
        rw [hf2] at h
        simp only [cond_false] at h
        cases hf3 : (Nat.beq f 53 && emptyArg args) with
        | true =>
          rw [hf3] at h
          rw [Bool.and_eq_true] at hf3
          obtain rfl := Nat.eq_of_beq_eq_true hf3.1
          obtain ⟨sz, rfl⟩ := emptyArg_eq hf3.2
          have h2 := Option.some.inj (Option.some.inj h)
          injection h2 with h3 h4
          subst h3; subst h4
          exact clone_ok ⟨_, Tryd.func53, by decide, rfl⟩ clone_nil53 clone_zero53
        | false =>
          rw [hf3] at h
          simp only [cond_false] at h
          cases h
theorem opens_29 {H : Type} {enc : TypeId × Value → H} {w : World} : Opens enc Tryd.prog w 29 (fun a => (eInt a).cells) wf_T_arr2_Int :=
  (opens_array (fs := [arrF 3 0, arrF 3 1]) (β := Int × Int × Unit) (encA := eInt) Tryd.underlying29 (by kernel_rfl) (opensF_cons (sz := 1) rfl rfl (by kernel_rfl) (opens_int Tryd.underlying3 (by kernel_rfl)) (opensF_cons (sz := 1) rfl rfl (by kernel_rfl) (opens_int Tryd.underlying3 (by kernel_rfl)) opensF_nil)) (by
    intro f hf
    simp only [List.mem_cons, List.not_mem_nil, or_false] at hf
    rcases hf with rfl | rfl
    · exact ⟨rfl, 0, by decide, by kernel_rfl⟩
    · exact ⟨rfl, 1, by decide, by kernel_rfl⟩) (fun b => ⟨b.1, b.2.1⟩) (fun a => (a.e0, a.e1, ())) (fun _ => rfl) (fun _ => rfl)).mono (fun a ⟨b, e, h⟩ => by subst e; exact h)
theorem octetBack_calls {H : Type} {enc : TypeId × Value → H} (W : World) (base : Nat) (args : Array Value) (ds gs : List (DataW H)) (before : List MemPlace)
    (hval0 : ∀ (j : Nat) t v, Tryd.f8.params[j]? = some t → args[j]? = some v → Value.okWide Tryd.prog W .any base t v)
    (hW : DataW.Whole enc Tryd.prog Tryd.f8.params.toList Rows.octetBackSpec.vars false W args.toList ds gs before) (hsh : W.ShapedOpen Tryd.prog) :
    Calls Tryd.prog 8 args W fun e W' => ∃ v, e = .returned v ∧ Rows.octetBackSpec.post enc Tryd.prog Tryd.f8 false true false false W args v W' := by
  have hval : ∀ (j : Nat) t v, Tryd.f8.params[j]? = some t → args[j]? = some v → Value.okWide Tryd.prog W .any base t v := hval0
  have hW' := hW
  obtain ⟨p, q, hA0, hV, rfl, hfz, hnd⟩ := hW
  have hA : DataW.TrodAll enc Tryd.prog W 0 (fun _ => true) true Tryd.f8.params.toList args.toList ds p := hA0
  rw [Tryd.params8] at hA hval
  obtain ⟨v0, vs0, d0, ds0, p0, q0, hargs, rfl, rfl, h0, r0⟩ := trodAll_cons hA
  obtain ⟨v1, vs1, d1, ds1, p1, q1, rfl, rfl, rfl, h1, r1⟩ := trodAll_cons r0
  obtain ⟨v2, vs2, d2, ds2, p2, q2, rfl, rfl, rfl, h2, r2⟩ := trodAll_cons r1
  obtain ⟨rfl, rfl, rfl⟩ := trodAll_nil r2
  obtain rfl : args = #[v0, v1, v2] := by cases args; simp_all
  obtain ⟨rfl, rfl⟩ := trodVars_none hV
  have lt0 : ∀ x ∈ p0, x.block < W.heap.size := by obtain ⟨m, hm⟩ := h0; exact DataW.trod_lt m _ _ _ hm
  obtain ⟨c0, rfl, _⟩ := okWide_arr Tryd.underlying29 (hval 0 29 v0 rfl rfl)
  obtain ⟨a0, w0, e0⟩ := h0.elim fun m hm => (opens_29).ok m _ _ hm
  have t0 : RT W noE noS noO [0, 0] (eInt a0) _ := rt_of_cells e0 ⟨fun _ => ⟨_, rfl⟩, fun _ => rfl⟩ (fun h => by cases h) (fun _ h => by cases h)
  have lt1 : ∀ x ∈ p1, x.block < W.heap.size := by obtain ⟨m, hm⟩ := h1; exact DataW.trod_lt m _ _ _ hm
  obtain ⟨c1, cl1, cc1, rfl⟩ := okWide_slice Tryd.underlying22 (hval 1 22 v1 rfl rfl)
  obtain ⟨a1, w1, e1⟩ := h1.elim fun m hm => ((opens_slice (encE := V.str) (sz := 1) Tryd.underlying22 (by kernel_rfl) (by kernel_rfl) (by decide) (opens_str Tryd.underlying9 (by kernel_rfl)))).ok m _ _ hm
  have t1 : RT W noE noS noO [0, 1] (V.sl 0 1 (List.map V.str a1)) _ := rt_of_cells e1 ⟨(fun h => by cases h), (fun ⟨_, h⟩ => by cases h)⟩ (fun _ => rfl) (fun _ h => by cases h)
  have lt2 : ∀ x ∈ p2, x.block < W.heap.size := by obtain ⟨m, hm⟩ := h2; exact DataW.trod_lt m _ _ _ hm
  obtain ⟨c2, cl2, cc2, rfl⟩ := okWide_slice Tryd.underlying26 (hval 2 26 v2 rfl rfl)
  obtain ⟨a2, w2, e2⟩ := h2.elim fun m hm => ((opens_slice (encE := (V.int .u8)) (sz := 1) Tryd.underlying26 (by kernel_rfl) (by kernel_rfl) (by decide) (opens_int Tryd.underlying5 (by kernel_rfl)))).ok m _ _ hm
  have t2 : RT W noE noS noO [0, 2] (V.sl 0 1 (List.map (V.int .u8) a2)) _ := rt_of_cells e2 ⟨(fun h => by cases h), (fun ⟨_, h⟩ => by cases h)⟩ (fun _ => rfl) (fun _ h => by cases h)
  clear hA0 hval0
  obtain ⟨k, hk⟩ := law_law01_OctetBack a0 a1 a2 w0 w1 w2
  have hev := (law01_OctetBack_ok k a0 a1 a2).trans (by rw [hk]; rfl : _ = some (V.bool true, []))
  obtain ⟨m, hm⟩ := Tryd.laysM155.s1_3 W hsh
  obtain ⟨gc, ge, gf, gh, gk⟩ := glob_of_cell hm
  refine (row_calls (hm := mixed) (ext_ok (G := oneGlob 0 gc) ⟨gc, rfl, gk⟩) hev (oneGlob_ok gh) rfl (fun i h h' => ?_)).mono fun e W' ⟨he, bel⟩ => ?_
  · match i, h with
    | 0, _ => exact t0
    | 1, _ => exact t1
    | 2, _ => exact t2
  · subst he
    exact ⟨_, rfl, _, _, _, [], _, [], hW', trodAll_mk1 (shut_bool Tryd.underlying4 _), (trodAll_cons_mk (Below.trod laidOut (by kernel_rfl) (of_decide_eq_true (by kernel_rfl)) h0 bel lt0) (trodAll_cons_mk (Below.trod laidOut (by kernel_rfl) (of_decide_eq_true (by kernel_rfl)) h1 bel lt1) (trodAll_cons_mk (Below.trod laidOut (by kernel_rfl) (of_decide_eq_true (by kernel_rfl)) h2 bel lt2) trodAll_mk0))), rfl, bel.frame _, fun h => by cases h⟩
theorem octetBack_lifted (os : Os) (started : os.Started) (H : Type) (enc : TypeId × Value → H) :
    ReturnsInHanded {} Tryd.checked os 8 .any (fun w args => (Rows.octetBackSpec.pre enc Tryd.prog Tryd.f8 [] false w args ∧ laidMetH Tryd.prog Rows.octetBackRow.laid w) ∧ sizedMet enc Tryd.prog Tryd.f8 (OpenSpec.ofChange Rows.octetBackSpec) false w args) (Rows.octetBackSpec.post enc Tryd.prog Tryd.f8 false true false false) := by
  refine returnsInHanded_of_calls own started (by kernel_rfl)
    (ChangeSpec.witness_shaped (enc := enc) (C := Tryd.checked) (os := os) (X := fun w _ => laidMetH Tryd.prog Rows.octetBackRow.laid w) false (World.laidAll Tryd.prog os Rows.octetBackRow.laid) #[.agg #[.int .i64 0, .int .i64 0], .slice none 0 0, .slice none 0 0] 8 (World.laidAll_os _ _ _)
      (World.shaped_of_ZipB (by kernel_rfl) (by kernel_rfl)) (by kernel_rfl) (by kernel_rfl) (by kernel_rfl)
      (by rw [MakeChecks.laidMetH_plain _ _ _ (by kernel_rfl)]; exact laidMet_laidAll _ (by kernel_rfl) (by kernel_rfl))) ?_
  intro w tape i _ hsh _ hok hpre _
  obtain ⟨_, _, _, fn', hfn', _, _, _, _, hval⟩ := hok
  obtain rfl : fn' = Tryd.f8 := Option.some.inj (hfn'.symm.trans Tryd.func8)
  obtain ⟨⟨⟨ds, gs, before, hw, _⟩, _⟩, _⟩ := hpre
  refine (octetBack_calls (w.forCall tape i) w.heap.size i.args ds gs before hval (DataW.Whole.of_heap (by rfl) hw) hsh).mono fun e W' ⟨v, he, hp⟩ => ?_
  subst he
  exact ChangeSpec.post_blind hp
theorem octetBack_over : Rows.octetBackRow.holds Tryd.pinned (OpenSpec.ofChange Rows.octetBackSpec) :=
  OpenClaim.holds_of_wide 8 Tryd.f8 rfl rfl rfl rfl rfl rfl rfl ⟨rfl, rfl, rfl, rfl, rfl⟩ rfl rfl rfl rfl rfl (by kernel_rfl) Tryd.func8 (by kernel_rfl)
    (of_decide_eq_true (by kernel_rfl)) (by unfold Func.isWrapper; first | (rw [if_pos (by decide +kernel)]; kernel_rfl) | (rw [if_neg (by decide +kernel)]; exact ⟨rfl, rfl⟩))
    (fun os started H enc _ => octetBack_lifted os started H enc)
theorem octetBack_holds : Rows.OctetBackCardSaid :=
  Claim7.holds_tied_plain_at .later [] [.data, .data, .data, .data, .pinned] true (true, "8d5e7db44124402822449b0c44f1dba19f7a7f079f4be68bdf55145ff6a805a6") false octetBack_over (fun _ h => by cases h) (by kernel_rfl) (fun _ h => by cases h) octetBack_row_tie rfl ⟨rfl, rfl⟩ (by kernel_rfl) rfl
    (fun f fn hf hfn => by
      obtain rfl : f = 8 := Option.some.inj ((show Tryd.prog.funcNamed "progeny/progenylaw01.OctetBack" = some 8 by kernel_rfl).symm.trans hf) |>.symm
      obtain rfl : fn = Tryd.f8 := (Option.some.inj (Tryd.func8.symm.trans hfn)).symm
      exact ⟨by kernel_rfl, fun j t ht => by
        rw [Tryd.params8] at ht
        have hm : t ∈ [29, 22, 26] := by simpa using Array.mem_of_getElem? ht
        have hall : ([29, 22, 26].all fun u => !Tryd.prog.wantsStandIn u) = true := by kernel_rfl
        exact (show Tryd.prog.wantsStandIn t = false by simpa using List.all_eq_true.1 hall t hm)⟩)
    (by kernel_rfl)
end Go.Proofs.YteecoopnleidaaaDoor
