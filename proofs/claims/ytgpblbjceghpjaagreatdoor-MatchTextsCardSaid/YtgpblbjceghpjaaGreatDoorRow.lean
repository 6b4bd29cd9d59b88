/- MatchTexts: the text of a condition, and the condition of a text, for all inputs. -/
import Derived.Test.YtgpblbjceghpjaaGreatDoorRows
import Derived.Test.YtgpblbjceghpjaaGreatDoorE2
import Derived.Test.YtgpblbjceghpjaaGreatDoorB1
import Derived.Test.YtgpblbjceghpjaaGreatDoorA3
import Derived.Test.YtgpblbjceghpjaaGreatDoorS1
import Derived.Test.YtgpblbjceghpjaaGreatDoorTie
import Derived.Test.YtgpblbjceghpjaaGreatDoorCards
import Derived.WalkKit
import Derived.Lib.Walk
import Derived.Lib.SliceRun
import Derived.Deep.LoopGhost
import Derived.Shelf.RegionOpenPlain
import Derived.ProofKit
import Derived.OpenShut
import Derived.ShutString
import Derived.ChangeOld
import Derived.Below
import Derived.SizedLaws
import Derived.Carry
import Derived.Lay
import Derived.LaidOnce
import Derived.SevenTiedAt
import Derived.MakeChecks
import Derived.Handed
namespace Go.Proofs.YtgpblbjceghpjaaGreatDoor
open Go.ChangeShapes Go.WideShapes Go.ChangeAt Go.RowKit Go.AE Go.Sh
set_option linter.unusedVariables false
set_option maxRecDepth 100000
theorem own : ownKnob Tryz.prog.godebug = none := by kernel_rfl
theorem laidOut : laidOutB Tryz.prog = true := by kernel_rfl
theorem mixed : Tryz.prog.follows .mixedOrders = true := by kernel_rfl
def rho : Go.Shelf.Ren := ⟨fun _ => 82, fun t => bif Nat.beq t 3 then 3 else bif Nat.beq t 4 then 4 else bif Nat.beq t 28 then 110 else t, fun g => g⟩
theorem lays : Go.Proofs.Lays.n112 Tryz.prog rho := ⟨mixed, Tryz.func82, Tryz.underlying0, Tryz.isAgg0, Tryz.sizeOf0, Tryz.zeroValue0, Tryz.underlying3, Tryz.isAgg3, Tryz.sizeOf3, Tryz.zeroValue3, Tryz.underlying4, Tryz.isAgg4, Tryz.sizeOf4, Tryz.zeroValue4, Tryz.underlying110, Tryz.isAgg110, Tryz.sizeOf110, Tryz.zeroValue110⟩
theorem ext_ok : ∀ f args r outs, Go.AE.ext f args = some (some (r, outs)) → FnOk (fun _ => none) Tryz.prog f args r outs := by
  intro f args r outs h
  unfold Go.AE.ext at h
  cases hf0 : Nat.beq f 82 with
  | true =>
    rw [hf0] at h
    obtain rfl := Nat.eq_of_beq_eq_true hf0
    exact reverse_ok lays args r outs (Option.some.inj h)
  | false =>
    rw [hf0] at h
    simp only [cond_false] at h
    cases hf1 : Nat.beq f 16 with
    | true =>
      rw [hf1] at h
      obtain rfl := Nat.eq_of_beq_eq_true hf1
      exact strRep_ok Tryz.lays105 Tryz.Builder_Extra_105 args r outs (Option.some.inj h)
    | false =>
      rw [hf1] at h
      simp only [cond_false] at h
      cases hf2 : Nat.beq f 18 with
      | true =>
        rw [hf2] at h
        obtain rfl := Nat.eq_of_beq_eq_true hf2
        exact strJoin_ok Tryz.lays156 Tryz.Builder_Extra_156 args r outs (Option.some.inj h)
      | false =>
        rw [hf2] at h
        simp only [cond_false] at h
        cases hf3 : Nat.beq f 41 with
        | true =>
          rw [hf3] at h
          obtain rfl := Nat.eq_of_beq_eq_true hf3
          exact trimR_ok Tryz.lays162 args r outs (Option.some.inj h)
        | false =>
          rw [hf3] at h
          simp only [cond_false] at h
          cases h
theorem opens_43 {H : Type} {enc : TypeId × Value → H} {w : World} : Opens enc Tryz.prog w 43 (fun a => (eField a).cells) wf_T_api_Field :=
  (opens_struct (β := Str × Int × Int × Unit) (encA := eField) Tryz.underlying43 (by kernel_rfl) (opensF_cons (sz := 1) rfl rfl (by kernel_rfl) (opens_str Tryz.underlying9 (by kernel_rfl)) (opensF_cons (sz := 1) rfl rfl (by kernel_rfl) (opens_int Tryz.underlying3 (by kernel_rfl)) (opensF_cons (sz := 1) rfl rfl (by kernel_rfl) (opens_int Tryz.underlying3 (by kernel_rfl)) opensF_nil))) (fun b => ⟨b.1, b.2.1, b.2.2.1⟩) (fun a => (a.fName, a.fAt, a.fBytes, ())) (fun _ => rfl) (fun _ => rfl)).mono (fun a ⟨b, e, h⟩ => by subst e; exact h)
theorem opens_41 {H : Type} {enc : TypeId × Value → H} {w : World} : Opens enc Tryz.prog w 41 (fun a => (eType a).cells) wf_T_api_Type :=
  (opens_struct (β := Str × Int × Int × Int × (List T_api_Field) × Int × Bool × Bool × Unit) (encA := eType) Tryz.underlying41 (by kernel_rfl) (opensF_cons (sz := 1) rfl rfl (by kernel_rfl) (opens_str Tryz.underlying9 (by kernel_rfl)) (opensF_cons (sz := 1) rfl rfl (by kernel_rfl) (opens_int Tryz.underlying3 (by kernel_rfl)) (opensF_cons (sz := 1) rfl rfl (by kernel_rfl) (opens_int Tryz.underlying3 (by kernel_rfl)) (opensF_cons (sz := 1) rfl rfl (by kernel_rfl) (opens_int Tryz.underlying3 (by kernel_rfl)) (opensF_cons (sz := 1) rfl rfl (by kernel_rfl) (opens_slice (encE := eField) (sz := 3) Tryz.underlying39 (by kernel_rfl) (by kernel_rfl) (by decide) opens_43) (opensF_cons (sz := 1) rfl rfl (by kernel_rfl) (opens_int Tryz.underlying3 (by kernel_rfl)) (opensF_cons (sz := 1) rfl rfl (by kernel_rfl) (opens_bool Tryz.underlying4 (by kernel_rfl)) (opensF_cons (sz := 1) rfl rfl (by kernel_rfl) (opens_bool Tryz.underlying4 (by kernel_rfl)) opensF_nil)))))))) (fun b => ⟨b.1, b.2.1, b.2.2.1, b.2.2.2.1, b.2.2.2.2.1, b.2.2.2.2.2.1, b.2.2.2.2.2.2.1, b.2.2.2.2.2.2.2.1⟩) (fun a => (a.fName, a.fParent, a.fMin, a.fSize, a.fFields, a.fKey, a.fUnique, a.fLast, ())) (fun _ => rfl) (fun _ => rfl)).mono (fun a ⟨b, e, h⟩ => by subst e; exact h)
theorem opens_45 {H : Type} {enc : TypeId × Value → H} {w : World} : Opens enc Tryz.prog w 45 (fun a => (eSearch a).cells) wf_T_api_Search :=
  (opens_struct (β := Str × Int × Int × Str × Unit) (encA := eSearch) Tryz.underlying45 (by kernel_rfl) (opensF_cons (sz := 1) rfl rfl (by kernel_rfl) (opens_str Tryz.underlying9 (by kernel_rfl)) (opensF_cons (sz := 1) rfl rfl (by kernel_rfl) (opens_int Tryz.underlying3 (by kernel_rfl)) (opensF_cons (sz := 1) rfl rfl (by kernel_rfl) (opens_int Tryz.underlying3 (by kernel_rfl)) (opensF_cons (sz := 1) rfl rfl (by kernel_rfl) (opens_str Tryz.underlying9 (by kernel_rfl)) opensF_nil)))) (fun b => ⟨b.1, b.2.1, b.2.2.1, b.2.2.2.1⟩) (fun a => (a.fName, a.fType, a.fField, a.fSparse, ())) (fun _ => rfl) (fun _ => rfl)).mono (fun a ⟨b, e, h⟩ => by subst e; exact h)
theorem opens_25 {H : Type} {enc : TypeId × Value → H} {w : World} : Opens enc Tryz.prog w 25 (fun a => (eBase a).cells) wf_T_api_Base :=
  (opens_struct (β := Str × Int × (List T_api_Type) × (List T_api_Search) × Unit) (encA := eBase) Tryz.underlying25 (by kernel_rfl) (opensF_cons (sz := 1) rfl rfl (by kernel_rfl) (opens_str Tryz.underlying9 (by kernel_rfl)) (opensF_cons (sz := 1) rfl rfl (by kernel_rfl) (opens_int Tryz.underlying3 (by kernel_rfl)) (opensF_cons (sz := 1) rfl rfl (by kernel_rfl) (opens_slice (encE := eType) (sz := 8) Tryz.underlying22 (by kernel_rfl) (by kernel_rfl) (by decide) opens_41) (opensF_cons (sz := 1) rfl rfl (by kernel_rfl) (opens_slice (encE := eSearch) (sz := 4) Tryz.underlying23 (by kernel_rfl) (by kernel_rfl) (by decide) opens_45) opensF_nil)))) (fun b => ⟨b.1, b.2.1, b.2.2.1, b.2.2.2.1⟩) (fun a => (a.fName, a.fKind, a.fTypes, a.fIndexes, ())) (fun _ => rfl) (fun _ => rfl)).mono (fun a ⟨b, e, h⟩ => by subst e; exact h)
theorem opens_48 {H : Type} {enc : TypeId × Value → H} {w : World} : Opens enc Tryz.prog w 48 (fun a => (eTerm a).cells) wf_T_api_Term :=
  (opens_struct (β := Str × Int × Str × Unit) (encA := eTerm) Tryz.underlying48 (by kernel_rfl) (opensF_cons (sz := 1) rfl rfl (by kernel_rfl) (opens_str Tryz.underlying9 (by kernel_rfl)) (opensF_cons (sz := 1) rfl rfl (by kernel_rfl) (opens_int Tryz.underlying3 (by kernel_rfl)) (opensF_cons (sz := 1) rfl rfl (by kernel_rfl) (opens_str Tryz.underlying9 (by kernel_rfl)) opensF_nil))) (fun b => ⟨b.1, b.2.1, b.2.2.1⟩) (fun a => (a.fField, a.fOp, a.fValue, ())) (fun _ => rfl) (fun _ => rfl)).mono (fun a ⟨b, e, h⟩ => by subst e; exact h)
theorem opens_28 {H : Type} {enc : TypeId × Value → H} {w : World} : Opens enc Tryz.prog w 28 (fun a => (eCase a).cells) wf_T_progenylaw12_Case :=
  (opens_struct (β := T_api_Base × Int × (List (List T_api_Term)) × Unit) (encA := eCase) Tryz.underlying28 (by kernel_rfl) (opensF_cons (sz := 4) rfl rfl (by kernel_rfl) opens_25 (opensF_cons (sz := 1) rfl rfl (by kernel_rfl) (opens_int Tryz.underlying3 (by kernel_rfl)) (opensF_cons (sz := 1) rfl rfl (by kernel_rfl) (opens_slice (encE := (fun x => (V.sl 0 3 (List.map eTerm x)))) (sz := 1) Tryz.underlying26 (by kernel_rfl) (by kernel_rfl) (by decide) (opens_slice (encE := eTerm) (sz := 3) Tryz.underlying46 (by kernel_rfl) (by kernel_rfl) (by decide) opens_48)) opensF_nil))) (fun b => ⟨b.1, b.2.1, b.2.2.1⟩) (fun a => (a.fBase, a.fType, a.fWhen, ())) (fun _ => rfl) (fun _ => rfl)).mono (fun a ⟨b, e, h⟩ => by subst e; exact h)
theorem matchTexts_calls {H : Type} {enc : TypeId × Value → H} (W : World) (base : Nat) (args : Array Value) (ds gs : List (DataW H)) (before : List MemPlace)
    (hval0 : ∀ (j : Nat) t v, Tryz.f3.params[j]? = some t → args[j]? = some v → Value.okWide Tryz.prog W .any base t v)
    (hW : DataW.Whole enc Tryz.prog Tryz.f3.params.toList Rows.matchTextsSpec.vars false W args.toList ds gs before) (hsh : W.ShapedOpen Tryz.prog) :
    Calls Tryz.prog 3 args W fun e W' => ∃ v, e = .returned v ∧ Rows.matchTextsSpec.post enc Tryz.prog Tryz.f3 false true false false W args v W' := by
  have hval : ∀ (j : Nat) t v, Tryz.f3.params[j]? = some t → args[j]? = some v → Value.okWide Tryz.prog W .any base t v := hval0
  have hW' := hW
  obtain ⟨p, q, hA0, hV, rfl, hfz, hnd⟩ := hW
  have hA : DataW.TrodAll enc Tryz.prog W 0 (fun _ => true) true Tryz.f3.params.toList args.toList ds p := hA0
  rw [Tryz.params3] at hA hval
  obtain ⟨v0, vs0, d0, ds0, p0, q0, hargs, rfl, rfl, h0, r0⟩ := trodAll_cons hA
  obtain ⟨v1, vs1, d1, ds1, p1, q1, rfl, rfl, rfl, h1, r1⟩ := trodAll_cons r0
  obtain ⟨rfl, rfl, rfl⟩ := trodAll_nil r1
  obtain rfl : args = #[v0, v1] := by cases args; simp_all
  obtain ⟨rfl, rfl⟩ := trodVars_none hV
  have lt0 : ∀ x ∈ p0, x.block < W.heap.size := by obtain ⟨m, hm⟩ := h0; exact DataW.trod_lt m _ _ _ hm
  obtain ⟨c0, rfl, _⟩ := okWide_struct Tryz.underlying28 (hval 0 28 v0 rfl rfl)
  obtain ⟨a0, w0, e0⟩ := h0.elim fun m hm => (opens_28).ok m _ _ hm
  have t0 : RT W noE noS noO [0, 0] (eCase a0) _ := rt_of_cells e0 ⟨fun _ => ⟨_, rfl⟩, fun _ => rfl⟩ (fun h => by cases h) (fun _ h => by cases h)
  have lt1 : ∀ x ∈ p1, x.block < W.heap.size := by obtain ⟨m, hm⟩ := h1; exact DataW.trod_lt m _ _ _ hm
  obtain ⟨c1, rfl⟩ := okWide_string Tryz.underlying9 (hval 1 9 v1 rfl rfl)
  obtain ⟨a1, w1, e1⟩ := h1.elim fun m hm => ((opens_str Tryz.underlying9 (by kernel_rfl))).ok m _ _ hm
  have t1 : RT W noE noS noO [0, 1] (V.str a1) _ := rt_of_cells e1 ⟨(fun h => by cases h), (fun ⟨_, h⟩ => by cases h)⟩ (fun _ => rfl) (fun _ h => by cases h)
  clear hA0 hval0
  obtain ⟨k, hk⟩ := law_law12_MatchTexts a0 a1 w0 w1
  have hev := (law12_MatchTexts_ok k a0 a1).trans (by rw [hk]; rfl : _ = some (V.bool true, []))
  refine (row_calls (hm := mixed) ext_ok hev noGlob rfl (fun i h h' => ?_)).mono fun e W' ⟨he, bel⟩ => ?_
  · match i, h with
    | 0, _ => exact t0
    | 1, _ => exact t1
  · subst he
    exact ⟨_, rfl, _, _, _, [], _, [], hW', trodAll_mk1 (shut_bool Tryz.underlying4 _), (trodAll_cons_mk (Below.trod laidOut (by kernel_rfl) (of_decide_eq_true (by kernel_rfl)) h0 bel lt0) (trodAll_cons_mk (Below.trod laidOut (by kernel_rfl) (of_decide_eq_true (by kernel_rfl)) h1 bel lt1) trodAll_mk0)), rfl, bel.frame _, fun h => by cases h⟩
theorem matchTexts_lifted (os : Os) (started : os.Started) (H : Type) (enc : TypeId × Value → H) :
    ReturnsInHanded {} Tryz.checked os 3 .any (fun w args => (Rows.matchTextsSpec.pre enc Tryz.prog Tryz.f3 [] false w args ∧ laidMetH Tryz.prog Rows.matchTextsRow.laid w) ∧ sizedMet enc Tryz.prog Tryz.f3 (OpenSpec.ofChange Rows.matchTextsSpec) false w args) (Rows.matchTextsSpec.post enc Tryz.prog Tryz.f3 false true false false) := by
  refine returnsInHanded_of_calls own started (by kernel_rfl)
    (ChangeSpec.witness_shaped (enc := enc) (C := Tryz.checked) (os := os) (X := fun w _ => laidMetH Tryz.prog Rows.matchTextsRow.laid w) false (World.laidAll Tryz.prog os Rows.matchTextsRow.laid) #[.agg #[.string ByteArray.empty, .int .i64 0, .slice none 0 0, .slice none 0 0, .int .i64 0, .slice none 0 0], .string ByteArray.empty] 8 (World.laidAll_os _ _ _)
      (World.shaped_of_ZipB (by kernel_rfl) (by kernel_rfl)) (by kernel_rfl) (by kernel_rfl) (by kernel_rfl)
      (by rw [MakeChecks.laidMetH_plain _ _ _ (by kernel_rfl)]; exact laidMet_laidAll _ (by kernel_rfl) (by kernel_rfl))) ?_
  intro w tape i _ hsh _ hok hpre _
  obtain ⟨_, _, _, fn', hfn', _, _, _, _, hval⟩ := hok
  obtain rfl : fn' = Tryz.f3 := Option.some.inj (hfn'.symm.trans Tryz.func3)
  obtain ⟨⟨⟨ds, gs, before, hw, _⟩, hlaid⟩, _⟩ := hpre
  refine (matchTexts_calls (w.forCall tape i) w.heap.size i.args ds gs before hval (DataW.Whole.of_heap (by rfl) hw) hsh).mono fun e W' ⟨v, he, hp⟩ => ?_
  subst he
  exact ChangeSpec.post_blind hp
theorem matchTexts_over : Rows.matchTextsRow.holds Tryz.pinned (OpenSpec.ofChange Rows.matchTextsSpec) :=
  OpenClaim.holds_of_wide 3 Tryz.f3 rfl rfl rfl rfl rfl rfl rfl ⟨rfl, rfl, rfl, rfl, rfl⟩ rfl rfl rfl rfl rfl (by kernel_rfl) Tryz.func3 (by kernel_rfl)
    (of_decide_eq_true (by kernel_rfl)) (by unfold Func.isWrapper; first | (rw [if_pos (by decide +kernel)]; kernel_rfl) | (rw [if_neg (by decide +kernel)]; exact ⟨rfl, rfl⟩))
    (fun os started H enc _ => matchTexts_lifted os started H enc)
theorem matchTexts_holds : Rows.MatchTextsCardSaid :=
  Claim7.holds_tied_plain_at .later [] [.data, .pinned] true (true, "b149a04c01dceeaea3e9ebfe44523471d91b87be9722420317613731069846b6") false matchTexts_over (fun _ h => by cases h) (by kernel_rfl) (fun _ h => by cases h) matchTexts_row_tie rfl ⟨rfl, rfl⟩ (by kernel_rfl) rfl
    (fun f fn hf hfn => by
      obtain rfl : f = 3 := Option.some.inj ((show Tryz.prog.funcNamed "progeny/progenylaw12.MatchTexts" = some 3 by kernel_rfl).symm.trans hf) |>.symm
      obtain rfl : fn = Tryz.f3 := (Option.some.inj (Tryz.func3.symm.trans hfn)).symm
      exact ⟨by kernel_rfl, fun j t ht => by
        rw [Tryz.params3] at ht
        have hm : t ∈ [28, 9] := by simpa using Array.mem_of_getElem? ht
        have hall : ([28, 9].all fun u => !Tryz.prog.wantsStandIn u) = true := by kernel_rfl
        exact (show Tryz.prog.wantsStandIn t = false by simpa using List.all_eq_true.1 hall t hm)⟩)
    (by kernel_rfl)
end Go.Proofs.YtgpblbjceghpjaaGreatDoor
