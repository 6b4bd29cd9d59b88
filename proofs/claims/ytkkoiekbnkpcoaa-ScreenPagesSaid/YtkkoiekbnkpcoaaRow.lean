/- The pictures of a message with a long first text are those of the reference. Conditions: none beside the statement's own. -/
import Derived.Test.YtkkoiekbnkpcoaaRows
import Derived.Test.YtkkoiekbnkpcoaaE3
import Derived.Test.YtkkoiekbnkpcoaaB1
import Derived.Test.YtkkoiekbnkpcoaaA3
import Derived.Test.YtkkoiekbnkpcoaaS1
import Derived.WalkKit
import Derived.Lib.Walk
import Derived.Lib.SliceRun
import Derived.Deep.LoopGhost
import Derived.Shelf.RegionOpenPlain
import Derived.ProofKit
import Derived.OpenShut
import Derived.ShutString
import Derived.ChangeOld
import Derived.Below
import Derived.SizedLaws
import Derived.Carry
namespace Go.Proofs.Ytkkoiekbnkpcoaa
open Go.ChangeShapes Go.WideShapes Go.ChangeAt Go.RowKit Go.AE Go.Sh
set_option linter.unusedVariables false
set_option maxRecDepth 100000
theorem own : ownKnob Try.prog.godebug = none := by kernel_rfl
theorem laidOut : laidOutB Try.prog = true := by kernel_rfl
theorem mixed : Try.prog.follows .mixedOrders = true := by kernel_rfl
theorem ext_ok : ∀ f args r outs, Go.AE.ext f args = some (some (r, outs)) → FnOk Try.prog f args r outs := by
  intro f args r outs h
  unfold Go.AE.ext at h
  cases hf0 : Nat.beq f 68 with
  | true =>
    rw [hf0] at h
    obtain rfl := Nat.eq_of_beq_eq_true hf0
    exact strRep_ok Try.lays105 Try.Builder_Extra_105 args r outs (Option.some.inj h)
  | false =>
    rw [hf0] at h
    simp only [cond_false] at h
    cases hf1 : Nat.beq f 67 with
    | true =>
      rw [hf1] at h
      obtain rfl := Nat.eq_of_beq_eq_true hf1
      exact slRep_ok ⟨_, Try.func67, by decide, rfl⟩ SRep_walk args r outs (Option.some.inj h)
    | false =>
      rw [hf1] at h
      simp only [cond_false] at h
      cases hf2 : (Nat.beq f 64 && emptyArg args) with
      | true =>
        rw [hf2] at h
        simp only [cond_true] at h
        cases h
      | false =>
        rw [hf2] at h
        simp only [cond_false] at h
        cases h
theorem opens_59 {H : Type} {enc : TypeId × Value → H} {w : World} : Opens enc Try.prog w 59 (fun a => (enc_T_api_Mark a).cells) wf_T_api_Mark :=
  (opens_struct (β := Int × Int × Str × Unit) (encA := enc_T_api_Mark) Try.underlying59 (by kernel_rfl) (opensF_cons (sz := 1) rfl rfl (by kernel_rfl) (opens_int Try.underlying3 (by kernel_rfl)) (opensF_cons (sz := 1) rfl rfl (by kernel_rfl) (opens_int Try.underlying3 (by kernel_rfl)) (opensF_cons (sz := 1) rfl rfl (by kernel_rfl) (opens_str Try.underlying9 (by kernel_rfl)) opensF_nil))) (fun b => ⟨b.1, b.2.1, b.2.2.1⟩) (fun a => (a.fRow, a.fColumn, a.fText, ())) (fun _ => rfl) (fun _ => rfl)).mono (fun a ⟨b, e, h⟩ => by subst e; exact h)
theorem opens_56 {H : Type} {enc : TypeId × Value → H} {w : World} : Opens enc Try.prog w 56 (fun a => (enc_T_api_Slot a).cells) wf_T_api_Slot :=
  (opens_struct (β := Str × Int × Int × Int × Int × Int × Int × Unit) (encA := enc_T_api_Slot) Try.underlying56 (by kernel_rfl) (opensF_cons (sz := 1) rfl rfl (by kernel_rfl) (opens_str Try.underlying9 (by kernel_rfl)) (opensF_cons (sz := 1) rfl rfl (by kernel_rfl) (opens_int Try.underlying3 (by kernel_rfl)) (opensF_cons (sz := 1) rfl rfl (by kernel_rfl) (opens_int Try.underlying3 (by kernel_rfl)) (opensF_cons (sz := 1) rfl rfl (by kernel_rfl) (opens_int Try.underlying3 (by kernel_rfl)) (opensF_cons (sz := 1) rfl rfl (by kernel_rfl) (opens_int Try.underlying3 (by kernel_rfl)) (opensF_cons (sz := 1) rfl rfl (by kernel_rfl) (opens_int Try.underlying3 (by kernel_rfl)) (opensF_cons (sz := 1) rfl rfl (by kernel_rfl) (opens_int Try.underlying5 (by kernel_rfl)) opensF_nil))))))) (fun b => ⟨b.1, b.2.1, b.2.2.1, b.2.2.2.1, b.2.2.2.2.1, b.2.2.2.2.2.1, b.2.2.2.2.2.2.1⟩) (fun a => (a.fName, a.fRow, a.fColumn, a.fBytes, a.fIn, a.fOut, a.fFill, ())) (fun _ => rfl) (fun _ => rfl)).mono (fun a ⟨b, e, h⟩ => by subst e; exact h)
theorem opens_25 {H : Type} {enc : TypeId × Value → H} {w : World} : Opens enc Try.prog w 25 (fun a => (enc_T_api_Form a).cells) wf_T_api_Form :=
  (opens_struct (β := Int × Int × (List T_api_Mark) × (List T_api_Slot) × Unit) (encA := enc_T_api_Form) Try.underlying25 (by kernel_rfl) (opensF_cons (sz := 1) rfl rfl (by kernel_rfl) (opens_int Try.underlying3 (by kernel_rfl)) (opensF_cons (sz := 1) rfl rfl (by kernel_rfl) (opens_int Try.underlying3 (by kernel_rfl)) (opensF_cons (sz := 1) rfl rfl (by kernel_rfl) (opens_slice (encE := enc_T_api_Mark) (sz := 3) Try.underlying22 (by kernel_rfl) (by kernel_rfl) (by decide) opens_59) (opensF_cons (sz := 1) rfl rfl (by kernel_rfl) (opens_slice (encE := enc_T_api_Slot) (sz := 7) Try.underlying23 (by kernel_rfl) (by kernel_rfl) (by decide) opens_56) opensF_nil)))) (fun b => ⟨b.1, b.2.1, b.2.2.1, b.2.2.2.1⟩) (fun a => (a.fRows, a.fColumns, a.fMarks, a.fFields, ())) (fun _ => rfl) (fun _ => rfl)).mono (fun a ⟨b, e, h⟩ => by subst e; exact h)
theorem screenPages_lifted (os : Os) (started : os.Started) (H : Type) (enc : TypeId × Value → H) :
    ReturnsInHanded {} Try.checked os 6 .any (Rows.screenPagesSpec.pre6 enc Try.prog Try.f6 Rows.screenPagesRow.domain false) (Rows.screenPagesSpec.post enc Try.prog Try.f6 false true false false) := by
  refine returnsInHanded_of_change_sized (C := Try.checked) own started (by kernel_rfl) Try.func6
    (ChangeSpec.witness6 (enc := enc) (C := Try.checked) false ⟨#[], #[.agg #[.int .i64 0, .int .i64 0, .slice none 0 0, .slice none 0 0], .slice none 0 0], []⟩ 8 (by kernel_rfl) (by kernel_rfl) (by kernel_rfl) (by kernel_rfl)) ?_
  intro W base args ds gs before hval0 hW hcnd hsz0 _
  have hval : ∀ (j : Nat) t v, Try.f6.params[j]? = some t → args[j]? = some v → Value.okWide Try.prog W .any base t v := hval0
  have hW' := hW
  obtain ⟨p, q, hA0, hV, rfl, hfz, hnd⟩ := hW
  have hA : DataW.TrodAll enc Try.prog W 0 (fun _ => true) true Try.f6.params.toList args.toList ds p := hA0
  rw [Try.params6] at hA hval
  obtain ⟨v0, vs0, d0, ds0, p0, q0, hargs, rfl, rfl, h0, r0⟩ := trodAll_cons hA
  obtain ⟨v1, vs1, d1, ds1, p1, q1, rfl, rfl, rfl, h1, r1⟩ := trodAll_cons r0
  obtain ⟨rfl, rfl, rfl⟩ := trodAll_nil r1
  obtain rfl : args = #[v0, v1] := by cases args; simp_all
  obtain ⟨rfl, rfl⟩ := trodVars_none hV
  have lt0 : ∀ x ∈ p0, x.block < W.heap.size := by obtain ⟨m, hm⟩ := h0; exact DataW.trod_lt m _ _ _ hm
  obtain ⟨c0, rfl, _⟩ := okWide_struct Try.underlying25 (hval 0 25 v0 rfl rfl)
  obtain ⟨a0, w0, e0⟩ := h0.elim fun m hm => (opens_25).ok m _ _ hm
  have t0 : RT W noE noS noO [0, 0] (enc_T_api_Form a0) _ := rt_of_cells e0 ⟨fun _ => ⟨_, rfl⟩, fun _ => rfl⟩ (fun h => by cases h) (fun _ h => by cases h)
  have lt1 : ∀ x ∈ p1, x.block < W.heap.size := by obtain ⟨m, hm⟩ := h1; exact DataW.trod_lt m _ _ _ hm
  obtain ⟨c1, cl1, cc1, rfl⟩ := okWide_slice Try.underlying26 (hval 1 26 v1 rfl rfl)
  obtain ⟨a1, w1, e1⟩ := h1.elim fun m hm => ((opens_slice (encE := V.str) (sz := 1) Try.underlying26 (by kernel_rfl) (by kernel_rfl) (by decide) (opens_str Try.underlying9 (by kernel_rfl)))).ok m _ _ hm
  have t1 : RT W noE noS noO [0, 1] (V.sl 0 1 (List.map V.str a1)) _ := rt_of_cells e1 ⟨(fun h => by cases h), (fun ⟨_, h⟩ => by cases h)⟩ (fun _ => rfl) (fun _ h => by cases h)
  clear hA0 hval0 hsz0
  obtain ⟨k, hk⟩ := law_law24_ScreenPages a0 a1 w0 w1
  have hev := (law24_ScreenPages_ok k a0 a1).trans (by rw [hk]; rfl : _ = some (V.bool true, []))
  refine (row_calls (hm := mixed) ext_ok hev rfl (fun i h h' => ?_)).mono fun e W' ⟨he, bel⟩ => ?_
  · match i, h with
    | 0, _ => exact t0
    | 1, _ => exact t1
  · subst he
    exact ⟨_, rfl, _, _, _, [], _, [], hW', trodAll_mk1 (shut_bool Try.underlying4 _), (trodAll_cons_mk (Below.trod laidOut (by kernel_rfl) (of_decide_eq_true (by kernel_rfl)) h0 bel lt0) (trodAll_cons_mk (Below.trod laidOut (by kernel_rfl) (of_decide_eq_true (by kernel_rfl)) h1 bel lt1) trodAll_mk0)), rfl, bel.frame _, fun h => by cases h⟩
theorem screenPages_over : Rows.screenPagesRow.holds Try.pinned (OpenSpec.ofChange Rows.screenPagesSpec) :=
  OpenClaim.holds_of_wide 6 Try.f6 rfl rfl rfl rfl rfl rfl rfl ⟨rfl, rfl, rfl, rfl, rfl⟩ rfl rfl rfl rfl rfl (by kernel_rfl) Try.func6 (by kernel_rfl)
    (of_decide_eq_true (by kernel_rfl)) (by unfold Func.isWrapper; first | (rw [if_pos (by decide +kernel)]; kernel_rfl) | (rw [if_neg (by decide +kernel)]; exact ⟨rfl, rfl⟩))
    (fun os started H enc _ => screenPages_lifted os started H enc)
theorem screenPages_holds : Rows.ScreenPagesSaid := screenPages_over
end Go.Proofs.Ytkkoiekbnkpcoaa
