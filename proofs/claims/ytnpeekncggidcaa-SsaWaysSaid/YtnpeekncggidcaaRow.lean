/- The names of the types on a way, in order, any left out, are right arguments whose types are told, and the same ones the other way round are not. -/
import Derived.Test.YtnpeekncggidcaaRows
import Derived.Test.YtnpeekncggidcaaE2
import Derived.Test.YtnpeekncggidcaaB1
import Derived.Test.YtnpeekncggidcaaA3
import Derived.Test.YtnpeekncggidcaaS1
import Derived.WalkKit
import Derived.Lib.Walk
import Derived.Lib.SliceRun
import Derived.Deep.LoopGhost
import Derived.Shelf.RegionOpenPlain
import Derived.ProofKit
import Derived.OpenShut
import Derived.ShutString
import Derived.ChangeOld
import Derived.Below
import Derived.SizedLaws
import Derived.Carry
namespace Go.Proofs.Ytnpeekncggidcaa
open Go.ChangeShapes Go.WideShapes Go.ChangeAt Go.RowKit Go.AE Go.Sh
set_option linter.unusedVariables false
set_option maxRecDepth 100000
theorem own : ownKnob Try.prog.godebug = none := by kernel_rfl
theorem laidOut : laidOutB Try.prog = true := by kernel_rfl
theorem mixed : Try.prog.follows .mixedOrders = true := by kernel_rfl
def rho : Go.Shelf.Ren := ⟨fun _ => 92, fun t => bif Nat.beq t 3 then 3 else bif Nat.beq t 4 then 4 else bif Nat.beq t 28 then 33 else t, fun g => g⟩
theorem lays : Go.Proofs.Lays.n112 Try.prog rho := ⟨mixed, Try.func92, Try.underlying0, Try.isAgg0, Try.sizeOf0, Try.zeroValue0, Try.underlying3, Try.isAgg3, Try.sizeOf3, Try.zeroValue3, Try.underlying4, Try.isAgg4, Try.sizeOf4, Try.zeroValue4, Try.underlying33, Try.isAgg33, Try.sizeOf33, Try.zeroValue33⟩
theorem ext_ok : ∀ f args r outs, Go.AE.ext f args = some (some (r, outs)) → FnOk Try.prog f args r outs := by
  intro f args r outs h
  unfold Go.AE.ext at h
  cases hf0 : Nat.beq f 71 with
  | true =>
    rw [hf0] at h
    obtain rfl := Nat.eq_of_beq_eq_true hf0
    exact strIdx_ok Try.lays137 args r outs (Option.some.inj h)
  | false =>
    rw [hf0] at h
    simp only [cond_false] at h
    cases hf1 : Nat.beq f 92 with
    | true =>
      rw [hf1] at h
      obtain rfl := Nat.eq_of_beq_eq_true hf1
      exact reverse_ok lays args r outs (Option.some.inj h)
    | false =>
      rw [hf1] at h
      simp only [cond_false] at h
      cases hf2 : Nat.beq f 23 with
      | true =>
        rw [hf2] at h
        obtain rfl := Nat.eq_of_beq_eq_true hf2
        exact strRep_ok Try.lays105 Try.Builder_Extra_105 args r outs (Option.some.inj h)
      | false =>
        rw [hf2] at h
        simp only [cond_false] at h
        cases hf3 : Nat.beq f 45 with
        | true =>
          rw [hf3] at h
          obtain rfl := Nat.eq_of_beq_eq_true hf3
          exact strJoin_ok Try.lays156 Try.Builder_Extra_156 args r outs (Option.some.inj h)
        | false =>
          rw [hf3] at h
          simp only [cond_false] at h
          cases h
theorem opens_48 {H : Type} {enc : TypeId × Value → H} {w : World} : Opens enc Try.prog w 48 (fun a => (eField a).cells) wf_T_api_Field :=
  (opens_struct (β := Str × Int × Int × Unit) (encA := eField) Try.underlying48 (by kernel_rfl) (opensF_cons (sz := 1) rfl rfl (by kernel_rfl) (opens_str Try.underlying9 (by kernel_rfl)) (opensF_cons (sz := 1) rfl rfl (by kernel_rfl) (opens_int Try.underlying3 (by kernel_rfl)) (opensF_cons (sz := 1) rfl rfl (by kernel_rfl) (opens_int Try.underlying3 (by kernel_rfl)) opensF_nil))) (fun b => ⟨b.1, b.2.1, b.2.2.1⟩) (fun a => (a.fName, a.fAt, a.fBytes, ())) (fun _ => rfl) (fun _ => rfl)).mono (fun a ⟨b, e, h⟩ => by subst e; exact h)
theorem opens_45 {H : Type} {enc : TypeId × Value → H} {w : World} : Opens enc Try.prog w 45 (fun a => (eType a).cells) wf_T_api_Type :=
  (opens_struct (β := Str × Int × Int × Int × (List T_api_Field) × Int × Bool × Bool × Unit) (encA := eType) Try.underlying45 (by kernel_rfl) (opensF_cons (sz := 1) rfl rfl (by kernel_rfl) (opens_str Try.underlying9 (by kernel_rfl)) (opensF_cons (sz := 1) rfl rfl (by kernel_rfl) (opens_int Try.underlying3 (by kernel_rfl)) (opensF_cons (sz := 1) rfl rfl (by kernel_rfl) (opens_int Try.underlying3 (by kernel_rfl)) (opensF_cons (sz := 1) rfl rfl (by kernel_rfl) (opens_int Try.underlying3 (by kernel_rfl)) (opensF_cons (sz := 1) rfl rfl (by kernel_rfl) (opens_slice (encE := eField) (sz := 3) Try.underlying43 (by kernel_rfl) (by kernel_rfl) (by decide) opens_48) (opensF_cons (sz := 1) rfl rfl (by kernel_rfl) (opens_int Try.underlying3 (by kernel_rfl)) (opensF_cons (sz := 1) rfl rfl (by kernel_rfl) (opens_bool Try.underlying4 (by kernel_rfl)) (opensF_cons (sz := 1) rfl rfl (by kernel_rfl) (opens_bool Try.underlying4 (by kernel_rfl)) opensF_nil)))))))) (fun b => ⟨b.1, b.2.1, b.2.2.1, b.2.2.2.1, b.2.2.2.2.1, b.2.2.2.2.2.1, b.2.2.2.2.2.2.1, b.2.2.2.2.2.2.2.1⟩) (fun a => (a.fName, a.fParent, a.fMin, a.fSize, a.fFields, a.fKey, a.fUnique, a.fLast, ())) (fun _ => rfl) (fun _ => rfl)).mono (fun a ⟨b, e, h⟩ => by subst e; exact h)
theorem opens_50 {H : Type} {enc : TypeId × Value → H} {w : World} : Opens enc Try.prog w 50 (fun a => (eSearch a).cells) wf_T_api_Search :=
  (opens_struct (β := Str × Int × Int × Str × Unit) (encA := eSearch) Try.underlying50 (by kernel_rfl) (opensF_cons (sz := 1) rfl rfl (by kernel_rfl) (opens_str Try.underlying9 (by kernel_rfl)) (opensF_cons (sz := 1) rfl rfl (by kernel_rfl) (opens_int Try.underlying3 (by kernel_rfl)) (opensF_cons (sz := 1) rfl rfl (by kernel_rfl) (opens_int Try.underlying3 (by kernel_rfl)) (opensF_cons (sz := 1) rfl rfl (by kernel_rfl) (opens_str Try.underlying9 (by kernel_rfl)) opensF_nil)))) (fun b => ⟨b.1, b.2.1, b.2.2.1, b.2.2.2.1⟩) (fun a => (a.fName, a.fType, a.fField, a.fSparse, ())) (fun _ => rfl) (fun _ => rfl)).mono (fun a ⟨b, e, h⟩ => by subst e; exact h)
theorem opens_25 {H : Type} {enc : TypeId × Value → H} {w : World} : Opens enc Try.prog w 25 (fun a => (eBase a).cells) wf_T_api_Base :=
  (opens_struct (β := Str × Int × (List T_api_Type) × (List T_api_Search) × Unit) (encA := eBase) Try.underlying25 (by kernel_rfl) (opensF_cons (sz := 1) rfl rfl (by kernel_rfl) (opens_str Try.underlying9 (by kernel_rfl)) (opensF_cons (sz := 1) rfl rfl (by kernel_rfl) (opens_int Try.underlying3 (by kernel_rfl)) (opensF_cons (sz := 1) rfl rfl (by kernel_rfl) (opens_slice (encE := eType) (sz := 8) Try.underlying22 (by kernel_rfl) (by kernel_rfl) (by decide) opens_45) (opensF_cons (sz := 1) rfl rfl (by kernel_rfl) (opens_slice (encE := eSearch) (sz := 4) Try.underlying23 (by kernel_rfl) (by kernel_rfl) (by decide) opens_50) opensF_nil)))) (fun b => ⟨b.1, b.2.1, b.2.2.1, b.2.2.2.1⟩) (fun a => (a.fName, a.fKind, a.fTypes, a.fIndexes, ())) (fun _ => rfl) (fun _ => rfl)).mono (fun a ⟨b, e, h⟩ => by subst e; exact h)
theorem ssaWays_lifted (os : Os) (started : os.Started) (H : Type) (enc : TypeId × Value → H) :
    ReturnsInHanded {} Try.checked os 5 .any (Rows.ssaWaysSpec.pre6 enc Try.prog Try.f5 Rows.ssaWaysRow.domain false) (Rows.ssaWaysSpec.post enc Try.prog Try.f5 false true false false) := by
  refine returnsInHanded_of_change_sized (C := Try.checked) own started (by kernel_rfl) Try.func5
    (ChangeSpec.witness6 (enc := enc) (C := Try.checked) false ⟨#[], #[.agg #[.string ByteArray.empty, .int .i64 0, .slice none 0 0, .slice none 0 0], .int .u8 0, .int .u8 0], []⟩ 8 (by kernel_rfl) (by kernel_rfl) (by kernel_rfl) (by kernel_rfl)) ?_
  intro W base args ds gs before hval0 hW hcnd hsz0 _
  have hval : ∀ (j : Nat) t v, Try.f5.params[j]? = some t → args[j]? = some v → Value.okWide Try.prog W .any base t v := hval0
  have hW' := hW
  obtain ⟨p, q, hA0, hV, rfl, hfz, hnd⟩ := hW
  have hA : DataW.TrodAll enc Try.prog W 0 (fun _ => true) true Try.f5.params.toList args.toList ds p := hA0
  rw [Try.params5] at hA hval
  obtain ⟨v0, vs0, d0, ds0, p0, q0, hargs, rfl, rfl, h0, r0⟩ := trodAll_cons hA
  obtain ⟨v1, vs1, d1, ds1, p1, q1, rfl, rfl, rfl, h1, r1⟩ := trodAll_cons r0
  obtain ⟨v2, vs2, d2, ds2, p2, q2, rfl, rfl, rfl, h2, r2⟩ := trodAll_cons r1
  obtain ⟨rfl, rfl, rfl⟩ := trodAll_nil r2
  obtain rfl : args = #[v0, v1, v2] := by cases args; simp_all
  obtain ⟨rfl, rfl⟩ := trodVars_none hV
  have lt0 : ∀ x ∈ p0, x.block < W.heap.size := by obtain ⟨m, hm⟩ := h0; exact DataW.trod_lt m _ _ _ hm
  obtain ⟨c0, rfl, _⟩ := okWide_struct Try.underlying25 (hval 0 25 v0 rfl rfl)
  obtain ⟨a0, w0, e0⟩ := h0.elim fun m hm => (opens_25).ok m _ _ hm
  have t0 : RT W noE noS noO [0, 0] (eBase a0) _ := rt_of_cells e0 ⟨fun _ => ⟨_, rfl⟩, fun _ => rfl⟩ (fun h => by cases h) (fun _ h => by cases h)
  have lt1 : ∀ x ∈ p1, x.block < W.heap.size := by obtain ⟨m, hm⟩ := h1; exact DataW.trod_lt m _ _ _ hm
  obtain ⟨c1, rfl⟩ := okWide_int Try.underlying5 (hval 1 5 v1 rfl rfl)
  obtain ⟨a1, w1, e1⟩ := h1.elim fun m hm => ((opens_int Try.underlying5 (by kernel_rfl))).ok m _ _ hm
  have t1 : RT W noE noS noO [0, 1] (V.int .u8 a1) _ := rt_of_cells e1 ⟨(fun h => by cases h), (fun ⟨_, h⟩ => by cases h)⟩ (fun _ => rfl) (fun _ h => by cases h)
  have lt2 : ∀ x ∈ p2, x.block < W.heap.size := by obtain ⟨m, hm⟩ := h2; exact DataW.trod_lt m _ _ _ hm
  obtain ⟨c2, rfl⟩ := okWide_int Try.underlying5 (hval 2 5 v2 rfl rfl)
  obtain ⟨a2, w2, e2⟩ := h2.elim fun m hm => ((opens_int Try.underlying5 (by kernel_rfl))).ok m _ _ hm
  have t2 : RT W noE noS noO [0, 2] (V.int .u8 a2) _ := rt_of_cells e2 ⟨(fun h => by cases h), (fun ⟨_, h⟩ => by cases h)⟩ (fun _ => rfl) (fun _ h => by cases h)
  clear hA0 hval0 hsz0
  obtain ⟨k, hk⟩ := law_law14_SsaWays a0 a1 a2 w0 w1 w2
  have hev := (law14_SsaWays_ok k a0 a1 a2).trans (by rw [hk]; rfl : _ = some (V.bool true, []))
  refine (row_calls (hm := mixed) ext_ok hev rfl (fun i h h' => ?_)).mono fun e W' ⟨he, bel⟩ => ?_
  · match i, h with
    | 0, _ => exact t0
    | 1, _ => exact t1
    | 2, _ => exact t2
  · subst he
    exact ⟨_, rfl, _, _, _, [], _, [], hW', trodAll_mk1 (shut_bool Try.underlying4 _), (trodAll_cons_mk (Below.trod laidOut (by kernel_rfl) (of_decide_eq_true (by kernel_rfl)) h0 bel lt0) (trodAll_cons_mk (Below.trod laidOut (by kernel_rfl) (of_decide_eq_true (by kernel_rfl)) h1 bel lt1) (trodAll_cons_mk (Below.trod laidOut (by kernel_rfl) (of_decide_eq_true (by kernel_rfl)) h2 bel lt2) trodAll_mk0))), rfl, bel.frame _, fun h => by cases h⟩
theorem ssaWays_over : Rows.ssaWaysRow.holds Try.pinned (OpenSpec.ofChange Rows.ssaWaysSpec) :=
  OpenClaim.holds_of_wide 5 Try.f5 rfl rfl rfl rfl rfl rfl rfl ⟨rfl, rfl, rfl, rfl, rfl⟩ rfl rfl rfl rfl rfl (by kernel_rfl) Try.func5 (by kernel_rfl)
    (of_decide_eq_true (by kernel_rfl)) (by unfold Func.isWrapper; first | (rw [if_pos (by decide +kernel)]; kernel_rfl) | (rw [if_neg (by decide +kernel)]; exact ⟨rfl, rfl⟩))
    (fun os started H enc _ => ssaWays_lifted os started H enc)
theorem ssaWays_holds : Rows.SsaWaysSaid := ssaWays_over
end Go.Proofs.Ytnpeekncggidcaa
