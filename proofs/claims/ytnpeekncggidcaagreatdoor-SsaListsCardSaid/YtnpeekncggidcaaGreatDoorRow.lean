/- SsaLists: the arguments of texts, their codes, and which are the same, for all inputs. -/
import Derived.Test.YtnpeekncggidcaaGreatDoorRows
import Derived.Test.YtnpeekncggidcaaGreatDoorE2
import Derived.Test.YtnpeekncggidcaaGreatDoorB2
import Derived.Test.YtnpeekncggidcaaGreatDoorA3
import Derived.Test.YtnpeekncggidcaaGreatDoorS1
import Derived.Test.YtnpeekncggidcaaGreatDoorTie
import Derived.Test.YtnpeekncggidcaaGreatDoorCards
import Derived.WalkKit
import Derived.Lib.Walk
import Derived.Lib.SliceRun
import Derived.Deep.LoopGhost
import Derived.Shelf.RegionOpenPlain
import Derived.ProofKit
import Derived.OpenShut
import Derived.ShutString
import Derived.ChangeOld
import Derived.Below
import Derived.SizedLaws
import Derived.Carry
import Derived.Lay
import Derived.LaidOnce
import Derived.SevenTiedAt
import Derived.MakeChecks
import Derived.Handed
namespace Go.Proofs.YtnpeekncggidcaaGreatDoor
open Go.ChangeShapes Go.WideShapes Go.ChangeAt Go.RowKit Go.AE Go.Sh
set_option linter.unusedVariables false
set_option maxRecDepth 100000
theorem own : ownKnob Tryz.prog.godebug = none := by kernel_rfl
theorem rg : laidOutB Tryz.prog = true := by kernel_rfl
theorem mixed : Tryz.prog.follows .mixedOrders = true := by kernel_rfl
def rho : Go.Shelf.Ren := ⟨fun _ => 135, fun t => bif Nat.beq t 3 then 3 else bif Nat.beq t 4 then 4 else bif Nat.beq t 28 then 58 else t, fun g => g⟩
theorem lays : Go.Proofs.Lays.n112 Tryz.prog rho := ⟨mixed, Tryz.func135, Tryz.underlying0, Tryz.isAgg0, Tryz.sizeOf0, Tryz.zeroValue0, Tryz.underlying3, Tryz.isAgg3, Tryz.sizeOf3, Tryz.zeroValue3, Tryz.underlying4, Tryz.isAgg4, Tryz.sizeOf4, Tryz.zeroValue4, Tryz.underlying58, Tryz.isAgg58, Tryz.sizeOf58, Tryz.zeroValue58⟩
theorem EG : ∀ f args r outs, Go.AE.ext f args = some (some (r, outs)) → dO (fun _ => none) Tryz.prog f args r outs := by
 intro f args r outs h
 unfold Go.AE.ext at h
 cases hf0 : Nat.beq f 35 with
 | true =>
  rw [hf0] at h
  obtain rfl := Nat.eq_of_beq_eq_true hf0
  exact wa Tryz.lays137 args r outs (Option.some.inj h)
 | false =>
  rw [hf0] at h
  simp only [cond_false] at h
  cases hf1 : Nat.beq f 135 with
  | true =>
   rw [hf1] at h
   obtain rfl := Nat.eq_of_beq_eq_true hf1
   exact uv lays args r outs (Option.some.inj h)
  | false =>
   rw [hf1] at h
   simp only [cond_false] at h
   cases hf2 : Nat.beq f 23 with
   | true =>
    rw [hf2] at h
    obtain rfl := Nat.eq_of_beq_eq_true hf2
    exact wb Tryz.lays105 Tryz.Builder_Extra_105 args r outs (Option.some.inj h)
   | false =>
    rw [hf2] at h
    simp only [cond_false] at h
    cases hf3 : Nat.beq f 45 with
    | true =>
     rw [hf3] at h
     obtain rfl := Nat.eq_of_beq_eq_true hf3
     exact uF Tryz.lays156 Tryz.Builder_Extra_156 args r outs (Option.some.inj h)
    | false =>
     rw [hf3] at h
     simp only [cond_false] at h
     cases hf4 : Nat.beq f 53 with
     | true =>
      rw [hf4] at h
      obtain rfl := Nat.eq_of_beq_eq_true hf4
      exact zF Tryz.lays162 args r outs (Option.some.inj h)
     | false =>
      rw [hf4] at h
      simp only [cond_false] at h
      cases h
theorem zf {H : Type} {enc : TypeId × Value → H} {w : World} : dh enc Tryz.prog w 50 (fun a => (j9 a).cells) bm :=
 (X7 (β := Str × Int × Int × Unit) (encA := j9) Tryz.underlying50 (by kernel_rfl) (p5 (sz := 1) rfl rfl (by kernel_rfl) (U1 Tryz.underlying9 (by kernel_rfl)) (p5 (sz := 1) rfl rfl (by kernel_rfl) (U0 Tryz.underlying3 (by kernel_rfl)) (p5 (sz := 1) rfl rfl (by kernel_rfl) (U0 Tryz.underlying3 (by kernel_rfl)) bD))) (fun b => ⟨b.1, b.2.1, b.2.2.1⟩) (fun a => (a.fName, a.fAt, a.fBytes, ())) (fun _ => rfl) (fun _ => rfl)).mono (fun a ⟨b, e, h⟩ => by subst e; exact h)
theorem ze {H : Type} {enc : TypeId × Value → H} {w : World} : dh enc Tryz.prog w 48 (fun a => (i9 a).cells) D5 :=
 (X7 (β := Str × Int × Int × Int × (List d6) × Int × Bool × Bool × Unit) (encA := i9) Tryz.underlying48 (by kernel_rfl) (p5 (sz := 1) rfl rfl (by kernel_rfl) (U1 Tryz.underlying9 (by kernel_rfl)) (p5 (sz := 1) rfl rfl (by kernel_rfl) (U0 Tryz.underlying3 (by kernel_rfl)) (p5 (sz := 1) rfl rfl (by kernel_rfl) (U0 Tryz.underlying3 (by kernel_rfl)) (p5 (sz := 1) rfl rfl (by kernel_rfl) (U0 Tryz.underlying3 (by kernel_rfl)) (p5 (sz := 1) rfl rfl (by kernel_rfl) (W1 (encE := j9) (sz := 3) Tryz.underlying46 (by kernel_rfl) (by kernel_rfl) (by decide) zf) (p5 (sz := 1) rfl rfl (by kernel_rfl) (U0 Tryz.underlying3 (by kernel_rfl)) (p5 (sz := 1) rfl rfl (by kernel_rfl) (oQ Tryz.underlying4 (by kernel_rfl)) (p5 (sz := 1) rfl rfl (by kernel_rfl) (oQ Tryz.underlying4 (by kernel_rfl)) bD)))))))) (fun b => ⟨b.1, b.2.1, b.2.2.1, b.2.2.2.1, b.2.2.2.2.1, b.2.2.2.2.2.1, b.2.2.2.2.2.2.1, b.2.2.2.2.2.2.2.1⟩) (fun a => (a.fName, a.fParent, a.fMin, a.fSize, a.fFields, a.fKey, a.fUnique, a.fLast, ())) (fun _ => rfl) (fun _ => rfl)).mono (fun a ⟨b, e, h⟩ => by subst e; exact h)
theorem zg {H : Type} {enc : TypeId × Value → H} {w : World} : dh enc Tryz.prog w 52 (fun a => (p9 a).cells) aj :=
 (X7 (β := Str × Int × Int × Str × Unit) (encA := p9) Tryz.underlying52 (by kernel_rfl) (p5 (sz := 1) rfl rfl (by kernel_rfl) (U1 Tryz.underlying9 (by kernel_rfl)) (p5 (sz := 1) rfl rfl (by kernel_rfl) (U0 Tryz.underlying3 (by kernel_rfl)) (p5 (sz := 1) rfl rfl (by kernel_rfl) (U0 Tryz.underlying3 (by kernel_rfl)) (p5 (sz := 1) rfl rfl (by kernel_rfl) (U1 Tryz.underlying9 (by kernel_rfl)) bD)))) (fun b => ⟨b.1, b.2.1, b.2.2.1, b.2.2.2.1⟩) (fun a => (a.fName, a.fType, a.fField, a.fSparse, ())) (fun _ => rfl) (fun _ => rfl)).mono (fun a ⟨b, e, h⟩ => by subst e; exact h)
theorem zb {H : Type} {enc : TypeId × Value → H} {w : World} : dh enc Tryz.prog w 25 (fun a => (b8 a).cells) i1 :=
 (X7 (β := Str × Int × (List b7) × (List j0) × Unit) (encA := b8) Tryz.underlying25 (by kernel_rfl) (p5 (sz := 1) rfl rfl (by kernel_rfl) (U1 Tryz.underlying9 (by kernel_rfl)) (p5 (sz := 1) rfl rfl (by kernel_rfl) (U0 Tryz.underlying3 (by kernel_rfl)) (p5 (sz := 1) rfl rfl (by kernel_rfl) (W1 (encE := i9) (sz := 8) Tryz.underlying22 (by kernel_rfl) (by kernel_rfl) (by decide) ze) (p5 (sz := 1) rfl rfl (by kernel_rfl) (W1 (encE := p9) (sz := 4) Tryz.underlying23 (by kernel_rfl) (by kernel_rfl) (by decide) zg) bD)))) (fun b => ⟨b.1, b.2.1, b.2.2.1, b.2.2.2.1⟩) (fun a => (a.fName, a.fKind, a.fTypes, a.fIndexes, ())) (fun _ => rfl) (fun _ => rfl)).mono (fun a ⟨b, e, h⟩ => by subst e; exact h)
theorem zh {H : Type} {enc : TypeId × Value → H} {w : World} : dh enc Tryz.prog w 55 (fun a => (i5 a).cells) u3 :=
 (X7 (β := Str × Int × Str × Unit) (encA := i5) Tryz.underlying55 (by kernel_rfl) (p5 (sz := 1) rfl rfl (by kernel_rfl) (U1 Tryz.underlying9 (by kernel_rfl)) (p5 (sz := 1) rfl rfl (by kernel_rfl) (U0 Tryz.underlying3 (by kernel_rfl)) (p5 (sz := 1) rfl rfl (by kernel_rfl) (U1 Tryz.underlying9 (by kernel_rfl)) bD))) (fun b => ⟨b.1, b.2.1, b.2.2.1⟩) (fun a => (a.fField, a.fOp, a.fValue, ())) (fun _ => rfl) (fun _ => rfl)).mono (fun a ⟨b, e, h⟩ => by subst e; exact h)
theorem zd {H : Type} {enc : TypeId × Value → H} {w : World} : dh enc Tryz.prog w 28 (fun a => (i7 a).cells) n6 :=
 (X7 (β := Str × Str × (List (List a6)) × Unit) (encA := i7) Tryz.underlying28 (by kernel_rfl) (p5 (sz := 1) rfl rfl (by kernel_rfl) (U1 Tryz.underlying9 (by kernel_rfl)) (p5 (sz := 1) rfl rfl (by kernel_rfl) (U1 Tryz.underlying9 (by kernel_rfl)) (p5 (sz := 1) rfl rfl (by kernel_rfl) (W1 (encE := (fun x => (V.sl 0 3 (List.map i5 x)))) (sz := 1) Tryz.underlying26 (by kernel_rfl) (by kernel_rfl) (by decide) (W1 (encE := i5) (sz := 3) Tryz.underlying56 (by kernel_rfl) (by kernel_rfl) (by decide) zh)) bD))) (fun b => ⟨b.1, b.2.1, b.2.2.1⟩) (fun a => (a.fSegment, a.fCodes, a.fWhen, ())) (fun _ => rfl) (fun _ => rfl)).mono (fun a ⟨b, e, h⟩ => by subst e; exact h)
theorem pg {H : Type} {enc : TypeId × Value → H} (W : World) (base : Nat) (args : Array Value) (ds gs : List (DataW H)) (J0 : List MemPlace)
  (hval0 : ∀ (j : Nat) t v, Tryz.f4.params[j]? = some t → args[j]? = some v → Value.okWide Tryz.prog W .any base t v)
  (hW : DataW.Whole enc Tryz.prog Tryz.f4.params.toList Rows.ssaListsSpec.vars false W args.toList ds gs J0) (hsh : W.ShapedOpen Tryz.prog) :
  Calls Tryz.prog 4 args W fun e W' => ∃ v, e = .returned v ∧ Rows.ssaListsSpec.post enc Tryz.prog Tryz.f4 false true false false W args v W' := by
 have hval : ∀ (j : Nat) t v, Tryz.f4.params[j]? = some t → args[j]? = some v → Value.okWide Tryz.prog W .any base t v := hval0
 have hW' := hW
 obtain ⟨p, q, hA0, hV, rfl, hfz, hnd⟩ := hW
 have hA : DataW.TrodAll enc Tryz.prog W 0 (fun _ => true) true Tryz.f4.params.toList args.toList ds p := hA0
 rw [Tryz.params4] at hA hval
 obtain ⟨v0, vs0, d0, ds0, p0, q0, hargs, rfl, rfl, h0, r0⟩ := trodAll_cons hA
 obtain ⟨v1, vs1, d1, ds1, p1, q1, rfl, rfl, rfl, h1, r1⟩ := trodAll_cons r0
 obtain ⟨v2, vs2, d2, ds2, p2, q2, rfl, rfl, rfl, h2, r2⟩ := trodAll_cons r1
 obtain ⟨rfl, rfl, rfl⟩ := trodAll_nil r2
 obtain rfl : args = #[v0, v1, v2] := by cases args; simp_all
 obtain ⟨rfl, rfl⟩ := trodVars_none hV
 have lt0 : ∀ x ∈ p0, x.block < W.heap.size := by obtain ⟨m, hm⟩ := h0; exact DataW.trod_lt m _ _ _ hm
 obtain ⟨c0, rfl, _⟩ := okWide_struct Tryz.underlying25 (hval 0 25 v0 rfl rfl)
 obtain ⟨a0, w0, e0⟩ := h0.elim fun m hm => (zb).ok m _ _ hm
 have t0 : RT W noE noS noO [0, 0] (b8 a0) _ := iR e0 ⟨fun _ => ⟨_, rfl⟩, fun _ => rfl⟩ (fun h => by cases h) (fun _ h => by cases h)
 have lt1 : ∀ x ∈ p1, x.block < W.heap.size := by obtain ⟨m, hm⟩ := h1; exact DataW.trod_lt m _ _ _ hm
 obtain ⟨c1, cl1, cc1, rfl⟩ := okWide_slice Tryz.underlying40 (hval 1 40 v1 rfl rfl)
 obtain ⟨a1, w1, e1⟩ := h1.elim fun m hm => ((W1 (encE := V.str) (sz := 1) Tryz.underlying40 (by kernel_rfl) (by kernel_rfl) (by decide) (U1 Tryz.underlying9 (by kernel_rfl)))).ok m _ _ hm
 have t1 : RT W noE noS noO [0, 1] (V.sl 0 1 (List.map V.str a1)) _ := iR e1 ⟨(fun h => by cases h), (fun ⟨_, h⟩ => by cases h)⟩ (fun _ => rfl) (fun _ h => by cases h)
 have lt2 : ∀ x ∈ p2, x.block < W.heap.size := by obtain ⟨m, hm⟩ := h2; exact DataW.trod_lt m _ _ _ hm
 obtain ⟨c2, cl2, cc2, rfl⟩ := okWide_slice Tryz.underlying31 (hval 2 31 v2 rfl rfl)
 obtain ⟨a2, w2, e2⟩ := h2.elim fun m hm => ((W1 (encE := i7) (sz := 3) Tryz.underlying31 (by kernel_rfl) (by kernel_rfl) (by decide) zd)).ok m _ _ hm
 have t2 : RT W noE noS noO [0, 2] (V.sl 0 3 (List.map i7 a2)) _ := iR e2 ⟨(fun h => by cases h), (fun ⟨_, h⟩ => by cases h)⟩ (fun _ => rfl) (fun _ h => by cases h)
 clear hA0 hval0
 obtain ⟨k, hk⟩ := jV a0 a1 a2 w0 w1 w2
 have hev := (kW k a0 a1 a2).trans (by rw [hk]; rfl : _ = some (V.bool true, []))
 refine (vT (hm := mixed) EG hev Fj rfl (fun i h h' => ?_)).mono fun e W' ⟨he, bel⟩ => ?_
 ·match i, h with
  | 0, _ => exact t0
  | 1, _ => exact t1
  | 2, _ => exact t2
 ·subst he
  exact ⟨_, rfl, _, _, _, [], _, [], hW', trodAll_mk1 (shut_bool Tryz.underlying4 _), (trodAll_cons_mk (Below.trod rg (by kernel_rfl) (of_decide_eq_true (by kernel_rfl)) h0 bel lt0) (trodAll_cons_mk (Below.trod rg (by kernel_rfl) (of_decide_eq_true (by kernel_rfl)) h1 bel lt1) (trodAll_cons_mk (Below.trod rg (by kernel_rfl) (of_decide_eq_true (by kernel_rfl)) h2 bel lt2) trodAll_mk0))), rfl, bel.frame _, fun h => by cases h⟩
theorem nG (os : Os) (started : os.Started) (H : Type) (enc : TypeId × Value → H) :
  ReturnsInHanded {} Tryz.checked os 4 .any (fun w args => (Rows.ssaListsSpec.pre enc Tryz.prog Tryz.f4 [] false w args ∧ laidMetH Tryz.prog Rows.ssaListsRow.laid w) ∧ sizedMet enc Tryz.prog Tryz.f4 (OpenSpec.ofChange Rows.ssaListsSpec) false w args) (Rows.ssaListsSpec.post enc Tryz.prog Tryz.f4 false true false false) := by
 refine returnsInHanded_of_calls own started (by kernel_rfl)
  (ChangeSpec.witness_shaped (enc := enc) (C := Tryz.checked) (os := os) (X := fun w _ => laidMetH Tryz.prog Rows.ssaListsRow.laid w) false (World.laidAll Tryz.prog os Rows.ssaListsRow.laid) #[.agg #[.string ByteArray.empty, .int .i64 0, .slice none 0 0, .slice none 0 0], .slice none 0 0, .slice none 0 0] 8 (World.laidAll_os _ _ _)
   (World.shaped_of_ZipB (by kernel_rfl) (by kernel_rfl)) (by kernel_rfl) (by kernel_rfl) (by kernel_rfl)
   (by rw [MakeChecks.laidMetH_plain _ _ _ (by kernel_rfl)]; exact laidMet_laidAll _ (by kernel_rfl) (by kernel_rfl))) ?_
 intro w tape i _ hsh _ hok hpre _
 obtain ⟨_, _, _, fn', hfn', _, _, _, _, hval⟩ := hok
 obtain rfl : fn' = Tryz.f4 := Option.some.inj (hfn'.symm.trans Tryz.func4)
 obtain ⟨⟨⟨ds, gs, J0, hw, _⟩, hlaid⟩, _⟩ := hpre
 refine (pg (w.forCall tape i) w.heap.size i.args ds gs J0 hval (DataW.Whole.of_heap (by rfl) hw) hsh).mono fun e W' ⟨v, he, hp⟩ => ?_
 subst he
 exact ChangeSpec.post_blind hp
theorem pL : Rows.ssaListsRow.holds Tryz.pinned (OpenSpec.ofChange Rows.ssaListsSpec) :=
 OpenClaim.holds_of_wide 4 Tryz.f4 rfl rfl rfl rfl rfl rfl rfl ⟨rfl, rfl, rfl, rfl, rfl⟩ rfl rfl rfl rfl rfl (by kernel_rfl) Tryz.func4 (by kernel_rfl)
  (of_decide_eq_true (by kernel_rfl)) (by unfold Func.isWrapper; first | (rw [if_pos (by decide +kernel)]; kernel_rfl) | (rw [if_neg (by decide +kernel)]; exact ⟨rfl, rfl⟩))
  (fun os started H enc _ => nG os started H enc)
theorem ssaLists_holds : Rows.SsaListsCardSaid :=
 Claim7.holds_tied_plain_at .later [] [.data, .pinned] true (true, "9d92146f9f75c9320039c44d6e031dfd19260c38e1f8e0aa4c6319fbee3cc2af") false pL (fun _ h => by cases h) (by kernel_rfl) (fun _ h => by cases h) ssaLists_row_tie rfl ⟨rfl, rfl⟩ (by kernel_rfl) rfl
  (fun f fn hf hfn => by
   obtain rfl : f = 4 := Option.some.inj ((show Tryz.prog.funcNamed "progeny/progenylaw14.SsaLists" = some 4 by kernel_rfl).symm.trans hf) |>.symm
   obtain rfl : fn = Tryz.f4 := (Option.some.inj (Tryz.func4.symm.trans hfn)).symm
   exact ⟨by kernel_rfl, fun j t ht => by
    rw [Tryz.params4] at ht
    have hm : t ∈ [25, 40, 31] := by simpa using Array.mem_of_getElem? ht
    have hall : ([25, 40, 31].all fun u => !Tryz.prog.wantsStandIn u) = true := by kernel_rfl
    exact (show Tryz.prog.wantsStandIn t = false by simpa using List.all_eq_true.1 hall t hm)⟩)
  (by kernel_rfl)
end Go.Proofs.YtnpeekncggidcaaGreatDoor
