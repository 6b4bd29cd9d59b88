/- The text of a form, and the form of a text, are what the chapter says, for all forms and texts. Conditions: none. -/
import Derived.Test.YtkkoiekbnkpcoaaGreatDoorRows
import Derived.Test.YtkkoiekbnkpcoaaGreatDoorE2
import Derived.Test.YtkkoiekbnkpcoaaGreatDoorB1
import Derived.Test.YtkkoiekbnkpcoaaGreatDoorA3
import Derived.Test.YtkkoiekbnkpcoaaGreatDoorS1
import Derived.Test.YtkkoiekbnkpcoaaGreatDoorTie
import Derived.Test.YtkkoiekbnkpcoaaGreatDoorCards
import Derived.Stop.IfaceNil
import Derived.WalkKit
import Derived.Lib.Walk
import Derived.Lib.SliceRun
import Derived.Deep.LoopGhost
import Derived.Shelf.RegionOpenPlain
import Derived.ProofKit
import Derived.OpenShut
import Derived.ShutString
import Derived.ChangeOld
import Derived.Below
import Derived.SizedLaws
import Derived.Carry
import Derived.Lay
import Derived.LaidOnce
import Derived.SevenTiedAt
import Derived.MakeChecks
import Derived.Handed
namespace Go.Proofs.YtkkoiekbnkpcoaaGreatDoor
open Go.ChangeShapes Go.WideShapes Go.ChangeAt Go.RowKit Go.AE Go.Sh
set_option linter.unusedVariables false
set_option maxRecDepth 100000
theorem own : ownKnob Tryz.prog.godebug = none := by kernel_rfl
theorem laidOut : laidOutB Tryz.prog = true := by kernel_rfl
theorem mixed : Tryz.prog.follows .mixedOrders = true := by kernel_rfl
theorem below_bytes (w : World) (o : Obj) (n : Nat) : Below w.heap.size w ((w.drew.alloc o).freeze ⟨w.heap.size, n, none⟩ 1) := by
 have h1 : Below w.heap.size w (w.drew.alloc o) := (Below.refl _ w).drew.alloc (Nat.le_refl _) _
 unfold World.freeze
 rw [if_neg (by decide)]
 refine ⟨h1.os, h1.tape, h1.output, by simp only [Array.size_modify]; exact h1.size, fun k hk => ?_⟩
 simp only [Array.getElem?_modify, if_neg (show ¬ w.heap.size = k by omega)]
 exact h1.block k hk

theorem numAtoi (s : List UInt8) (w : World) (hl : s.length ≤ 281474976710656) (hs : ∃ t p, w.cell? ⟨6, 0, none⟩ = some (.iface t p)) (hr : ∃ t p, w.cell? ⟨7, 0, none⟩ = some (.iface t p)) :
  Calls Tryz.prog 89 #[.string ⟨s.toArray⟩] w fun e w' => (∃ n ev, e = .returned (.tuple #[.int .i64 n, ev]) ∧ ((ev = .nilIface ∧ Go.Lib.atoiAll s = .ok n) ∨ ((∃ t p, ev = .iface t p) ∧ numR s = (n, false)))) ∧ Below w.heap.size w w' := by
 have hsz : (⟨s.toArray⟩ : ByteArray).size = s.length := by simp [ByteArray.size]
 obtain ⟨t1, p1, h1⟩ := hs
 obtain ⟨t2, p2, h2⟩ := hr
 cases ha : Go.Lib.atoiAll s
 ·rename_i n
  refine (Any.strconv_Atoi_ok Tryz.laysC172 ⟨s.toArray⟩ (by omega) n ha w).mono ?_
  rintro e w' ⟨rfl, hw⟩
  refine ⟨⟨n, .nilIface, rfl, .inl ⟨rfl, rfl⟩⟩, ?_⟩
  rcases hw with rfl | ⟨t, rfl⟩
  ·exact Below.refl _ _
  ·unfold Go.Lib.bytesWorld
   exact below_bytes w _ _
 ·refine (Any.strconv_Atoi_syntax Tryz.laysC172 ⟨s.toArray⟩ (by omega) ha _ w h1 (.inr ⟨t1, p1, rfl⟩)).mono ?_
  rintro e w' ⟨N, rfl, _, _, hb⟩
  exact ⟨⟨0, _, rfl, .inr ⟨⟨_, _, rfl⟩, by unfold numR; rw [ha]⟩⟩, hb⟩
 ·refine (Any.strconv_Atoi_range Tryz.laysC172 ⟨s.toArray⟩ (by omega) ha _ w h2 (.inr ⟨t2, p2, rfl⟩)).mono ?_
  rintro e w' ⟨N, rfl, _, _, hb⟩
  exact ⟨⟨_, _, rfl, .inr ⟨⟨_, _, rfl⟩, by unfold numR; rw [ha]⟩⟩, hb⟩

theorem numItoa (n : Int) (n0 : -9223372036854775808 ≤ n) (n1 : n ≤ 9223372036854775807) (w : World) (hp : ∃ e fr, w.heap[1]? = some (.cells (Go.Lib.pow10Tab.map fun z => Value.int .u64 z).toArray e fr)) :
  Calls Tryz.prog 19 #[.int .i64 n] w fun e w' => e = .returned (.string ⟨(Go.Lib.itoa n).toArray⟩) ∧ Below w.heap.size w w' := by
 obtain ⟨e, fr, hp⟩ := hp
 have htab : Go.Lib.TabIs Tryz.prog w "internal/strconv.uint64pow10" .u64 Go.Lib.pow10Tab := by
  unfold Go.Lib.TabIs
  simp only [World.var?, show Tryz.prog.globalNamed "internal/strconv.uint64pow10" = some 1 from Tryz.laysM171.m17, Option.bind_some, hp]
 refine (Any.strconv_Itoa Tryz.laysM171 n n0 n1 w htab).mono ?_
 rintro e w' ⟨rfl, k, os, rfl⟩
 exact ⟨rfl, below_grow w k os⟩

theorem numWalk (s : List UInt8) (v : Int × Bool) (w : World) (hv : numV true s = some v) (hs : ∃ t p, w.cell? ⟨6, 0, none⟩ = some (.iface t p)) (hr : ∃ t p, w.cell? ⟨7, 0, none⟩ = some (.iface t p)) (hp : ∃ e fr, w.heap[1]? = some (.cells (Go.Lib.pow10Tab.map fun z => Value.int .u64 z).toArray e fr)) :
  Calls Tryz.prog 71 #[.string ⟨s.toArray⟩] w fun e w' => e = .returned (.tuple #[.int .i64 v.1, .bool v.2]) ∧ Below w.heap.size w w' := by
 have qn : ∀ w : World, (binOp .eql 48 .nilIface .nilIface).run Tryz.prog w = .ok (.bool true) w := fun w => run_eql_nil_nil_at w 48 (by kernel_rfl)
 have qi : ∀ (t : TypeId) (p : Value) (w : World), (binOp .eql 48 (.iface t p) .nilIface).run Tryz.prog w = .ok (.bool false) w := fun t p w => run_eql_iface_nil w 48 (by kernel_rfl) t p
 unfold numV at hv
 simp only [Bool.true_and] at hv
 by_cases h45 : (s == [45]) = true
 ·rw [if_pos h45] at hv
  obtain rfl := Option.some.inj hv
  obtain rfl : s = [45] := by simpa using h45
  go_enter Tryz.func71, Tryz.ntmps71
  go_wp2
  all_goals go_ret2
  all_goals exact ⟨rfl, Below.refl _ _⟩
 ·rw [if_neg h45] at hv
  have hR : s.length ≤ 281474976710656 ∧ v = numR s := by
   by_cases hl : s.length ≤ 281474976710656
   ·rw [if_pos hl] at hv
    exact ⟨hl, (Option.some.inj hv).symm⟩
   ·rw [if_neg hl] at hv
    cases hv
  obtain ⟨hl, rfl⟩ := hR
  have hA := numAtoi s w hl hs hr
  clear hv
  go_enter Tryz.func71, Tryz.ntmps71
  go_wp2_with (first | (go_at_call 89; refine hA.mono ?_; rintro e w' ⟨⟨n, ev, rfl, hc⟩, hb⟩))
  have hp' : ∃ e fr, w'.heap[1]? = some (.cells (Go.Lib.pow10Tab.map fun z => Value.int .u64 z).toArray e fr) := by
   obtain ⟨e, fr, h⟩ := hp
   exact ⟨e, fr, by rw [hb.block 1 (lt_of_some h)]; exact h⟩
  rcases hc with ⟨rfl, hok⟩ | ⟨⟨t, p, rfl⟩, hn⟩
  ·have hbd := Go.Lib.atoiAll_bounds hok
   have hI := numItoa n hbd.1 hbd.2 w' hp'
   have hR : numR s = (n, decide (0 ≤ n) && (Go.Lib.itoa n == s)) := by unfold numR; rw [hok]
   simp only [eqGuard_nil_constR, qn, Sem.run_pure, Result.andThen]
   rw [Oper.upon_value]
   go_wp2_with (first | (go_at_call 19; refine hI.mono ?_; rintro e w2 ⟨rfl, hb2⟩))
   ·rename_i h0
    go_ret2
    refine ⟨?_, hb.trans (hb2.mono hb.size)⟩
    first | rw [hR] | skip
    rw [decide_eq_true h0, Bool.true_and]
    rfl
   ·rename_i h0
    go_ret2
    refine ⟨?_, hb⟩
    first | rw [hR] | skip
    rw [decide_eq_false (by omega), Bool.false_and]
    rfl
  ·have gi : ∀ (a b : Operand), eqGuard .eql 48 a b (.iface t p) .nilIface = pure () := fun a b => rfl
   simp only [gi, qi, Sem.run_pure, Result.andThen]
   rw [Oper.upon_value]
   go_wp2
   go_ret2
   rw [hn]
   exact ⟨rfl, hb⟩
theorem ext_ok {G : Glo} {m : Int} (hG : ∃ c, G 0 = some c ∧ c[0]? = some (.int .i64 m)) (hT : G (Tryz.laysM171_ren.g 17) = some (Go.Lib.pow10Tab.map fun z => Value.int .u64 z).toArray) (hS : ∃ c t p, G 6 = some c ∧ c[0]? = some (.iface t p)) (hR : ∃ c t p, G 7 = some c ∧ c[0]? = some (.iface t p)) : ∀ f args r outs, Go.AE.ext f args = some (some (r, outs)) → FnOk G Tryz.prog f args r outs := by
 intro f args r outs h
 unfold Go.AE.ext at h
 cases hf0 : Nat.beq f 53 with
 | true =>
  rw [hf0] at h
  obtain rfl := Nat.eq_of_beq_eq_true hf0
  exact strRep_ok Tryz.lays105 Tryz.Builder_Extra_105 args r outs (Option.some.inj h)
 | false =>
  rw [hf0] at h
  simp only [cond_false] at h
  cases hf1 : Nat.beq f 52 with
  | true =>
   rw [hf1] at h
   obtain rfl := Nat.eq_of_beq_eq_true hf1
   exact slRep_ok ⟨_, Tryz.func52, by decide, rfl⟩ SRep_walk args r outs (Option.some.inj h)
  | false =>
   rw [hf1] at h
   simp only [cond_false] at h
   cases hf2 : (Nat.beq f 77 && emptyArg args) with
   | true =>
    rw [hf2] at h
    simp only [cond_true] at h
    cases h
   | false =>
    rw [hf2] at h
    simp only [cond_false] at h
    cases hf3 : Nat.beq f 19 with
    | true =>
     rw [hf3] at h
     obtain rfl := Nat.eq_of_beq_eq_true hf3
     exact itoa_ok Tryz.laysM171 Tryz.laysM171.m17 hT args r outs (Option.some.inj h)
    | false =>
     rw [hf3] at h
     simp only [cond_false] at h
     cases hf4 : Nat.beq f 17 with
     | true =>
      rw [hf4] at h
      obtain rfl := Nat.eq_of_beq_eq_true hf4
      exact strJoin_ok Tryz.lays156 Tryz.Builder_Extra_156 args r outs (Option.some.inj h)
     | false =>
      rw [hf4] at h
      simp only [cond_false] at h
      cases hf5 : Nat.beq f 16 with
      | true =>
       rw [hf5] at h
       obtain rfl := Nat.eq_of_beq_eq_true hf5
       exact bldS_ok Tryz.lays166x Tryz.Builder_Extra_156 args r outs (Option.some.inj h)
      | false =>
       rw [hf5] at h
       simp only [cond_false] at h
       cases hf6 : Nat.beq f 18 with
       | true =>
        rw [hf6] at h
        obtain rfl := Nat.eq_of_beq_eq_true hf6
        exact bldB_ok Tryz.lays167x Tryz.Builder_Extra_167x args r outs (Option.some.inj h)
       | false =>
        rw [hf6] at h
        simp only [cond_false] at h
        cases hf7 : Nat.beq f 21 with
        | true =>
         rw [hf7] at h
         obtain rfl := Nat.eq_of_beq_eq_true hf7
         exact bldR_ok Tryz.lays169 Tryz.Builder_Extra_169 args r outs (Option.some.inj h)
        | false =>
         rw [hf7] at h
         simp only [cond_false] at h
         cases hf8 : Nat.beq f 25 with
         | true =>
          rw [hf8] at h
          obtain rfl := Nat.eq_of_beq_eq_true hf8
          exact spl_ok Tryz.lays146 (by kernel_rfl) hG args r outs (Option.some.inj h)
         | false =>
          rw [hf8] at h
          simp only [cond_false] at h
          cases hf9 : Nat.beq f 46 with
          | true =>
           rw [hf9] at h
           obtain rfl := Nat.eq_of_beq_eq_true hf9
           exact cut_ok Tryz.lays145 hG args r outs (Option.some.inj h)
          | false =>
           rw [hf9] at h
           simp only [cond_false] at h
           cases hf10 : Nat.beq f 71 with
           | true =>
            rw [hf10] at h
            obtain rfl := Nat.eq_of_beq_eq_true hf10
            exact num_ok ⟨_, Tryz.func71, by decide, rfl⟩ numWalk hS hR hT args r outs (Option.some.inj h)
           | false =>
            rw [hf10] at h
            simp only [cond_false] at h
            cases hf11 : Nat.beq f 48 with
            | true =>
             rw [hf11] at h
             obtain rfl := Nat.eq_of_beq_eq_true hf11
             exact splN_ok Tryz.lays147 (by kernel_rfl) hG args r outs (Option.some.inj h)
            | false =>
             rw [hf11] at h
             simp only [cond_false] at h
             cases h
theorem opens_36 {H : Type} {enc : TypeId × Value → H} {w : World} : Opens enc Tryz.prog w 36 (fun a => (eMark a).cells) wf_T_api_Mark :=
 (opens_struct (β := Int × Int × Str × Unit) (encA := eMark) Tryz.underlying36 (by kernel_rfl) (opensF_cons (sz := 1) rfl rfl (by kernel_rfl) (opens_int Tryz.underlying3 (by kernel_rfl)) (opensF_cons (sz := 1) rfl rfl (by kernel_rfl) (opens_int Tryz.underlying3 (by kernel_rfl)) (opensF_cons (sz := 1) rfl rfl (by kernel_rfl) (opens_str Tryz.underlying9 (by kernel_rfl)) opensF_nil))) (fun b => ⟨b.1, b.2.1, b.2.2.1⟩) (fun a => (a.fRow, a.fColumn, a.fText, ())) (fun _ => rfl) (fun _ => rfl)).mono (fun a ⟨b, e, h⟩ => by subst e; exact h)
theorem opens_38 {H : Type} {enc : TypeId × Value → H} {w : World} : Opens enc Tryz.prog w 38 (fun a => (eSlot a).cells) wf_T_api_Slot :=
 (opens_struct (β := Str × Int × Int × Int × Int × Int × Int × Unit) (encA := eSlot) Tryz.underlying38 (by kernel_rfl) (opensF_cons (sz := 1) rfl rfl (by kernel_rfl) (opens_str Tryz.underlying9 (by kernel_rfl)) (opensF_cons (sz := 1) rfl rfl (by kernel_rfl) (opens_int Tryz.underlying3 (by kernel_rfl)) (opensF_cons (sz := 1) rfl rfl (by kernel_rfl) (opens_int Tryz.underlying3 (by kernel_rfl)) (opensF_cons (sz := 1) rfl rfl (by kernel_rfl) (opens_int Tryz.underlying3 (by kernel_rfl)) (opensF_cons (sz := 1) rfl rfl (by kernel_rfl) (opens_int Tryz.underlying3 (by kernel_rfl)) (opensF_cons (sz := 1) rfl rfl (by kernel_rfl) (opens_int Tryz.underlying3 (by kernel_rfl)) (opensF_cons (sz := 1) rfl rfl (by kernel_rfl) (opens_int Tryz.underlying5 (by kernel_rfl)) opensF_nil))))))) (fun b => ⟨b.1, b.2.1, b.2.2.1, b.2.2.2.1, b.2.2.2.2.1, b.2.2.2.2.2.1, b.2.2.2.2.2.2.1⟩) (fun a => (a.fName, a.fRow, a.fColumn, a.fBytes, a.fIn, a.fOut, a.fFill, ())) (fun _ => rfl) (fun _ => rfl)).mono (fun a ⟨b, e, h⟩ => by subst e; exact h)
theorem opens_25 {H : Type} {enc : TypeId × Value → H} {w : World} : Opens enc Tryz.prog w 25 (fun a => (eForm a).cells) wf_T_api_Form :=
 (opens_struct (β := Int × Int × (List T_api_Mark) × (List T_api_Slot) × Unit) (encA := eForm) Tryz.underlying25 (by kernel_rfl) (opensF_cons (sz := 1) rfl rfl (by kernel_rfl) (opens_int Tryz.underlying3 (by kernel_rfl)) (opensF_cons (sz := 1) rfl rfl (by kernel_rfl) (opens_int Tryz.underlying3 (by kernel_rfl)) (opensF_cons (sz := 1) rfl rfl (by kernel_rfl) (opens_slice (encE := eMark) (sz := 3) Tryz.underlying22 (by kernel_rfl) (by kernel_rfl) (by decide) opens_36) (opensF_cons (sz := 1) rfl rfl (by kernel_rfl) (opens_slice (encE := eSlot) (sz := 7) Tryz.underlying23 (by kernel_rfl) (by kernel_rfl) (by decide) opens_38) opensF_nil)))) (fun b => ⟨b.1, b.2.1, b.2.2.1, b.2.2.2.1⟩) (fun a => (a.fRows, a.fColumns, a.fMarks, a.fFields, ())) (fun _ => rfl) (fun _ => rfl)).mono (fun a ⟨b, e, h⟩ => by subst e; exact h)
theorem screenTexts_calls {H : Type} {enc : TypeId × Value → H} (W : World) (base : Nat) (args : Array Value) (ds gs : List (DataW H)) (before : List MemPlace)
  (hval0 : ∀ (j : Nat) t v, Tryz.f3.params[j]? = some t → args[j]? = some v → Value.okWide Tryz.prog W .any base t v)
  (hW : DataW.Whole enc Tryz.prog Tryz.f3.params.toList Rows.screenTextsSpec.vars false W args.toList ds gs before) (hsh : W.ShapedOpen Tryz.prog) (hld : laidMet Tryz.prog Rows.screenTextsRow.laid W) :
  Calls Tryz.prog 3 args W fun e W' => ∃ v, e = .returned v ∧ Rows.screenTextsSpec.post enc Tryz.prog Tryz.f3 false true false false W args v W' := by
 have hval : ∀ (j : Nat) t v, Tryz.f3.params[j]? = some t → args[j]? = some v → Value.okWide Tryz.prog W .any base t v := hval0
 have hW' := hW
 obtain ⟨p, q, hA0, hV, rfl, hfz, hnd⟩ := hW
 have hA : DataW.TrodAll enc Tryz.prog W 0 (fun _ => true) true Tryz.f3.params.toList args.toList ds p := hA0
 rw [Tryz.params3] at hA hval
 obtain ⟨v0, vs0, d0, ds0, p0, q0, hargs, rfl, rfl, h0, r0⟩ := trodAll_cons hA
 obtain ⟨v1, vs1, d1, ds1, p1, q1, rfl, rfl, rfl, h1, r1⟩ := trodAll_cons r0
 obtain ⟨rfl, rfl, rfl⟩ := trodAll_nil r1
 obtain rfl : args = #[v0, v1] := by cases args; simp_all
 obtain ⟨rfl, rfl⟩ := trodVars_none hV
 have lt0 : ∀ x ∈ p0, x.block < W.heap.size := by obtain ⟨m, hm⟩ := h0; exact DataW.trod_lt m _ _ _ hm
 obtain ⟨c0, rfl, _⟩ := okWide_struct Tryz.underlying25 (hval 0 25 v0 rfl rfl)
 obtain ⟨a0, w0, e0⟩ := h0.elim fun m hm => (opens_25).ok m _ _ hm
 have t0 : RT W noE noS noO [0, 0] (eForm a0) _ := rt_of_cells e0 ⟨fun _ => ⟨_, rfl⟩, fun _ => rfl⟩ (fun h => by cases h) (fun _ h => by cases h)
 have lt1 : ∀ x ∈ p1, x.block < W.heap.size := by obtain ⟨m, hm⟩ := h1; exact DataW.trod_lt m _ _ _ hm
 obtain ⟨c1, rfl⟩ := okWide_string Tryz.underlying9 (hval 1 9 v1 rfl rfl)
 obtain ⟨a1, w1, e1⟩ := h1.elim fun m hm => ((opens_str Tryz.underlying9 (by kernel_rfl))).ok m _ _ hm
 have t1 : RT W noE noS noO [0, 1] (V.str a1) _ := rt_of_cells e1 ⟨(fun h => by cases h), (fun ⟨_, h⟩ => by cases h)⟩ (fun _ => rfl) (fun _ h => by cases h)
 clear hA0 hval0
 obtain ⟨k, hk⟩ := law_law24_ScreenTexts a0 a1 w0 w1
 have hev := (law24_ScreenTexts_ok k a0 a1).trans (by rw [hk]; rfl : _ = some (V.bool true, []))
 obtain ⟨m, hm⟩ := Tryz.laysM146.s1_3 W hsh
 obtain ⟨gc, ge, gf, gh, gk⟩ := glob_of_cell hm
 obtain ⟨te, tf, th⟩ := tab_of_laid (t := 133) (e := 117) (n := 20) (k := .u64) (zs := Go.Lib.pow10Tab) Tryz.laysM171.m17 (by kernel_rfl) Tryz.underlying133 Tryz.underlying117 (by kernel_rfl) (by kernel_rfl) (by rw [← show Rows.laid_internal_strconv_uint64pow10 (H := Unit) = Go.Lib.tabData .u64 Go.Lib.pow10Tab from by kernel_rfl]; exact .tail _ (.tail _ (.head _))) hld
 obtain ⟨sc, se, sf, sh, su, sv, sk⟩ := iface_of_laid (g := 6) (t := 48) (show Tryz.prog.globalNamed "strconv.ErrSyntax" = some 6 by kernel_rfl) (by kernel_rfl) Tryz.underlying48 (.tail _ (.tail _ (.tail _ (.tail _ (.tail _ (.head _)))))) hld
 obtain ⟨rc, re, rf, rh, ru, rv, rk⟩ := iface_of_laid (g := 7) (t := 48) (show Tryz.prog.globalNamed "strconv.ErrRange" = some 7 by kernel_rfl) (by kernel_rfl) Tryz.underlying48 (.tail _ (.tail _ (.tail _ (.tail _ (.head _))))) hld
 refine (row_calls (hm := mixed) (ext_ok (G := listGlob [(0, gc), (Tryz.laysM171_ren.g 17, (Go.Lib.pow10Tab.map fun z => Value.int .u64 z).toArray), (6, sc), (7, rc)]) ⟨gc, rfl, gk⟩ rfl ⟨sc, _, _, rfl, sk⟩ ⟨rc, _, _, rfl, rk⟩) hev (listGlob_cons gh (listGlob_cons th (listGlob_cons sh (listGlob_cons rh listGlob_nil)))) rfl (fun i h h' => ?_)).mono fun e W' ⟨he, bel⟩ => ?_
 ·match i, h with
  | 0, _ => exact t0
  | 1, _ => exact t1
 ·subst he
  exact ⟨_, rfl, _, _, _, [], _, [], hW', trodAll_mk1 (shut_bool Tryz.underlying4 _), (trodAll_cons_mk (Below.trod laidOut (by kernel_rfl) (of_decide_eq_true (by kernel_rfl)) h0 bel lt0) (trodAll_cons_mk (Below.trod laidOut (by kernel_rfl) (of_decide_eq_true (by kernel_rfl)) h1 bel lt1) trodAll_mk0)), rfl, bel.frame _, fun h => by cases h⟩
theorem screenTexts_lifted (os : Os) (started : os.Started) (H : Type) (enc : TypeId × Value → H) :
  ReturnsInHanded {} Tryz.checked os 3 .any (fun w args => (Rows.screenTextsSpec.pre enc Tryz.prog Tryz.f3 [] false w args ∧ laidMetH Tryz.prog Rows.screenTextsRow.laid w) ∧ sizedMet enc Tryz.prog Tryz.f3 (OpenSpec.ofChange Rows.screenTextsSpec) false w args) (Rows.screenTextsSpec.post enc Tryz.prog Tryz.f3 false true false false) := by
 refine returnsInHanded_of_calls own started (by kernel_rfl)
  (ChangeSpec.witness_shaped (enc := enc) (C := Tryz.checked) (os := os) (X := fun w _ => laidMetH Tryz.prog Rows.screenTextsRow.laid w) false (World.laidAll Tryz.prog os Rows.screenTextsRow.laid) #[.agg #[.int .i64 0, .int .i64 0, .slice none 0 0, .slice none 0 0], .string ByteArray.empty] 8 (World.laidAll_os _ _ _)
   (World.shaped_of_ZipB (by kernel_rfl) (by kernel_rfl)) (by kernel_rfl) (by kernel_rfl) (by kernel_rfl)
   (by rw [MakeChecks.laidMetH_plain _ _ _ (by kernel_rfl)]; exact laidMet_laidAll _ (by kernel_rfl) (by kernel_rfl))) ?_
 intro w tape i _ hsh _ hok hpre _
 obtain ⟨_, _, _, fn', hfn', _, _, _, _, hval⟩ := hok
 obtain rfl : fn' = Tryz.f3 := Option.some.inj (hfn'.symm.trans Tryz.func3)
 obtain ⟨⟨⟨ds, gs, before, hw, _⟩, hlaid⟩, _⟩ := hpre
 refine (screenTexts_calls (w.forCall tape i) w.heap.size i.args ds gs before hval (DataW.Whole.of_heap (by rfl) hw) hsh (by have h := hlaid; rw [MakeChecks.laidMetH_plain _ _ _ (by kernel_rfl)] at h; exact laidMet.of_heap (by rfl) h)).mono fun e W' ⟨v, he, hp⟩ => ?_
 subst he
 exact ChangeSpec.post_blind hp
theorem screenTexts_over : Rows.screenTextsRow.holds Tryz.pinned (OpenSpec.ofChange Rows.screenTextsSpec) :=
 OpenClaim.holds_of_wide 3 Tryz.f3 rfl rfl rfl rfl rfl rfl rfl ⟨rfl, rfl, rfl, rfl, rfl⟩ rfl rfl rfl rfl rfl (by kernel_rfl) Tryz.func3 (by kernel_rfl)
  (of_decide_eq_true (by kernel_rfl)) (by unfold Func.isWrapper; first | (rw [if_pos (by decide +kernel)]; kernel_rfl) | (rw [if_neg (by decide +kernel)]; exact ⟨rfl, rfl⟩))
  (fun os started H enc _ => screenTexts_lifted os started H enc)
theorem screenTexts_holds : Rows.ScreenTextsCardSaid :=
 Claim7.holds_tied_plain_at .later [] [.data, .data, .data, .data, .sentinel, .sentinel, .pinned] true (true, "5ff456a3fda94ca8c098536b04f5d5185a1744deb5cb7d95740efe8c17569b18") true screenTexts_over (fun _ h => by cases h) (by kernel_rfl) (fun _ h => by cases h) screenTexts_row_tie rfl ⟨rfl, rfl⟩ (by kernel_rfl) rfl
  (fun f fn hf hfn => by
   obtain rfl : f = 3 := Option.some.inj ((show Tryz.prog.funcNamed "progeny/progenylaw24.ScreenTexts" = some 3 by kernel_rfl).symm.trans hf) |>.symm
   obtain rfl : fn = Tryz.f3 := (Option.some.inj (Tryz.func3.symm.trans hfn)).symm
   exact ⟨by kernel_rfl, fun j t ht => by
    rw [Tryz.params3] at ht
    have hm : t ∈ [25, 9] := by simpa using Array.mem_of_getElem? ht
    have hall : ([25, 9].all fun u => !Tryz.prog.wantsStandIn u) = true := by kernel_rfl
    exact (show Tryz.prog.wantsStandIn t = false by simpa using List.all_eq_true.1 hall t hm)⟩)
  (by kernel_rfl)
end Go.Proofs.YtkkoiekbnkpcoaaGreatDoor
