/- Which bases are valid, and their texts, which are read as they were. -/
import Derived.Test.YtcfnmbmmncmjiaaGreatDoorRows
import Derived.Test.YtcfnmbmmncmjiaaGreatDoorE2
import Derived.Test.YtcfnmbmmncmjiaaGreatDoorB1
import Derived.Test.YtcfnmbmmncmjiaaGreatDoorA3
import Derived.Test.YtcfnmbmmncmjiaaGreatDoorS1
import Derived.Test.YtcfnmbmmncmjiaaGreatDoorTie
import Derived.Test.YtcfnmbmmncmjiaaGreatDoorCards
import Derived.Stop.IfaceNil
import Derived.WalkKit
import Derived.Lib.Walk
import Derived.Lib.SliceRun
import Derived.Deep.LoopGhost
import Derived.Shelf.RegionOpenPlain
import Derived.ProofKit
import Derived.OpenShut
import Derived.ShutString
import Derived.ChangeOld
import Derived.Below
import Derived.SizedLaws
import Derived.Carry
import Derived.Lay
import Derived.LaidOnce
import Derived.SevenTiedAt
import Derived.MakeChecks
import Derived.Handed
set_option linter.unusedSimpArgs false
set_option linter.unusedVariables false
namespace Go.Proofs.YtcfnmbmmncmjiaaGreatDoor
open Go.ChangeShapes Go.WideShapes Go.ChangeAt Go.RowKit Go.AE Go.Sh
set_option maxRecDepth 100000
theorem own : ownKnob Tryz.prog.godebug = none := by kernel_rfl
theorem wm : laidOutB Tryz.prog = true := by kernel_rfl
theorem mixed : Tryz.prog.follows .mixedOrders = true := by kernel_rfl
def rho : Go.Shelf.Ren := ⟨fun _ => 64, fun t => bif Nat.beq t 3 then 3 else bif Nat.beq t 4 then 4 else bif Nat.beq t 28 then 36 else t, fun g => g⟩
theorem lays : Go.Proofs.Lays.n112 Tryz.prog rho := ⟨mixed, Tryz.func64, Tryz.underlying0, Tryz.isAgg0, Tryz.sizeOf0, Tryz.zeroValue0, Tryz.underlying3, Tryz.isAgg3, Tryz.sizeOf3, Tryz.zeroValue3, Tryz.underlying4, Tryz.isAgg4, Tryz.sizeOf4, Tryz.zeroValue4, Tryz.underlying36, Tryz.isAgg36, Tryz.sizeOf36, Tryz.zeroValue36⟩
theorem Af (s sep : ByteArray) (m : Int) (w : World) (hs : s.size < 4294967281) (hm : w.cell? ⟨0, 0, none⟩ = some (.int .i64 m)) (h1 : sep.size = 1) :
  Calls Tryz.prog 21 #[.string s, .string sep] w fun e w' => ∃ ty, e = .returned (.slice (some ⟨w.heap.size, 0, none⟩) (Go.Lib.countB s sep + 1) (Go.Lib.countB s sep + 1)) ∧ w' = w.alloc (.cells ((Go.Lib.splitB sep 1 (Go.Lib.countB s sep) s).map Value.string).toArray ty) := by
 have hle := Go.Lib.countB_le sep (by omega) s.size s (Nat.le_refl _)
 have hlen := Go.Lib.splitB_all sep (by omega) sep.size _ s rfl
 have c := Any.strings_genSplit Tryz.lays221 (by kernel_rfl) s sep sep.size (-1) (Go.Lib.countB s sep + 1) m w hs hm (by omega) (Nat.le_refl _) (by decide) (by decide) (by rw [if_pos (by decide)]; omega)
 rw [Nat.add_sub_cancel, hlen] at c
 have e2 : Go.Lib.cellsOf (Go.Lib.splitB sep sep.size (Go.Lib.countB s sep) s) (Go.Lib.countB s sep + 1) = ((Go.Lib.splitB sep sep.size (Go.Lib.countB s sep) s).map Value.string).toArray := by rw [← hlen]; exact Go.Lib.cellsOf_full _
 rw [e2] at c
 rw [h1] at c
 have c' : Calls Tryz.prog 43 #[.string s, .string sep, .int .i64 1, .int .i64 (-1)] w _ := c
 clear hlen e2 c
 go_enter Tryz.func21, Tryz.ntmps21
 go_wp2_with (first | (go_at_call 43; refine c'.mono ?_; rintro e w' ⟨rfl, hw⟩; rw [hw]))
 go_ret
 exact ⟨_, rfl, rfl⟩
theorem rR (w : World) (o : Obj) (n : Nat) : Below w.heap.size w ((w.drew.alloc o).freeze ⟨w.heap.size, n, none⟩ 1) := by
 have h1 : Below w.heap.size w (w.drew.alloc o) := (Below.refl _ w).drew.alloc (Nat.le_refl _) _
 unfold World.freeze
 rw [if_neg (by decide)]
 refine ⟨h1.os, h1.tape, h1.output, by simp only [Array.size_modify]; exact h1.size, fun k hk => ?_⟩
 simp only [Array.getElem?_modify, if_neg (show ¬ w.heap.size = k by omega)]
 exact h1.block k hk
theorem AZ (s : List UInt8) (w : World) (hl : s.length ≤ 281474976710656) (hs : ∃ t p, w.cell? ⟨1, 0, none⟩ = some (.iface t p)) (hr : ∃ t p, w.cell? ⟨2, 0, none⟩ = some (.iface t p)) :
  Calls Tryz.prog 45 #[.string ⟨s.toArray⟩] w fun e w' => (∃ n ev, e = .returned (.tuple #[.int .i64 n, ev]) ∧ ((ev = .nilIface ∧ Go.Lib.atoiAll s = .ok n) ∨ ((∃ t p, ev = .iface t p) ∧ pb s = (n, false)))) ∧ Below w.heap.size w w' := by
 have hsz : (⟨s.toArray⟩ : ByteArray).size = s.length := by simp [ByteArray.size]
 obtain ⟨t1, p1, h1⟩ := hs
 obtain ⟨t2, p2, h2⟩ := hr
 cases ha : Go.Lib.atoiAll s
 ·rename_i n
  refine (Any.strconv_Atoi_ok Tryz.laysC172 ⟨s.toArray⟩ (by omega) n ha w).mono ?_
  rintro e w' ⟨rfl, hw⟩
  refine ⟨⟨n, .nilIface, rfl, .inl ⟨rfl, rfl⟩⟩, ?_⟩
  rcases hw with rfl | ⟨t, rfl⟩
  ·exact Below.refl _ _
  ·unfold Go.Lib.bytesWorld
   exact rR w _ _
 ·refine (Any.strconv_Atoi_syntax Tryz.laysC172 ⟨s.toArray⟩ (by omega) ha _ w h1 (.inr ⟨t1, p1, rfl⟩)).mono ?_
  rintro e w' ⟨N, rfl, _, _, hb⟩
  exact ⟨⟨0, _, rfl, .inr ⟨⟨_, _, rfl⟩, by unfold pb; rw [ha]⟩⟩, hb⟩
 ·refine (Any.strconv_Atoi_range Tryz.laysC172 ⟨s.toArray⟩ (by omega) ha _ w h2 (.inr ⟨t2, p2, rfl⟩)).mono ?_
  rintro e w' ⟨N, rfl, _, _, hb⟩
  exact ⟨⟨_, _, rfl, .inr ⟨⟨_, _, rfl⟩, by unfold pb; rw [ha]⟩⟩, hb⟩
theorem Ba (n : Int) (n0 : -9223372036854775808 ≤ n) (n1 : n ≤ 9223372036854775807) (w : World) (hp : ∃ e fr, w.heap[3]? = some (.cells (Go.Lib.pow10Tab.map fun z => Value.int .u64 z).toArray e fr)) :
  Calls Tryz.prog 28 #[.int .i64 n] w fun e w' => e = .returned (.string ⟨(Go.Lib.itoa n).toArray⟩) ∧ Below w.heap.size w w' := by
 obtain ⟨e, fr, hp⟩ := hp
 have htab : Go.Lib.TabIs Tryz.prog w "internal/strconv.uint64pow10" .u64 Go.Lib.pow10Tab := by
  unfold Go.Lib.TabIs
  simp only [World.var?, show Tryz.prog.globalNamed "internal/strconv.uint64pow10" = some 3 from Tryz.laysM171.m17, Option.bind_some, hp]
 refine (Any.strconv_Itoa Tryz.laysM171 n n0 n1 w htab).mono ?_
 rintro e w' ⟨rfl, k, os, rfl⟩
 exact ⟨rfl, nh w k os⟩
theorem Bb (s : List UInt8) (v : Int × Bool) (w : World) (hv : od false s = some v) (hs : ∃ t p, w.cell? ⟨1, 0, none⟩ = some (.iface t p)) (hr : ∃ t p, w.cell? ⟨2, 0, none⟩ = some (.iface t p)) (hp : ∃ e fr, w.heap[3]? = some (.cells (Go.Lib.pow10Tab.map fun z => Value.int .u64 z).toArray e fr)) :
  Calls Tryz.prog 24 #[.string ⟨s.toArray⟩] w fun e w' => e = .returned (.tuple #[.int .i64 v.1, .bool v.2]) ∧ Below w.heap.size w w' := by
 have qn : ∀ w : World, (binOp .eql 78 .nilIface .nilIface).run Tryz.prog w = .ok (.bool true) w := fun w => run_eql_nil_nil_at w 78 (by kernel_rfl)
 have qi : ∀ (t : TypeId) (p : Value) (w : World), (binOp .eql 78 (.iface t p) .nilIface).run Tryz.prog w = .ok (.bool false) w := fun t p w => run_eql_iface_nil w 78 (by kernel_rfl) t p
 unfold od at hv
 simp only [Bool.false_and, Bool.false_eq_true, if_false] at hv
 have hR : s.length ≤ 281474976710656 ∧ v = pb s := by
  by_cases hl : s.length ≤ 281474976710656
  ·rw [if_pos hl] at hv
   exact ⟨hl, (Option.some.inj hv).symm⟩
  ·rw [if_neg hl] at hv
   cases hv
 obtain ⟨hl, rfl⟩ := hR
 have hA := AZ s w hl hs hr
 clear hv
 go_enter Tryz.func24, Tryz.ntmps24
 go_wp2_with (first | (go_at_call 45; refine hA.mono ?_; rintro e w' ⟨⟨n, ev, rfl, hc⟩, hb⟩))
 have hp' : ∃ e fr, w'.heap[3]? = some (.cells (Go.Lib.pow10Tab.map fun z => Value.int .u64 z).toArray e fr) := by
  obtain ⟨e, fr, h⟩ := hp
  exact ⟨e, fr, by rw [hb.block 3 (G2 h)]; exact h⟩
 rcases hc with ⟨rfl, hok⟩ | ⟨⟨t, p, rfl⟩, hn⟩
 ·have hbd := Go.Lib.atoiAll_bounds hok
  have hI := Ba n hbd.1 hbd.2 w' hp'
  have hR : pb s = (n, decide (0 ≤ n) && (Go.Lib.itoa n == s)) := by unfold pb; rw [hok]
  simp only [eqGuard_nil_constR, qn, Sem.run_pure, Result.andThen]
  rw [Oper.upon_value]
  go_wp2_with (first | (go_at_call 28; refine hI.mono ?_; rintro e w2 ⟨rfl, hb2⟩))
  ·rename_i h0
   go_ret2
   refine ⟨?_, hb.trans (hb2.mono hb.size)⟩
   first | rw [hR] | skip
   rw [decide_eq_true h0, Bool.true_and]
   rfl
  ·rename_i h0
   go_ret2
   refine ⟨?_, hb⟩
   first | rw [hR] | skip
   rw [decide_eq_false (by omega), Bool.false_and]
   rfl
 ·have gi : ∀ (a b : Operand), eqGuard .eql 78 a b (.iface t p) .nilIface = pure () := fun a b => rfl
  simp only [gi, qi, Sem.run_pure, Result.andThen]
  rw [Oper.upon_value]
  go_wp2
  go_ret2
  rw [hn]
  exact ⟨rfl, hb⟩
theorem Ff {G : Glo} {m : Int} (hG : ∃ c, G 0 = some c ∧ c[0]? = some (.int .i64 m)) (hT : G (Tryz.laysM171_ren.g 17) = some (Go.Lib.pow10Tab.map fun z => Value.int .u64 z).toArray) (hS : ∃ c t p, G 1 = some c ∧ c[0]? = some (.iface t p)) (hR : ∃ c t p, G 2 = some c ∧ c[0]? = some (.iface t p)) : ∀ f args r outs, Go.AE.ext f args = some (some (r, outs)) → Z3 G Tryz.prog f args r outs := by
 intro f args r outs h
 unfold Go.AE.ext at h
 cases hf0 : Nat.beq f 64 with
 | true =>
  rw [hf0] at h
  obtain rfl := Nat.eq_of_beq_eq_true hf0
  exact uR lays args r outs (Option.some.inj h)
 | false =>
  rw [hf0] at h
  simp only [cond_false] at h
  cases hf1 : Nat.beq f 28 with
  | true =>
   rw [hf1] at h
   obtain rfl := Nat.eq_of_beq_eq_true hf1
   exact AR Tryz.laysM171 Tryz.laysM171.m17 hT args r outs (Option.some.inj h)
  | false =>
   rw [hf1] at h
   simp only [cond_false] at h
   cases hf2 : Nat.beq f 53 with
   | true =>
    rw [hf2] at h
    obtain rfl := Nat.eq_of_beq_eq_true hf2
    exact uZ Tryz.lays156 Tryz.Builder_Extra_156 args r outs (Option.some.inj h)
   | false =>
    rw [hf2] at h
    simp only [cond_false] at h
    cases hf3 : Nat.beq f 52 with
    | true =>
     rw [hf3] at h
     obtain rfl := Nat.eq_of_beq_eq_true hf3
     exact Az Tryz.lays166x Tryz.Builder_Extra_156 args r outs (Option.some.inj h)
    | false =>
     rw [hf3] at h
     simp only [cond_false] at h
     cases hf4 : Nat.beq f 54 with
     | true =>
      rw [hf4] at h
      obtain rfl := Nat.eq_of_beq_eq_true hf4
      exact Ax Tryz.lays167x Tryz.Builder_Extra_167x args r outs (Option.some.inj h)
     | false =>
      rw [hf4] at h
      simp only [cond_false] at h
      cases hf5 : Nat.beq f 29 with
      | true =>
       rw [hf5] at h
       obtain rfl := Nat.eq_of_beq_eq_true hf5
       exact Ay Tryz.lays169 Tryz.Builder_Extra_169 args r outs (Option.some.inj h)
      | false =>
       rw [hf5] at h
       simp only [cond_false] at h
       cases hf6 : Nat.beq f 21 with
       | true =>
        rw [hf6] at h
        obtain rfl := Nat.eq_of_beq_eq_true hf6
        exact Bm ⟨_, Tryz.func21, by decide, rfl⟩ Af hG args r outs (Option.some.inj h)
       | false =>
        rw [hf6] at h
        simp only [cond_false] at h
        cases hf7 : Nat.beq f 23 with
        | true =>
         rw [hf7] at h
         obtain rfl := Nat.eq_of_beq_eq_true hf7
         exact yd Tryz.lays102 args r outs (Option.some.inj h)
        | false =>
         rw [hf7] at h
         simp only [cond_false] at h
         cases hf8 : Nat.beq f 22 with
         | true =>
          rw [hf8] at h
          obtain rfl := Nat.eq_of_beq_eq_true hf8
          exact FM Tryz.lays146 (by kernel_rfl) hG args r outs (Option.some.inj h)
         | false =>
          rw [hf8] at h
          simp only [cond_false] at h
          cases hf9 : Nat.beq f 24 with
          | true =>
           rw [hf9] at h
           obtain rfl := Nat.eq_of_beq_eq_true hf9
           exact FH ⟨_, Tryz.func24, by decide, rfl⟩ Bb hS hR hT args r outs (Option.some.inj h)
          | false =>
           rw [hf9] at h
           simp only [cond_false] at h
           cases hf10 : Nat.beq f 77 with
           | true =>
            rw [hf10] at h
            obtain rfl := Nat.eq_of_beq_eq_true hf10
            exact xZ Tryz.lays137 args r outs (Option.some.inj h)
           | false =>
            rw [hf10] at h
            simp only [cond_false] at h
            cases h
theorem zJ {H : Type} {enc : TypeId × Value → H} {w : World} : dd enc Tryz.prog w 54 (fun a => (j3 a).cells) aA :=
 (bX (β := Str × Int × Int × Unit) (encA := j3) Tryz.underlying54 (by kernel_rfl) (A9 (sz := 1) rfl rfl (by kernel_rfl) (ck Tryz.underlying9 (by kernel_rfl)) (A9 (sz := 1) rfl rfl (by kernel_rfl) (U2 Tryz.underlying3 (by kernel_rfl)) (A9 (sz := 1) rfl rfl (by kernel_rfl) (U2 Tryz.underlying3 (by kernel_rfl)) eZ))) (fun b => ⟨b.1, b.2.1, b.2.2.1⟩) (fun a => (a.fName, a.fAt, a.fBytes, ())) (fun _ => rfl) (fun _ => rfl)).mono (fun a ⟨b, e, h⟩ => by subst e; exact h)
theorem zI {H : Type} {enc : TypeId × Value → H} {w : World} : dd enc Tryz.prog w 52 (fun a => (d9 a).cells) I1 :=
 (bX (β := Str × Int × Int × Int × (List b8) × Int × Bool × Bool × Unit) (encA := d9) Tryz.underlying52 (by kernel_rfl) (A9 (sz := 1) rfl rfl (by kernel_rfl) (ck Tryz.underlying9 (by kernel_rfl)) (A9 (sz := 1) rfl rfl (by kernel_rfl) (U2 Tryz.underlying3 (by kernel_rfl)) (A9 (sz := 1) rfl rfl (by kernel_rfl) (U2 Tryz.underlying3 (by kernel_rfl)) (A9 (sz := 1) rfl rfl (by kernel_rfl) (U2 Tryz.underlying3 (by kernel_rfl)) (A9 (sz := 1) rfl rfl (by kernel_rfl) (gF (encE := j3) (sz := 3) Tryz.underlying50 (by kernel_rfl) (by kernel_rfl) (by decide) zJ) (A9 (sz := 1) rfl rfl (by kernel_rfl) (U2 Tryz.underlying3 (by kernel_rfl)) (A9 (sz := 1) rfl rfl (by kernel_rfl) (oi Tryz.underlying4 (by kernel_rfl)) (A9 (sz := 1) rfl rfl (by kernel_rfl) (oi Tryz.underlying4 (by kernel_rfl)) eZ)))))))) (fun b => ⟨b.1, b.2.1, b.2.2.1, b.2.2.2.1, b.2.2.2.2.1, b.2.2.2.2.2.1, b.2.2.2.2.2.2.1, b.2.2.2.2.2.2.2.1⟩) (fun a => (a.fName, a.fParent, a.fMin, a.fSize, a.fFields, a.fKey, a.fUnique, a.fLast, ())) (fun _ => rfl) (fun _ => rfl)).mono (fun a ⟨b, e, h⟩ => by subst e; exact h)
theorem zK {H : Type} {enc : TypeId × Value → H} {w : World} : dd enc Tryz.prog w 56 (fun a => (d7 a).cells) N3 :=
 (bX (β := Str × Int × Int × Str × Unit) (encA := d7) Tryz.underlying56 (by kernel_rfl) (A9 (sz := 1) rfl rfl (by kernel_rfl) (ck Tryz.underlying9 (by kernel_rfl)) (A9 (sz := 1) rfl rfl (by kernel_rfl) (U2 Tryz.underlying3 (by kernel_rfl)) (A9 (sz := 1) rfl rfl (by kernel_rfl) (U2 Tryz.underlying3 (by kernel_rfl)) (A9 (sz := 1) rfl rfl (by kernel_rfl) (ck Tryz.underlying9 (by kernel_rfl)) eZ)))) (fun b => ⟨b.1, b.2.1, b.2.2.1, b.2.2.2.1⟩) (fun a => (a.fName, a.fType, a.fField, a.fSparse, ())) (fun _ => rfl) (fun _ => rfl)).mono (fun a ⟨b, e, h⟩ => by subst e; exact h)
theorem zH {H : Type} {enc : TypeId × Value → H} {w : World} : dd enc Tryz.prog w 26 (fun a => (j5 a).cells) z7 :=
 (bX (β := Str × Int × (List a7) × (List a8) × Unit) (encA := j5) Tryz.underlying26 (by kernel_rfl) (A9 (sz := 1) rfl rfl (by kernel_rfl) (ck Tryz.underlying9 (by kernel_rfl)) (A9 (sz := 1) rfl rfl (by kernel_rfl) (U2 Tryz.underlying3 (by kernel_rfl)) (A9 (sz := 1) rfl rfl (by kernel_rfl) (gF (encE := d9) (sz := 8) Tryz.underlying23 (by kernel_rfl) (by kernel_rfl) (by decide) zI) (A9 (sz := 1) rfl rfl (by kernel_rfl) (gF (encE := d7) (sz := 4) Tryz.underlying24 (by kernel_rfl) (by kernel_rfl) (by decide) zK) eZ)))) (fun b => ⟨b.1, b.2.1, b.2.2.1, b.2.2.2.1⟩) (fun a => (a.fName, a.fKind, a.fTypes, a.fIndexes, ())) (fun _ => rfl) (fun _ => rfl)).mono (fun a ⟨b, e, h⟩ => by subst e; exact h)
theorem nq {H : Type} {enc : TypeId × Value → H} (W : World) (base : Nat) (args : Array Value) (ds gs : List (DataW H)) (J5 : List MemPlace)
  (hval0 : ∀ (j : Nat) t v, Tryz.f4.params[j]? = some t → args[j]? = some v → Value.okWide Tryz.prog W .any base t v)
  (hW : DataW.Whole enc Tryz.prog Tryz.f4.params.toList Rows.dbdValidSpec.vars false W args.toList ds gs J5) (hsh : W.ShapedOpen Tryz.prog) (hld : laidMet Tryz.prog Rows.dbdValidRow.laid W) :
  Calls Tryz.prog 4 args W fun e W' => ∃ v, e = .returned v ∧ Rows.dbdValidSpec.post enc Tryz.prog Tryz.f4 false true false false W args v W' := by
 have hval : ∀ (j : Nat) t v, Tryz.f4.params[j]? = some t → args[j]? = some v → Value.okWide Tryz.prog W .any base t v := hval0
 have hW' := hW
 obtain ⟨p, q, hA0, hV, rfl, hfz, hnd⟩ := hW
 have hA : DataW.TrodAll enc Tryz.prog W 0 (fun _ => true) true Tryz.f4.params.toList args.toList ds p := hA0
 rw [Tryz.params4] at hA hval
 obtain ⟨v0, vs0, d0, ds0, p0, q0, hargs, rfl, rfl, h0, r0⟩ := trodAll_cons hA
 obtain ⟨v1, vs1, d1, ds1, p1, q1, rfl, rfl, rfl, h1, r1⟩ := trodAll_cons r0
 obtain ⟨rfl, rfl, rfl⟩ := trodAll_nil r1
 obtain rfl : args = #[v0, v1] := by cases args; simp_all
 obtain ⟨rfl, rfl⟩ := trodVars_none hV
 have lt0 : ∀ x ∈ p0, x.block < W.heap.size := by obtain ⟨m, hm⟩ := h0; exact DataW.trod_lt m _ _ _ hm
 obtain ⟨c0, rfl, _⟩ := okWide_struct Tryz.underlying26 (hval 0 26 v0 rfl rfl)
 obtain ⟨a0, w0, e0⟩ := h0.elim fun m hm => (zH).ok m _ _ hm
 have t0 : RT W noE noS noO [0, 0] (j5 a0) _ := mq e0 ⟨fun _ => ⟨_, rfl⟩, fun _ => rfl⟩ (fun h => by cases h) (fun _ h => by cases h)
 have lt1 : ∀ x ∈ p1, x.block < W.heap.size := by obtain ⟨m, hm⟩ := h1; exact DataW.trod_lt m _ _ _ hm
 obtain ⟨c1, rfl⟩ := okWide_string Tryz.underlying9 (hval 1 9 v1 rfl rfl)
 obtain ⟨a1, w1, e1⟩ := h1.elim fun m hm => ((ck Tryz.underlying9 (by kernel_rfl))).ok m _ _ hm
 have t1 : RT W noE noS noO [0, 1] (V.str a1) _ := mq e1 ⟨(fun h => by cases h), (fun ⟨_, h⟩ => by cases h)⟩ (fun _ => rfl) (fun _ h => by cases h)
 clear hA0 hval0
 obtain ⟨k, hk⟩ := ja a0 a1 w0 w1
 have hev := (jZ k a0 a1).trans (by rw [hk]; rfl : _ = some (V.bool true, []))
 obtain ⟨m, hm⟩ := Tryz.laysM146.s1_3 W hsh
 obtain ⟨gc, ge, gf, gh, gk⟩ := qP hm
 obtain ⟨te, tf, th⟩ := tG (t := 139) (e := 125) (n := 20) (k := .u64) (zs := Go.Lib.pow10Tab) Tryz.laysM171.m17 (by kernel_rfl) Tryz.underlying139 Tryz.underlying125 (by kernel_rfl) (by kernel_rfl) (by rw [← show Rows.laid_internal_strconv_uint64pow10 (H := Unit) = Go.Lib.tabData .u64 Go.Lib.pow10Tab from by kernel_rfl]; exact .tail _ (.tail _ (.head _))) hld
 obtain ⟨sc, se, sf, sh, su, sv, sk⟩ := iw (g := 1) (t := 78) (show Tryz.prog.globalNamed "strconv.ErrSyntax" = some 1 by kernel_rfl) (by kernel_rfl) Tryz.underlying78 (.tail _ (.tail _ (.tail _ (.tail _ (.tail _ (.head _)))))) hld
 obtain ⟨rc, re, rf, rh, ru, rv, rk⟩ := iw (g := 2) (t := 78) (show Tryz.prog.globalNamed "strconv.ErrRange" = some 2 by kernel_rfl) (by kernel_rfl) Tryz.underlying78 (.tail _ (.tail _ (.tail _ (.tail _ (.head _))))) hld
 refine (xL (hm := mixed) (Ff (G := ec [(0, gc), (Tryz.laysM171_ren.g 17, (Go.Lib.pow10Tab.map fun z => Value.int .u64 z).toArray), (1, sc), (2, rc)]) ⟨gc, rfl, gk⟩ rfl ⟨sc, _, _, rfl, sk⟩ ⟨rc, _, _, rfl, rk⟩) hev (bc gh (bc th (bc sh (bc rh qT)))) rfl (fun i h h' => ?_)).mono fun e W' ⟨he, bel⟩ => ?_
 ·match i, h with
  | 0, _ => exact t0
  | 1, _ => exact t1
 ·subst he
  exact ⟨_, rfl, _, _, _, [], _, [], hW', trodAll_mk1 (shut_bool Tryz.underlying4 _), (trodAll_cons_mk (Below.trod wm (by kernel_rfl) (of_decide_eq_true (by kernel_rfl)) h0 bel lt0) (trodAll_cons_mk (Below.trod wm (by kernel_rfl) (of_decide_eq_true (by kernel_rfl)) h1 bel lt1) trodAll_mk0)), rfl, bel.frame _, fun h => by cases h⟩
theorem mC (os : Os) (started : os.Started) (H : Type) (enc : TypeId × Value → H) :
  ReturnsInHanded {} Tryz.checked os 4 .any (fun w args => (Rows.dbdValidSpec.pre enc Tryz.prog Tryz.f4 [] false w args ∧ laidMetH Tryz.prog Rows.dbdValidRow.laid w) ∧ sizedMet enc Tryz.prog Tryz.f4 (OpenSpec.ofChange Rows.dbdValidSpec) false w args) (Rows.dbdValidSpec.post enc Tryz.prog Tryz.f4 false true false false) := by
 refine returnsInHanded_of_calls own started (by kernel_rfl)
  (ChangeSpec.witness_shaped (enc := enc) (C := Tryz.checked) (os := os) (X := fun w _ => laidMetH Tryz.prog Rows.dbdValidRow.laid w) false (World.laidAll Tryz.prog os Rows.dbdValidRow.laid) #[.agg #[.string ByteArray.empty, .int .i64 0, .slice none 0 0, .slice none 0 0], .string ByteArray.empty] 8 (World.laidAll_os _ _ _)
   (World.shaped_of_ZipB (by kernel_rfl) (by kernel_rfl)) (by kernel_rfl) (by kernel_rfl) (by kernel_rfl)
   (by rw [MakeChecks.laidMetH_plain _ _ _ (by kernel_rfl)]; exact laidMet_laidAll _ (by kernel_rfl) (by kernel_rfl))) ?_
 intro w tape i _ hsh _ hok hpre _
 obtain ⟨_, _, _, fn', hfn', _, _, _, _, hval⟩ := hok
 obtain rfl : fn' = Tryz.f4 := Option.some.inj (hfn'.symm.trans Tryz.func4)
 obtain ⟨⟨⟨ds, gs, J5, hw, _⟩, hlaid⟩, _⟩ := hpre
 refine (nq (w.forCall tape i) w.heap.size i.args ds gs J5 hval (DataW.Whole.of_heap (by rfl) hw) hsh (by have h := hlaid; rw [MakeChecks.laidMetH_plain _ _ _ (by kernel_rfl)] at h; exact laidMet.of_heap (by rfl) h)).mono fun e W' ⟨v, he, hp⟩ => ?_
 subst he
 exact ChangeSpec.post_blind hp
theorem oM : Rows.dbdValidRow.holds Tryz.pinned (OpenSpec.ofChange Rows.dbdValidSpec) :=
 OpenClaim.holds_of_wide 4 Tryz.f4 rfl rfl rfl rfl rfl rfl rfl ⟨rfl, rfl, rfl, rfl, rfl⟩ rfl rfl rfl rfl rfl (by kernel_rfl) Tryz.func4 (by kernel_rfl)
  (of_decide_eq_true (by kernel_rfl)) (by unfold Func.isWrapper; first | (rw [if_pos (by decide +kernel)]; kernel_rfl) | (rw [if_neg (by decide +kernel)]; exact ⟨rfl, rfl⟩))
  (fun os started H enc _ => mC os started H enc)
theorem dbdValid_holds : Rows.DbdValidCardSaid :=
 Claim7.holds_tied_plain_at .later [] [.data, .data, .data, .data, .sentinel, .sentinel, .pinned] true (true, "fc0c967b0401c61a2f8a6fcb6a5cc754e8fbe7eff31bac5484face12daa5906d") true oM (fun _ h => by cases h) (by kernel_rfl) (fun _ h => by cases h) dbdValid_row_tie rfl ⟨rfl, rfl⟩ (by kernel_rfl) rfl
  (fun f fn hf hfn => by
   obtain rfl : f = 4 := Option.some.inj ((show Tryz.prog.funcNamed "progeny/progenylaw11.DbdValid" = some 4 by kernel_rfl).symm.trans hf) |>.symm
   obtain rfl : fn = Tryz.f4 := (Option.some.inj (Tryz.func4.symm.trans hfn)).symm
   exact ⟨by kernel_rfl, fun j t ht => by
    rw [Tryz.params4] at ht
    have hm : t ∈ [26, 9] := by simpa using Array.mem_of_getElem? ht
    have hall : ([26, 9].all fun u => !Tryz.prog.wantsStandIn u) = true := by kernel_rfl
    exact (show Tryz.prog.wantsStandIn t = false by simpa using List.all_eq_true.1 hall t hm)⟩)
  (by kernel_rfl)
end Go.Proofs.YtcfnmbmmncmjiaaGreatDoor
