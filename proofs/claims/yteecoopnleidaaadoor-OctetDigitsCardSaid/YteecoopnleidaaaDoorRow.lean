/- Texts with spaces behind them and without, and numbers as digits: the program and the reference agree. -/
import Derived.Test.YteecoopnleidaaaDoorRows
import Derived.Test.YteecoopnleidaaaDoorE1
import Derived.Test.YteecoopnleidaaaDoorB1
import Derived.Test.YteecoopnleidaaaDoorA3
import Derived.Test.YteecoopnleidaaaDoorS1
import Derived.Test.YteecoopnleidaaaDoorTie
import Derived.Test.YteecoopnleidaaaDoorCards
import Derived.Laws.RangeAny
import Derived.WalkKit
import Derived.Lib.Walk
import Derived.Lib.SliceRun
import Derived.Deep.LoopGhost
import Derived.Shelf.RegionOpenPlain
import Derived.ProofKit
import Derived.OpenShut
import Derived.ShutString
import Derived.ChangeOld
import Derived.Below
import Derived.SizedLaws
import Derived.Carry
import Derived.Lay
import Derived.LaidOnce
import Derived.SevenTiedAt
import Derived.MakeChecks
import Derived.Handed
namespace Go.Proofs.YteecoopnleidaaaDoor
open Go.ChangeShapes Go.WideShapes Go.ChangeAt Go.RowKit Go.AE Go.Sh
set_option linter.unusedVariables false
set_option maxRecDepth 100000
theorem own : ownKnob Tryd.prog.godebug = none := by kernel_rfl
theorem laidOut : laidOutB Tryd.prog = true := by kernel_rfl
theorem mixed : Tryd.prog.follows .mixedOrders = true := by kernel_rfl
theorem fdLow {l : List UInt8} {n : Int} {pos : Nat} (h : pos < l.length) (h1 : l[pos].toNat < 48) : fdGo (l.drop pos) n = (0, 3) := by
  rw [List.drop_eq_getElem_cons h, fdGo, if_pos (Or.inl h1)]
theorem fdHigh {l : List UInt8} {n : Int} {pos : Nat} (h : pos < l.length) (h1 : 57 < l[pos].toNat) : fdGo (l.drop pos) n = (0, 3) := by
  rw [List.drop_eq_getElem_cons h, fdGo, if_pos (Or.inr h1)]
theorem fdNext {l : List UInt8} {n : Int} {pos : Nat} (h : pos < l.length) (h1 : ¬ l[pos].toNat < 48) (h2 : ¬ 57 < l[pos].toNat) : fdGo (l.drop pos) n = fdGo (l.drop (pos + 1)) (10 * n + ((l[pos].toNat : Int) - 48)) := by
  rw [List.drop_eq_getElem_cons h, fdGo, if_neg (by omega)]
theorem fdOver {l : List UInt8} {n : Int} {pos : Nat} (h : ¬ pos < l.length) : fdGo (l.drop pos) n = (n, 0) := by
  rw [List.drop_of_length_le (by omega)]
  rfl
theorem below_iter (w : World) (s : ByteArray) (pos : Nat) : Below w.heap.size w (w.iter s pos) := (Below.refl _ w).alloc (Nat.le_refl _) _

set_option maxHeartbeats 1000000 in
theorem fdWalk (l : List UInt8) (w : World) : Calls Tryd.prog 44 #[.string ⟨l.toArray⟩] w fun e w' => e = .returned (.tuple #[.int .i64 (fdS l).1, .int .i64 (fdS l).2]) ∧ Below w.heap.size w w' := by
  have hsz : (⟨l.toArray⟩ : ByteArray).size = l.length := by simp [ByteArray.size]
  have hat : ∀ (pos : Nat) (h : pos < (⟨l.toArray⟩ : ByteArray).size), (⟨l.toArray⟩ : ByteArray)[pos]'h = l[pos]'(by rw [← hsz]; exact h) := fun pos h => rfl
  generalize hs : (⟨l.toArray⟩ : ByteArray) = s at hsz hat
  have hr1 : (l.length < 1 ∨ 9 < l.length) → fdS l = (0, 3) := fun h => by unfold fdS; rw [if_pos h]
  have hr2 : ¬ (l.length < 1 ∨ 9 < l.length) → fdS l = fdGo l 0 := fun h => by unfold fdS; rw [if_neg h]
  generalize fdS l = r at hr1 hr2
  go_enter Tryd.func44, Tryd.ntmps44
  go_wp2
  · rw [hr1 (by omega)]
    go_ret2
    exact ⟨rfl, Below.refl _ _⟩
  · have hg := (hr2 (by omega)).symm
    clear hr1 hr2
    go_loopw [4] (fun n w' => ∃ (pos : Nat) (acc : Int), w' = w.iter s pos ∧ n = .int .i64 acc ∧ fdGo (l.drop pos) acc = r ∧ pos ≤ l.length ∧ 0 ≤ acc ∧ acc < 10 ^ pos) (fun _ w' => s.size - w'.iterPos w.heap.size)
    case atStart => exact ⟨0, 0, rfl, rfl, hg, by omega, by omega, by decide⟩
    case round =>
      obtain ⟨pos, acc, rfl, rfl, hc, hp0, ha0, ha1⟩ := hrel
      by_cases hp : pos < s.size
      · have hp' : pos < l.length := by omega
        have hb := l[pos].toNat_lt
        have hbe := hat pos hp
        have h9 : (10 : Int) ^ pos ≤ 10 ^ 8 := by
          have := Nat.pow_le_pow_right (n := 10) (by omega) (show pos ≤ 8 by omega)
          have e1 : ((10 ^ pos : Nat) : Int) = 10 ^ pos := Int.natCast_pow 10 pos
          have e2 : ((10 ^ 8 : Nat) : Int) = 10 ^ 8 := Int.natCast_pow 10 8
          rw [← e1, ← e2]
          exact Int.ofNat_le.2 this
        have h8 : (10 : Int) ^ 8 = 100000000 := by decide
        have hpw : (10 : Int) ^ (pos + 1) = 10 ^ pos * 10 := by rw [Int.pow_succ]
        by_cases ha : (s[pos]'hp).toNat < 128
        · have hnx : ∀ ty, (Instr.next (.pointer (some ⟨w.heap.size, 0, none⟩)) true ty).run Tryd.prog (w.iter s pos) = _ := fun ty => run_next_ascii w s pos ty hp ha
          rw [hbe] at hnx
          go_wp2
          · go_ret2
            rw [fdHigh hp' (by omega)] at hc
            rw [← hc]
            exact ⟨rfl, below_iter _ _ _⟩
          · rw [fdNext hp' (by omega) (by omega)] at hc
            go_roundw
            case rel =>
              exact ⟨pos + 1, _, rfl, rfl, hc, by omega, by omega, by rw [hpw]; omega⟩
            case measure =>
              simp
              omega
          · go_ret2
            rw [fdLow hp' (by omega)] at hc
            rw [← hc]
            exact ⟨rfl, below_iter _ _ _⟩
        · have hnx : ∀ ty, (Instr.next (.pointer (some ⟨w.heap.size, 0, none⟩)) true ty).run Tryd.prog (w.iter s pos) = _ := fun ty => run_next_any w s pos ty hp
          have hd := (decode_high s pos hp (by omega)).1
          have hq : 57 < l[pos].toNat := by rw [← hbe]; omega
          generalize Utf8.decode s pos = q at hnx hd
          go_wp2
          all_goals first
            | (go_ret2
               rw [fdHigh hp' hq] at hc
               rw [← hc]
               exact ⟨rfl, below_iter _ _ _⟩)
            | (exfalso; omega)
      · have hnx : ∀ ty, (Instr.next (.pointer (some ⟨w.heap.size, 0, none⟩)) true ty).run Tryd.prog (w.iter s pos) = _ := fun ty => run_next_end w s pos ty hp
        go_wp2
        go_ret2
        rw [fdOver (by omega)] at hc
        rw [← hc]
        exact ⟨rfl, below_iter _ _ _⟩
  · rw [hr1 (by omega)]
    go_ret2
    exact ⟨rfl, Below.refl _ _⟩
theorem ext_ok {G : Glo} {m : Int} (hG : ∃ c, G 0 = some c ∧ c[0]? = some (.int .i64 m)) (hT : G (Tryd.laysM171_ren.g 17) = some (Go.Lib.pow10Tab.map fun z => Value.int .u64 z).toArray) : ∀ f args r outs, Go.AE.ext f args = some (some (r, outs)) → FnOk G Tryd.prog f args r outs := by
  intro f args r outs h
  unfold Go.AE.ext at h
  cases hf0 : Nat.beq f 57 with
  | true =>
    rw [hf0] at h
    obtain rfl := Nat.eq_of_beq_eq_true hf0
    exact itoa_ok Tryd.laysM171 Tryd.laysM171.m17 hT args r outs (Option.some.inj h)
  | false =>
    rw [hf0] at h
    simp only [cond_false] at h
    cases hf1 : Nat.beq f 55 with
    | true =>
      rw [hf1] at h
      obtain rfl := Nat.eq_of_beq_eq_true hf1
      exact strRep_ok Tryd.lays105 Tryd.Builder_Extra_105 args r outs (Option.some.inj h)
    | false =>
      rw [hf1] at h
      simp only [cond_false] at h
      cases hf2 : Nat.beq f 49 with
      | true =>
        rw [hf2] at h
        obtain rfl := Nat.eq_of_beq_eq_true hf2
        exact repAll_ok Tryd.lays155 Tryd.Builder_Extra_155 hG args r outs (Option.some.inj h)
      | false =>
        rw [hf2] at h
        simp only [cond_false] at h
        cases hf3 : Nat.beq f 56 with
        | true =>
          rw [hf3] at h
          obtain rfl := Nat.eq_of_beq_eq_true hf3
          exact trimR_ok Tryd.lays162 args r outs (Option.some.inj h)
        | false =>
          rw [hf3] at h
          simp only [cond_false] at h
          cases hf4 : Nat.beq f 44 with
          | true =>
            rw [hf4] at h
            obtain rfl := Nat.eq_of_beq_eq_true hf4
            exact fd_ok ⟨_, Tryd.func44, by decide, rfl⟩ fdWalk args r outs (Option.some.inj h)
          | false =>
            rw [hf4] at h
            simp only [cond_false] at h
            cases h
theorem opens_56 {H : Type} {enc : TypeId × Value → H} {w : World} : Opens enc Tryd.prog w 56 (fun a => (eInt a).cells) wf_T_arr3_Int :=
  (opens_array (fs := [arrF 3 0, arrF 3 1, arrF 3 2]) (β := Int × Int × Int × Unit) (encA := eInt) Tryd.underlying56 (by kernel_rfl) (opensF_cons (sz := 1) rfl rfl (by kernel_rfl) (opens_int Tryd.underlying3 (by kernel_rfl)) (opensF_cons (sz := 1) rfl rfl (by kernel_rfl) (opens_int Tryd.underlying3 (by kernel_rfl)) (opensF_cons (sz := 1) rfl rfl (by kernel_rfl) (opens_int Tryd.underlying3 (by kernel_rfl)) opensF_nil))) (by
    intro f hf
    simp only [List.mem_cons, List.not_mem_nil, or_false] at hf
    rcases hf with rfl | rfl | rfl
    · exact ⟨rfl, 0, by decide, by kernel_rfl⟩
    · exact ⟨rfl, 1, by decide, by kernel_rfl⟩
    · exact ⟨rfl, 2, by decide, by kernel_rfl⟩) (fun b => ⟨b.1, b.2.1, b.2.2.1⟩) (fun a => (a.e0, a.e1, a.e2, ())) (fun _ => rfl) (fun _ => rfl)).mono (fun a ⟨b, e, h⟩ => by subst e; exact h)
theorem octetDigits_calls {H : Type} {enc : TypeId × Value → H} (W : World) (base : Nat) (args : Array Value) (ds gs : List (DataW H)) (before : List MemPlace)
    (hval0 : ∀ (j : Nat) t v, Tryd.f9.params[j]? = some t → args[j]? = some v → Value.okWide Tryd.prog W .any base t v)
    (hW : DataW.Whole enc Tryd.prog Tryd.f9.params.toList Rows.octetDigitsSpec.vars false W args.toList ds gs before) (hsh : W.ShapedOpen Tryd.prog) (hld : laidMet Tryd.prog Rows.octetDigitsRow.laid W) :
    Calls Tryd.prog 9 args W fun e W' => ∃ v, e = .returned v ∧ Rows.octetDigitsSpec.post enc Tryd.prog Tryd.f9 false true false false W args v W' := by
  have hval : ∀ (j : Nat) t v, Tryd.f9.params[j]? = some t → args[j]? = some v → Value.okWide Tryd.prog W .any base t v := hval0
  have hW' := hW
  obtain ⟨p, q, hA0, hV, rfl, hfz, hnd⟩ := hW
  have hA : DataW.TrodAll enc Tryd.prog W 0 (fun _ => true) true Tryd.f9.params.toList args.toList ds p := hA0
  rw [Tryd.params9] at hA hval
  obtain ⟨v0, vs0, d0, ds0, p0, q0, hargs, rfl, rfl, h0, r0⟩ := trodAll_cons hA
  obtain ⟨v1, vs1, d1, ds1, p1, q1, rfl, rfl, rfl, h1, r1⟩ := trodAll_cons r0
  obtain ⟨rfl, rfl, rfl⟩ := trodAll_nil r1
  obtain rfl : args = #[v0, v1] := by cases args; simp_all
  obtain ⟨rfl, rfl⟩ := trodVars_none hV
  have lt0 : ∀ x ∈ p0, x.block < W.heap.size := by obtain ⟨m, hm⟩ := h0; exact DataW.trod_lt m _ _ _ hm
  obtain ⟨c0, rfl⟩ := okWide_string Tryd.underlying9 (hval 0 9 v0 rfl rfl)
  obtain ⟨a0, w0, e0⟩ := h0.elim fun m hm => ((opens_str Tryd.underlying9 (by kernel_rfl))).ok m _ _ hm
  have t0 : RT W noE noS noO [0, 0] (V.str a0) _ := rt_of_cells e0 ⟨(fun h => by cases h), (fun ⟨_, h⟩ => by cases h)⟩ (fun _ => rfl) (fun _ h => by cases h)
  have lt1 : ∀ x ∈ p1, x.block < W.heap.size := by obtain ⟨m, hm⟩ := h1; exact DataW.trod_lt m _ _ _ hm
  obtain ⟨c1, rfl, _⟩ := okWide_arr Tryd.underlying56 (hval 1 56 v1 rfl rfl)
  obtain ⟨a1, w1, e1⟩ := h1.elim fun m hm => (opens_56).ok m _ _ hm
  have t1 : RT W noE noS noO [0, 1] (eInt a1) _ := rt_of_cells e1 ⟨fun _ => ⟨_, rfl⟩, fun _ => rfl⟩ (fun h => by cases h) (fun _ h => by cases h)
  clear hA0 hval0
  obtain ⟨k, hk⟩ := law_law01_OctetDigits a0 a1 w0 w1
  have hev := (law01_OctetDigits_ok k a0 a1).trans (by rw [hk]; rfl : _ = some (V.bool true, []))
  obtain ⟨m, hm⟩ := Tryd.laysM155.s1_3 W hsh
  obtain ⟨gc, ge, gf, gh, gk⟩ := glob_of_cell hm
  obtain ⟨te, tf, th⟩ := tab_of_laid (t := 121) (e := 97) (n := 20) (k := .u64) (zs := Go.Lib.pow10Tab) Tryd.laysM171.m17 (by kernel_rfl) Tryd.underlying121 Tryd.underlying97 (by kernel_rfl) (by kernel_rfl) (by rw [← show Rows.laid_internal_strconv_uint64pow10 (H := Unit) = Go.Lib.tabData .u64 Go.Lib.pow10Tab from by kernel_rfl]; exact .tail _ (.tail _ (.head _))) hld
  refine (row_calls (hm := mixed) (ext_ok (G := twoGlob 0 gc (Tryd.laysM171_ren.g 17) (Go.Lib.pow10Tab.map fun z => Value.int .u64 z).toArray) ⟨gc, rfl, gk⟩ rfl) hev (twoGlob_ok gh th) rfl (fun i h h' => ?_)).mono fun e W' ⟨he, bel⟩ => ?_
  · match i, h with
    | 0, _ => exact t0
    | 1, _ => exact t1
  · subst he
    exact ⟨_, rfl, _, _, _, [], _, [], hW', trodAll_mk1 (shut_bool Tryd.underlying4 _), (trodAll_cons_mk (Below.trod laidOut (by kernel_rfl) (of_decide_eq_true (by kernel_rfl)) h0 bel lt0) (trodAll_cons_mk (Below.trod laidOut (by kernel_rfl) (of_decide_eq_true (by kernel_rfl)) h1 bel lt1) trodAll_mk0)), rfl, bel.frame _, fun h => by cases h⟩
theorem octetDigits_lifted (os : Os) (started : os.Started) (H : Type) (enc : TypeId × Value → H) :
    ReturnsInHanded {} Tryd.checked os 9 .any (fun w args => (Rows.octetDigitsSpec.pre enc Tryd.prog Tryd.f9 [] false w args ∧ laidMetH Tryd.prog Rows.octetDigitsRow.laid w) ∧ sizedMet enc Tryd.prog Tryd.f9 (OpenSpec.ofChange Rows.octetDigitsSpec) false w args) (Rows.octetDigitsSpec.post enc Tryd.prog Tryd.f9 false true false false) := by
  refine returnsInHanded_of_calls own started (by kernel_rfl)
    (ChangeSpec.witness_shaped (enc := enc) (C := Tryd.checked) (os := os) (X := fun w _ => laidMetH Tryd.prog Rows.octetDigitsRow.laid w) false (World.laidAll Tryd.prog os Rows.octetDigitsRow.laid) #[.string ByteArray.empty, .agg #[.int .i64 0, .int .i64 0, .int .i64 0]] 8 (World.laidAll_os _ _ _)
      (World.shaped_of_ZipB (by kernel_rfl) (by kernel_rfl)) (by kernel_rfl) (by kernel_rfl) (by kernel_rfl)
      (by rw [MakeChecks.laidMetH_plain _ _ _ (by kernel_rfl)]; exact laidMet_laidAll _ (by kernel_rfl) (by kernel_rfl))) ?_
  intro w tape i _ hsh _ hok hpre _
  obtain ⟨_, _, _, fn', hfn', _, _, _, _, hval⟩ := hok
  obtain rfl : fn' = Tryd.f9 := Option.some.inj (hfn'.symm.trans Tryd.func9)
  obtain ⟨⟨⟨ds, gs, before, hw, _⟩, hlaid⟩, _⟩ := hpre
  refine (octetDigits_calls (w.forCall tape i) w.heap.size i.args ds gs before hval (DataW.Whole.of_heap (by rfl) hw) hsh (by have h := hlaid; rw [MakeChecks.laidMetH_plain _ _ _ (by kernel_rfl)] at h; exact laidMet.of_heap (by rfl) h)).mono fun e W' ⟨v, he, hp⟩ => ?_
  subst he
  exact ChangeSpec.post_blind hp
theorem octetDigits_over : Rows.octetDigitsRow.holds Tryd.pinned (OpenSpec.ofChange Rows.octetDigitsSpec) :=
  OpenClaim.holds_of_wide 9 Tryd.f9 rfl rfl rfl rfl rfl rfl rfl ⟨rfl, rfl, rfl, rfl, rfl⟩ rfl rfl rfl rfl rfl (by kernel_rfl) Tryd.func9 (by kernel_rfl)
    (of_decide_eq_true (by kernel_rfl)) (by unfold Func.isWrapper; first | (rw [if_pos (by decide +kernel)]; kernel_rfl) | (rw [if_neg (by decide +kernel)]; exact ⟨rfl, rfl⟩))
    (fun os started H enc _ => octetDigits_lifted os started H enc)
theorem octetDigits_holds : Rows.OctetDigitsCardSaid :=
  Claim7.holds_tied_plain_at .later [] [.data, .data, .data, .data, .pinned] true (true, "8d5e7db44124402822449b0c44f1dba19f7a7f079f4be68bdf55145ff6a805a6") false octetDigits_over (fun _ h => by cases h) (by kernel_rfl) (fun _ h => by cases h) octetDigits_row_tie rfl ⟨rfl, rfl⟩ (by kernel_rfl) rfl
    (fun f fn hf hfn => by
      obtain rfl : f = 9 := Option.some.inj ((show Tryd.prog.funcNamed "progeny/progenylaw01.OctetDigits" = some 9 by kernel_rfl).symm.trans hf) |>.symm
      obtain rfl : fn = Tryd.f9 := (Option.some.inj (Tryd.func9.symm.trans hfn)).symm
      exact ⟨by kernel_rfl, fun j t ht => by
        rw [Tryd.params9] at ht
        have hm : t ∈ [9, 56] := by simpa using Array.mem_of_getElem? ht
        have hall : ([9, 56].all fun u => !Tryd.prog.wantsStandIn u) = true := by kernel_rfl
        exact (show Tryd.prog.wantsStandIn t = false by simpa using List.all_eq_true.1 hall t hm)⟩)
    (by kernel_rfl)
end Go.Proofs.YteecoopnleidaaaDoor
