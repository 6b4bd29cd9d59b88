/- The program, function by function: the evaluator comes to the typed functions. Conditions: none. -/
import Derived.Test.YtkkoiekbnkpcoaaA3
import Derived.KernelRfl
import Derived.Test.YtkkoiekbnkpcoaaProg
import Derived.Test.YtkkoiekbnkpcoaaB1
import Derived.Test.YtkkoiekbnkpcoaaE2
namespace Go.AE
open Go.Proofs.Try Go.Sh
set_option linter.unusedSimpArgs false
set_option linter.unusedVariables false
set_option maxRecDepth 100000
set_option maxHeartbeats 4000000
noncomputable section
theorem ref24_Take_L1_ok (k : Nat) (a0 : T_api_Form) (a1 : (List Str))  (K0 : Int → (List Str) → Option ((List Str) × Int)) (Kst : X × St → Option (V × List V)) (hK0 : ∀ (y0 : Int) (y1 : (List Str)), Kst (X.exit 1, ⟨[(1, (V.sl 0 1 (List.map V.str a1))), (2, (V.ptr 2 0 0)), (8, (V.aref 27 0 (List.map V.str y1).length)), (9, (I y0)), (27, (V.aref 27 0 (List.map V.str y1).length)), (32, (V.bool false))], [(2, ⟨false, 4, [(enc_T_api_Form a0)]⟩), (27, ⟨true, 1, List.map V.str y1⟩)], 80⟩) = (K0 y0 y1).map ref24_Take_fin) (hret : ∀ s, Kst (X.ret, s) = endK prog 80 [(enc_T_api_Form a0), (V.sl 0 1 (List.map V.str a1))] [] [.tmp 4, .tmp 5] (X.ret, s)) :
    ∀ (m : Nat) (x27 : Int) (x28 : (List Str)), (iter (exec prog (EV k) f15n k f15b1) m ⟨[(1, (V.sl 0 1 (List.map V.str a1))), (2, (V.ptr 2 0 0)), (8, (V.aref 27 0 (List.map V.str x28).length)), (9, (I x27)), (27, (V.aref 27 0 (List.map V.str x28).length))], [(2, ⟨false, 4, [(enc_T_api_Form a0)]⟩), (27, ⟨true, 1, List.map V.str x28⟩)], 80⟩).bind Kst = (ref24_Take_L1 k a0 a1 K0 m x27 x28).map ref24_Take_fin := by
  intro m
  induction m with
  | zero => intros; rfl
  | succ m ih =>
    intro x27 x28
    unfold ref24_Take_L1
    refine Eq.trans k_round ?_
    refine Eq.trans k_assoc ?_
    refine Eq.trans (k_region0 rfl (f15r8 k a0 a1 x27 x28)) ?_
    refine Eq.trans (k_cond (t := (decide (x27 < (a0.fFields.length : Int)))) rfl rfl) ?_
    refine bifE2 (fun hc => ?_) fun hc => ?_
    · rw [hc]
      refine Eq.trans k_skip ?_
      refine Eq.trans (k_block rfl) ?_
      refine Eq.trans (k_region rfl (f15r10 k a0 a1 x27 x28)) ?_
      refine bindE (fun o30 => ?_)
      refine Eq.trans k_assoc ?_
      refine Eq.trans (k_region0 rfl (f15r11 k a0 a1 x27 x28 o30)) ?_
      refine Eq.trans (k_cond (t := (decide (o30.fIn < 0))) rfl rfl) ?_
      refine bifE2 (fun hc => ?_) fun hc => ?_
      · rw [hc]
        refine Eq.trans k_exit ?_
        refine Eq.trans blk_exit ?_
        refine Eq.trans (k_lregion0 rfl (f15r9 k a0 a1 x27 x28 o30)) ?_
        refine Eq.trans loop_normal ?_
        exact ih (Go.IntKind.wrap .i64 (x27 + 1)) x28
      · rw [hc]
        refine Eq.trans k_skip ?_
        refine Eq.trans (k_region rfl (f15r12 k a0 a1 x27 x28 o30)) ?_
        refine bindE (fun o33 => ?_)
        refine Eq.trans (k_block rfl) ?_
        refine Eq.trans k_loop ?_
        refine ref24_Take_L2_ok k a0 a1 x27 x28 o30 _ _ ?h_ref24_Take_L2_0 ?hr_ref24_Take_L2 k o33
        · intro y43
          refine Eq.trans blk_exit ?_
          refine Eq.trans (k_lregion rfl (f15r15 k a0 a1 x27 x28 o30 y43)) ?_
          refine bindE (fun o46 => ?_)
          refine Eq.trans blk_normal ?_
          refine Eq.trans (k_lregion0 rfl (ref24_Take_r9' k a0 a1 x27 o46)) ?_
          refine Eq.trans loop_normal ?_
          exact ih (Go.IntKind.wrap .i64 (x27 + 1)) o46
        · intro s; exact hret s
    · rw [hc]
      refine Eq.trans k_exit ?_
      refine Eq.trans loop_exit ?_
      exact hK0 x27 x28
theorem f15r16 (k : Nat) (a0 : T_api_Form) (a1 : (List Str)) (y47 : Int) (y48 : (List Str)) : RE k f15a16 f15o16 false ⟨[(1, (V.sl 0 1 (List.map V.str a1))), (2, (V.ptr 2 0 0)), (8, (V.aref 27 0 (List.map V.str y48).length)), (9, (I y47)), (27, (V.aref 27 0 (List.map V.str y48).length)), (32, (V.bool false))], [(2, ⟨false, 4, [(enc_T_api_Form a0)]⟩), (27, ⟨true, 1, List.map V.str y48⟩)], 80⟩ = some ⟨[(4, (V.sl 0 1 (List.map V.str y48))), (5, (I 0))], [], 80⟩ := by
  refine rg ?_
  refine ra 1 1 ⟨[(1, (V.sl 0 1 (List.map V.str a1))), (2, (V.ptr 2 0 0)), (8, (V.aref 27 0 (List.map V.str y48).length)), (9, (I y47)), (27, (V.aref 27 0 (List.map V.str y48).length)), (32, (V.bool false)), (79, (V.aref 27 0 (List.map V.str y48).length))], [(2, ⟨false, 4, [(enc_T_api_Form a0)]⟩), (27, ⟨true, 1, List.map V.str y48⟩)], 80⟩ rfl rfl rfl ?_
  refine Eq.trans (reg_eff (x := some ()) (w := fun _ => ((V.sl 2 1 (List.map V.str y48)), _)) rfl rfl rfl rfl (p_close (e := V.str) rfl rfl rfl rfl rfl (of_decide_eq_true rfl))) ?_
  refine Eq.trans some_bind ?_
  exact bind_end rfl
theorem ref24_Take_ok (k : Nat) (a0 : T_api_Form) (a1 : (List Str)) : EV k 15 [(enc_T_api_Form a0), (V.sl 0 1 (List.map V.str a1))] = (ref24_Take k a0 a1).map ref24_Take_fin := by
  cases k with
  | zero => rfl
  | succ k =>
    unfold ref24_Take
    refine Eq.trans (evF_succ (c := f15c) (N := 80) (regs := f15n) rfl Go.Proofs.Try.func15 rfl (by decide) rfl rfl rfl) ?_
    refine Eq.trans (k_region0 rfl (f15r0 k a0 a1)) ?_
    refine Eq.trans (k_block rfl) ?_
    refine Eq.trans (k_region rfl (f15r1 k a0 a1)) ?_
    refine bindE (fun o2 => ?_)
    refine Eq.trans (k_lcond (t := o2) rfl rfl) ?_
    refine bifE2 (fun hc => ?_) fun hc => ?_
    · rw [hc]
      refine Eq.trans (k_region0 rfl (f15r2 k a0 a1)) ?_
      refine Eq.trans k_lret ?_
      refine Eq.trans blk_ret ?_
      rfl
    · rw [hc]
      refine Eq.trans (k_region rfl (f15r3 k a0 a1)) ?_
      refine bindE (fun o4 => ?_)
      refine Eq.trans (k_lcond (t := o4) rfl rfl) ?_
      refine bifE2 (fun hc => ?_) fun hc => ?_
      · rw [hc]
        refine Eq.trans (k_region0 rfl (f15r4 k a0 a1)) ?_
        refine Eq.trans k_lret ?_
        refine Eq.trans blk_ret ?_
        rfl
      · rw [hc]
        refine Eq.trans k_lskip ?_
        refine Eq.trans blk_normal ?_
        refine Eq.trans (k_region rfl (f15r5 k a0 a1)) ?_
        refine bindE (fun o6 => ?_)
        refine Eq.trans (k_region rfl (f15r6 k a0 a1 o6)) ?_
        refine bindE (fun o8 => ?_)
        refine Eq.trans k_assoc ?_
        refine Eq.trans (k_region0 rfl (f15r7 k a0 a1 o8)) ?_
        refine Eq.trans (k_block rfl) ?_
        refine Eq.trans k_loop ?_
        refine ref24_Take_L1_ok k a0 a1 _ _ ?h_ref24_Take_L1_0 ?hr_ref24_Take_L1 k 0 o8
        · intro y47 y48
          refine Eq.trans blk_exit ?_
          refine Eq.trans (k_region0 rfl (f15r16 k a0 a1 y47 y48)) ?_
          refine Eq.trans k_lret ?_
          rfl
        · intro s; exact rfl
def slices_Equal_string_fin : Bool → V × List V := fun r => ((V.bool r), [])
theorem f44r0 (k : Nat) (a0 : (List Str)) (a1 : (List Str)) : RE k f44a0 f44o0 false ⟨[(0, (V.sl 0 1 (List.map V.str a0))), (1, (V.sl 0 1 (List.map V.str a1)))], [], 26⟩ = some ⟨[(0, (V.sl 0 1 (List.map V.str a0))), (1, (V.sl 0 1 (List.map V.str a1)))], [], 26⟩ :=
  rE rfl
theorem f44r1 (k : Nat) (a0 : (List Str)) (a1 : (List Str)) : RE k f44a1 f44o1 false ⟨[(0, (V.sl 0 1 (List.map V.str a0))), (1, (V.sl 0 1 (List.map V.str a1)))], [], 26⟩ = some ⟨[(0, (V.sl 0 1 (List.map V.str a0))), (1, (V.sl 0 1 (List.map V.str a1))), (10, (V.bool ((a0.length : Int) != (a1.length : Int))))], [], 26⟩ := by
  refine rg ?_
  refine ra 1 1 ⟨[(0, (V.sl 0 1 (List.map V.str a0))), (1, (V.sl 0 1 (List.map V.str a1))), (6, (V.sl 0 1 (List.map V.str a0)))], [], 26⟩ rfl rfl rfl ?_
  refine Eq.trans (reg_pure (x := some ()) (w := fun _ => (I (a0.length : Int))) rfl rfl rfl rfl (p_len (e := V.str) rfl rfl rfl rfl rfl rfl Go.Proofs.Try.underlying26)) ?_
  refine Eq.trans some_bind ?_
  refine ba 1 3 ⟨[(0, (V.sl 0 1 (List.map V.str a0))), (1, (V.sl 0 1 (List.map V.str a1))), (6, (V.sl 0 1 (List.map V.str a0))), (7, (I (a0.length : Int))), (8, (V.sl 0 1 (List.map V.str a1)))], [], 26⟩ rfl rfl rfl ?_
  refine Eq.trans (reg_pure (x := some ()) (w := fun _ => (I (a1.length : Int))) rfl rfl rfl rfl (p_len (e := V.str) rfl rfl rfl rfl rfl rfl Go.Proofs.Try.underlying26)) ?_
  refine Eq.trans some_bind ?_
  exact bind_end rfl
theorem f44r2 (k : Nat) (a0 : (List Str)) (a1 : (List Str)) : RE k f44a2 f44o2 false ⟨[(0, (V.sl 0 1 (List.map V.str a0))), (1, (V.sl 0 1 (List.map V.str a1))), (10, (V.bool true))], [], 26⟩ = some ⟨[(4, (V.bool false))], [], 26⟩ :=
  rE rfl
theorem f44r3 (k : Nat) (a0 : (List Str)) (a1 : (List Str)) : RE k f44a3 f44o3 false ⟨[(0, (V.sl 0 1 (List.map V.str a0))), (1, (V.sl 0 1 (List.map V.str a1))), (10, (V.bool false))], [], 26⟩ = some ⟨[(0, (V.sl 0 1 (List.map V.str a0))), (1, (V.sl 0 1 (List.map V.str a1))), (12, (I (a0.length : Int))), (13, (I 0))], [], 26⟩ := by
  refine rg ?_
  refine ra 1 1 ⟨[(0, (V.sl 0 1 (List.map V.str a0))), (1, (V.sl 0 1 (List.map V.str a1))), (10, (V.bool false)), (11, (V.sl 0 1 (List.map V.str a0)))], [], 26⟩ rfl rfl rfl ?_
  refine Eq.trans (reg_pure (x := some ()) (w := fun _ => (I (a0.length : Int))) rfl rfl rfl rfl (p_len (e := V.str) rfl rfl rfl rfl rfl rfl Go.Proofs.Try.underlying26)) ?_
  refine Eq.trans some_bind ?_
  exact bind_end rfl
theorem f44r4 (k : Nat) (a0 : (List Str)) (a1 : (List Str)) (x4 : Int) : RE k f44a4 f44o4 false ⟨[(0, (V.sl 0 1 (List.map V.str a0))), (1, (V.sl 0 1 (List.map V.str a1))), (12, (I (a0.length : Int))), (13, (I x4))], [], 26⟩ = some ⟨[(0, (V.sl 0 1 (List.map V.str a0))), (1, (V.sl 0 1 (List.map V.str a1))), (12, (I (a0.length : Int))), (13, (I x4)), (14, (V.bool (decide (x4 < (a0.length : Int)))))], [], 26⟩ :=
  rE rfl
theorem f44r5 (k : Nat) (a0 : (List Str)) (a1 : (List Str)) (x4 : Int) : RE k f44a5 f44o5 false ⟨[(0, (V.sl 0 1 (List.map V.str a0))), (1, (V.sl 0 1 (List.map V.str a1))), (12, (I (a0.length : Int))), (13, (I x4)), (14, (V.bool true))], [], 26⟩ = some ⟨[(0, (V.sl 0 1 (List.map V.str a0))), (1, (V.sl 0 1 (List.map V.str a1))), (5, (I x4)), (12, (I (a0.length : Int))), (13, (I x4))], [], 26⟩ :=
  rE rfl
theorem f44r6 (k : Nat) (a0 : (List Str)) (a1 : (List Str)) (x4 : Int) : RE k f44a6 f44o6 true ⟨[(0, (V.sl 0 1 (List.map V.str a0))), (1, (V.sl 0 1 (List.map V.str a1))), (5, (I x4)), (12, (I (a0.length : Int))), (13, (I x4))], [], 26⟩ = (((idx a0 x4).bind fun v5 => ((idx a1 x4).bind fun v6 => (some ((!(v5 == v6))))))).map (fun (o : Bool) => (⟨[(0, (V.sl 0 1 (List.map V.str a0))), (1, (V.sl 0 1 (List.map V.str a1))), (12, (I (a0.length : Int))), (13, (I x4)), (24, (V.bool o))], [], 26⟩ : St)) := by
  refine Eq.trans (regionE_regp (p := 9) (dk := true) (t := [(0, (V.sl 0 1 (List.map V.str a0))), (1, (V.sl 0 1 (List.map V.str a1))), (5, (I x4)), (12, (I (a0.length : Int))), (13, (I x4))]) (σ := []) (n := 26) (by decide) (by decide) rfl) ?_
  refine Eq.trans (regp_adv (m := 2) (j := 2) (t' := [(0, (V.sl 0 1 (List.map V.str a0))), (1, (V.sl 0 1 (List.map V.str a1))), (5, (I x4)), (12, (I (a0.length : Int))), (13, (I x4)), (16, (V.sl 0 1 (List.map V.str a0))), (17, (I x4))]) rfl rfl rfl) ?_
  refine Eq.trans (regp_pure (x := (idx a0 x4)) (w := fun v5 => (V.pro (V.str v5))) rfl rfl rfl rfl rfl (p_index (e := V.str) rfl rfl rfl Go.Proofs.Try.underlying26 rfl (by decide))) ?_
  refine bindE (fun v5 => ?_)
  refine Eq.trans (putp_adv (m := 3) (j := 6) (t' := [(0, (V.sl 0 1 (List.map V.str a0))), (1, (V.sl 0 1 (List.map V.str a1))), (5, (I x4)), (12, (I (a0.length : Int))), (13, (I x4)), (16, (V.sl 0 1 (List.map V.str a0))), (17, (I x4)), (18, (V.pro (V.str v5))), (19, (V.str v5)), (20, (V.sl 0 1 (List.map V.str a1))), (21, (I x4))]) rfl rfl rfl) ?_
  refine Eq.trans (regp_pure (x := (idx a1 x4)) (w := fun v6 => (V.pro (V.str v6))) rfl rfl rfl rfl rfl (p_index (e := V.str) rfl rfl rfl Go.Proofs.Try.underlying26 rfl (by decide))) ?_
  refine bindE (fun v6 => ?_)
  exact regp_end rfl
theorem f44r7 (k : Nat) (a0 : (List Str)) (a1 : (List Str)) (x4 : Int) : RE k f44a7 f44o7 false ⟨[(0, (V.sl 0 1 (List.map V.str a0))), (1, (V.sl 0 1 (List.map V.str a1))), (12, (I (a0.length : Int))), (13, (I x4)), (24, (V.bool true))], [], 26⟩ = some ⟨[(4, (V.bool false))], [], 26⟩ :=
  rE rfl
theorem f44r8 (k : Nat) (a0 : (List Str)) (a1 : (List Str)) (x4 : Int) : RE k f44a8 f44o8 false ⟨[(0, (V.sl 0 1 (List.map V.str a0))), (1, (V.sl 0 1 (List.map V.str a1))), (12, (I (a0.length : Int))), (13, (I x4)), (24, (V.bool false))], [], 26⟩ = some ⟨[(0, (V.sl 0 1 (List.map V.str a0))), (1, (V.sl 0 1 (List.map V.str a1))), (12, (I (a0.length : Int))), (13, (I (Go.IntKind.wrap .i64 (x4 + 1))))], [], 26⟩ :=
  rE rfl
theorem slices_Equal_string_L1_ok (k : Nat) (a0 : (List Str)) (a1 : (List Str))  (K0 : Int → Option Bool) (Kst : X × St → Option (V × List V)) (hK0 : ∀ (y0 : Int), Kst (X.exit 0, ⟨[(0, (V.sl 0 1 (List.map V.str a0))), (1, (V.sl 0 1 (List.map V.str a1))), (12, (I (a0.length : Int))), (13, (I y0)), (14, (V.bool false))], [], 26⟩) = (K0 y0).map slices_Equal_string_fin) (hret : ∀ s, Kst (X.ret, s) = endK prog 26 [(V.sl 0 1 (List.map V.str a0)), (V.sl 0 1 (List.map V.str a1))] [] [.tmp 4] (X.ret, s)) :
    ∀ (m : Nat) (x4 : Int), (iter (exec prog (EV k) f44n k f44b0) m ⟨[(0, (V.sl 0 1 (List.map V.str a0))), (1, (V.sl 0 1 (List.map V.str a1))), (12, (I (a0.length : Int))), (13, (I x4))], [], 26⟩).bind Kst = (slices_Equal_string_L1 a0 a1 K0 m x4).map slices_Equal_string_fin := by
  intro m
  induction m with
  | zero => intros; rfl
  | succ m ih =>
    intro x4
    unfold slices_Equal_string_L1
    refine Eq.trans k_round ?_
    refine Eq.trans (k_region0 rfl (f44r4 k a0 a1 x4)) ?_
    refine Eq.trans (k_cond (t := (decide (x4 < (a0.length : Int)))) rfl rfl) ?_
    refine bifE2 (fun hc => ?_) fun hc => ?_
    · rw [hc]
      refine Eq.trans k_skip ?_
      refine Eq.trans (k_block rfl) ?_
      refine Eq.trans (k_region0 rfl (f44r5 k a0 a1 x4)) ?_
      refine Eq.trans (k_region rfl (f44r6 k a0 a1 x4)) ?_
      refine bindE (fun o7 => ?_)
      refine Eq.trans (k_lcond (t := o7) rfl rfl) ?_
      refine bifE2 (fun hc => ?_) fun hc => ?_
      · rw [hc]
        refine Eq.trans (k_region0 rfl (f44r7 k a0 a1 x4)) ?_
        refine Eq.trans k_lret ?_
        refine Eq.trans blk_ret ?_
        refine Eq.trans loop_ret ?_
        refine Eq.trans (hret _) ?_
        rfl
      · rw [hc]
        refine Eq.trans k_lskip ?_
        refine Eq.trans blk_normal ?_
        refine Eq.trans (k_lregion0 rfl (f44r8 k a0 a1 x4)) ?_
        refine Eq.trans loop_normal ?_
        exact ih (Go.IntKind.wrap .i64 (x4 + 1))
    · rw [hc]
      refine Eq.trans k_exit ?_
      refine Eq.trans loop_exit ?_
      exact hK0 x4
theorem f44r9 (k : Nat) (a0 : (List Str)) (a1 : (List Str)) (y8 : Int) : RE k f44a9 f44o9 false ⟨[(0, (V.sl 0 1 (List.map V.str a0))), (1, (V.sl 0 1 (List.map V.str a1))), (12, (I (a0.length : Int))), (13, (I y8)), (14, (V.bool false))], [], 26⟩ = some ⟨[(4, (V.bool true))], [], 26⟩ :=
  rE rfl
theorem slices_Equal_string_ok (k : Nat) (a0 : (List Str)) (a1 : (List Str)) : EV k 44 [(V.sl 0 1 (List.map V.str a0)), (V.sl 0 1 (List.map V.str a1))] = (slices_Equal_string k a0 a1).map slices_Equal_string_fin := by
  cases k with
  | zero => rfl
  | succ k =>
    unfold slices_Equal_string
    refine Eq.trans (evF_succ (c := f44c) (N := 26) (regs := f44n) rfl Go.Proofs.Try.func44 rfl (by decide) rfl rfl rfl) ?_
    refine Eq.trans (k_region0 rfl (f44r0 k a0 a1)) ?_
    refine Eq.trans k_assoc ?_
    refine Eq.trans (k_region0 rfl (f44r1 k a0 a1)) ?_
    refine Eq.trans (k_cond (t := ((a0.length : Int) != (a1.length : Int))) rfl rfl) ?_
    refine bifE2 (fun hc => ?_) fun hc => ?_
    · rw [hc]
      refine Eq.trans k_assoc ?_
      refine Eq.trans (k_region0 rfl (f44r2 k a0 a1)) ?_
      refine Eq.trans k_ret ?_
      rfl
    · rw [hc]
      refine Eq.trans k_skip ?_
      refine Eq.trans k_assoc ?_
      refine Eq.trans (k_region0 rfl (f44r3 k a0 a1)) ?_
      refine Eq.trans (k_block rfl) ?_
      refine Eq.trans k_loop ?_
      refine slices_Equal_string_L1_ok k a0 a1 _ _ ?h_slices_Equal_string_L1_0 ?hr_slices_Equal_string_L1 k 0
      · intro y8
        refine Eq.trans blk_exit ?_
        refine Eq.trans (k_region0 rfl (f44r9 k a0 a1 y8)) ?_
        refine Eq.trans k_lret ?_
        rfl
      · intro s; exact rfl
def screen_IsPicture_fin : (Bool × Int) → V × List V := fun r => (.tup [(V.bool r.1), (I r.2)], [])
theorem f16r0 (k : Nat) (a0 : T_api_Form) (a1 : (List Str)) : RE k f16a0 f16o0 false ⟨[(0, (enc_T_api_Form a0)), (1, (V.sl 0 1 (List.map V.str a1)))], [], 57⟩ = some ⟨[(1, (V.sl 0 1 (List.map V.str a1))), (2, (V.ptr 2 0 0))], [(2, ⟨false, 4, [(enc_T_api_Form a0)]⟩)], 57⟩ :=
  rE rfl
theorem f16r1 (k : Nat) (a0 : T_api_Form) (a1 : (List Str)) : RE k f16a1 f16o1 false ⟨[(1, (V.sl 0 1 (List.map V.str a1))), (2, (V.ptr 2 0 0))], [(2, ⟨false, 4, [(enc_T_api_Form a0)]⟩)], 57⟩ = (((screen_Valid k a0).bind fun v1 => (some ((!v1))))).map (fun (o : Bool) => (⟨[(1, (V.sl 0 1 (List.map V.str a1))), (2, (V.ptr 2 0 0)), (13, (V.bool o))], [(2, ⟨false, 4, [(enc_T_api_Form a0)]⟩)], 57⟩ : St)) := by
  refine rg ?_
  refine ra 1 1 ⟨[(1, (V.sl 0 1 (List.map V.str a1))), (2, (V.ptr 2 0 0)), (11, (enc_T_api_Form a0))], [(2, ⟨false, 4, [(enc_T_api_Form a0)]⟩)], 57⟩ rfl rfl rfl ?_
  refine Eq.trans (reg_pure (x := (screen_Valid k a0)) (w := fun v1 => (V.bool v1)) rfl rfl rfl rfl (p_call rfl rfl rfl rfl rfl (screen_Valid_ok k a0) (.inl rfl))) ?_
  refine bindE (fun v1 => ?_)
  exact bind_end rfl
theorem f16r2 (k : Nat) (a0 : T_api_Form) (a1 : (List Str)) : RE k f16a2 f16o2 false ⟨[(1, (V.sl 0 1 (List.map V.str a1))), (2, (V.ptr 2 0 0)), (13, (V.bool true))], [(2, ⟨false, 4, [(enc_T_api_Form a0)]⟩)], 57⟩ = some ⟨[(4, (V.bool false)), (5, (I 220))], [], 57⟩ :=
  rE rfl
theorem f16r3 (k : Nat) (a0 : T_api_Form) (a1 : (List Str)) : RE k f16a3 f16o3 false ⟨[(1, (V.sl 0 1 (List.map V.str a1))), (2, (V.ptr 2 0 0)), (13, (V.bool false))], [(2, ⟨false, 4, [(enc_T_api_Form a0)]⟩)], 57⟩ = (((screen_fits k a0 a1).bind fun v3 => (some ((!v3))))).map (fun (o : Bool) => (⟨[(1, (V.sl 0 1 (List.map V.str a1))), (2, (V.ptr 2 0 0)), (17, (V.bool o))], [(2, ⟨false, 4, [(enc_T_api_Form a0)]⟩)], 57⟩ : St)) := by
  refine rg ?_
  refine ra 2 2 ⟨[(1, (V.sl 0 1 (List.map V.str a1))), (2, (V.ptr 2 0 0)), (13, (V.bool false)), (14, (enc_T_api_Form a0)), (15, (V.sl 0 1 (List.map V.str a1)))], [(2, ⟨false, 4, [(enc_T_api_Form a0)]⟩)], 57⟩ rfl rfl rfl ?_
  refine Eq.trans (reg_pure (x := (screen_fits k a0 a1)) (w := fun v3 => (V.bool v3)) rfl rfl rfl rfl (p_call rfl rfl rfl rfl rfl (screen_fits_ok k a0 a1) (.inl rfl))) ?_
  refine bindE (fun v3 => ?_)
  exact bind_end rfl
theorem f16r4 (k : Nat) (a0 : T_api_Form) (a1 : (List Str)) : RE k f16a4 f16o4 false ⟨[(1, (V.sl 0 1 (List.map V.str a1))), (2, (V.ptr 2 0 0)), (17, (V.bool true))], [(2, ⟨false, 4, [(enc_T_api_Form a0)]⟩)], 57⟩ = some ⟨[(4, (V.bool false)), (5, (I 0))], [], 57⟩ :=
  rE rfl
theorem f16r5 (k : Nat) (a0 : T_api_Form) (a1 : (List Str)) : RE k f16a5 f16o5 false ⟨[(1, (V.sl 0 1 (List.map V.str a1))), (2, (V.ptr 2 0 0)), (17, (V.bool false))], [(2, ⟨false, 4, [(enc_T_api_Form a0)]⟩)], 57⟩ = (((screen_lengths k a0).bind fun v5 => (some (v5.2)))).map (fun (o : Int) => (⟨[(1, (V.sl 0 1 (List.map V.str a1))), (2, (V.ptr 2 0 0)), (7, (I o))], [(2, ⟨false, 4, [(enc_T_api_Form a0)]⟩)], 57⟩ : St)) := by
  refine rg ?_
  refine ra 1 1 ⟨[(1, (V.sl 0 1 (List.map V.str a1))), (2, (V.ptr 2 0 0)), (17, (V.bool false)), (19, (enc_T_api_Form a0))], [(2, ⟨false, 4, [(enc_T_api_Form a0)]⟩)], 57⟩ rfl rfl rfl ?_
  refine Eq.trans (reg_pure (x := (screen_lengths k a0)) (w := fun v5 => (V.tup [(I v5.1), (I v5.2)])) rfl rfl rfl rfl (p_call rfl rfl rfl rfl rfl (screen_lengths_ok k a0) (.inl rfl))) ?_
  refine bindE (fun v5 => ?_)
  exact bind_end rfl
theorem f16r6 (k : Nat) (a0 : T_api_Form) (a1 : (List Str)) (o6 : Int) : RE k f16a6 f16o6 true ⟨[(1, (V.sl 0 1 (List.map V.str a1))), (2, (V.ptr 2 0 0)), (7, (I o6))], [(2, ⟨false, 4, [(enc_T_api_Form a0)]⟩)], 57⟩ = (((mkN [] o6).bind fun v7 => (screen_show k a0 v7))).map (fun (o : (List Str)) => (⟨[(1, (V.sl 0 1 (List.map V.str a1))), (2, (V.ptr 2 0 0)), (8, (V.sl 0 1 (List.map V.str o)))], [(2, ⟨false, 4, [(enc_T_api_Form a0)]⟩)], 57⟩ : St)) := by
  refine Eq.trans (regionE_regp (p := 5) (dk := true) (t := [(1, (V.sl 0 1 (List.map V.str a1))), (2, (V.ptr 2 0 0)), (7, (I o6))]) (σ := [(2, ⟨false, 4, [(enc_T_api_Form a0)]⟩)]) (n := 57) (by decide) (by decide) rfl) ?_
  refine Eq.trans (regp_adv (m := 2) (j := 2) (t' := [(1, (V.sl 0 1 (List.map V.str a1))), (2, (V.ptr 2 0 0)), (7, (I o6)), (23, (enc_T_api_Form a0)), (24, (I o6))]) rfl rfl rfl) ?_
  refine Eq.trans (regp_pure (x := (mkN [] o6)) (w := fun v7 => (V.sl 2 1 (List.map V.str v7))) rfl rfl rfl rfl rfl (p_make (e := V.str) (z := []) rfl rfl rfl Go.Proofs.Try.underlying26 (of_decide_eq_true rfl) rfl rfl rfl rfl)) ?_
  refine bindE (fun v7 => ?_)
  refine Eq.trans (putp_adv (m := 0) (j := 3) (t' := [(1, (V.sl 0 1 (List.map V.str a1))), (2, (V.ptr 2 0 0)), (7, (I o6)), (23, (enc_T_api_Form a0)), (24, (I o6)), (25, (V.sl 0 1 (List.map V.str v7)))]) rfl rfl rfl) ?_
  refine Eq.trans (regp_pure (x := (screen_show k a0 v7)) (w := fun v8 => (V.sl 0 1 (List.map V.str v8))) rfl rfl rfl rfl rfl (p_call rfl rfl rfl rfl rfl (screen_show_ok k a0 v7) (.inl rfl))) ?_
  refine bind_self (fun v8 => ?_)
  exact regp_end rfl
theorem f16r7 (k : Nat) (a0 : T_api_Form) (a1 : (List Str)) (o9 : (List Str)) : RE k f16a7 f16o7 false ⟨[(1, (V.sl 0 1 (List.map V.str a1))), (2, (V.ptr 2 0 0)), (8, (V.sl 0 1 (List.map V.str o9)))], [(2, ⟨false, 4, [(enc_T_api_Form a0)]⟩)], 57⟩ = some ⟨[(1, (V.sl 0 1 (List.map V.str a1))), (8, (V.sl 0 1 (List.map V.str o9))), (28, (sSlot (a0.fFields))), (29, (I (a0.fFields.length : Int))), (30, (I 0))], [], 57⟩ := by
  refine rg ?_
  refine ra 2 2 ⟨[(1, (V.sl 0 1 (List.map V.str a1))), (2, (V.ptr 2 0 0)), (8, (V.sl 0 1 (List.map V.str o9))), (27, (V.ptr 2 0 3)), (28, (sSlot (a0.fFields)))], [(2, ⟨false, 4, [(enc_T_api_Form a0)]⟩)], 57⟩ rfl rfl rfl ?_
  refine Eq.trans (reg_pure (x := some ()) (w := fun _ => (I (a0.fFields.length : Int))) rfl rfl rfl rfl (p_len (e := enc_T_api_Slot) rfl rfl rfl rfl rfl rfl Go.Proofs.Try.underlying23)) ?_
  refine Eq.trans some_bind ?_
  exact bind_end rfl
theorem f16r8 (k : Nat) (a0 : T_api_Form) (a1 : (List Str)) (x16 : (List Str)) (x17 : Int) : RE k f16a8 f16o8 false ⟨[(1, (V.sl 0 1 (List.map V.str a1))), (8, (V.sl 0 1 (List.map V.str x16))), (28, (sSlot (a0.fFields))), (29, (I (a0.fFields.length : Int))), (30, (I x17))], [], 57⟩ = some ⟨[(1, (V.sl 0 1 (List.map V.str a1))), (8, (V.sl 0 1 (List.map V.str x16))), (28, (sSlot (a0.fFields))), (29, (I (a0.fFields.length : Int))), (30, (I x17)), (31, (V.bool (decide (x17 < (a0.fFields.length : Int)))))], [], 57⟩ :=
  rE rfl
theorem f16r9 (k : Nat) (a0 : T_api_Form) (a1 : (List Str)) (x16 : (List Str)) (x17 : Int) : RE k f16a9 f16o9 false ⟨[(1, (V.sl 0 1 (List.map V.str a1))), (8, (V.sl 0 1 (List.map V.str x16))), (28, (sSlot (a0.fFields))), (29, (I (a0.fFields.length : Int))), (30, (I x17)), (31, (V.bool true))], [], 57⟩ = ((idx a0.fFields x17)).map (fun (o : T_api_Slot) => (⟨[(1, (V.sl 0 1 (List.map V.str a1))), (8, (V.sl 0 1 (List.map V.str x16))), (10, (V.ptr 10 0 0)), (28, (sSlot (a0.fFields))), (29, (I (a0.fFields.length : Int))), (30, (I x17))], [(10, ⟨false, 7, [(enc_T_api_Slot o)]⟩)], 57⟩ : St)) := by
  refine rg ?_
  refine Eq.trans (reg_pure (x := (idx a0.fFields x17)) (w := fun v18 => (V.pro (enc_T_api_Slot v18))) rfl rfl rfl rfl (p_index (e := enc_T_api_Slot) rfl rfl rfl Go.Proofs.Try.underlying23 rfl (by decide))) ?_
  refine bind_self (fun v18 => ?_)
  exact bind_end rfl
theorem f16r10 (k : Nat) (a0 : T_api_Form) (a1 : (List Str)) (x16 : (List Str)) (x17 : Int) (o19 : T_api_Slot) : RE k f16a10 f16o10 true ⟨[(1, (V.sl 0 1 (List.map V.str a1))), (8, (V.sl 0 1 (List.map V.str x16))), (10, (V.ptr 10 0 0)), (28, (sSlot (a0.fFields))), (29, (I (a0.fFields.length : Int))), (30, (I x17))], [(10, ⟨false, 7, [(enc_T_api_Slot o19)]⟩)], 57⟩ = (((idx a1 o19.fRow).bind fun v20 => ((cut v20 o19.fColumn (Go.IntKind.wrap .i64 (o19.fColumn + o19.fBytes))).bind fun v21 => (screen_laid k x16 o19.fRow o19.fColumn v21)))).map (fun (o : (List Str)) => (⟨[(1, (V.sl 0 1 (List.map V.str a1))), (8, (V.sl 0 1 (List.map V.str o))), (28, (sSlot (a0.fFields))), (29, (I (a0.fFields.length : Int))), (30, (I x17))], [], 57⟩ : St)) := by
  refine Eq.trans (regionE_regp (p := 19) (dk := true) (t := [(1, (V.sl 0 1 (List.map V.str a1))), (8, (V.sl 0 1 (List.map V.str x16))), (10, (V.ptr 10 0 0)), (28, (sSlot (a0.fFields))), (29, (I (a0.fFields.length : Int))), (30, (I x17))]) (σ := [(10, ⟨false, 7, [(enc_T_api_Slot o19)]⟩)]) (n := 57) (by decide) (by decide) rfl) ?_
  refine Eq.trans (regp_adv (m := 8) (j := 8) (t' := [(1, (V.sl 0 1 (List.map V.str a1))), (8, (V.sl 0 1 (List.map V.str x16))), (10, (V.ptr 10 0 0)), (28, (sSlot (a0.fFields))), (29, (I (a0.fFields.length : Int))), (30, (I x17)), (34, (V.sl 0 1 (List.map V.str x16))), (35, (V.ptr 10 0 1)), (36, (I o19.fRow)), (37, (V.ptr 10 0 2)), (38, (I o19.fColumn)), (39, (V.sl 0 1 (List.map V.str a1))), (40, (V.ptr 10 0 1)), (41, (I o19.fRow))]) rfl rfl rfl) ?_
  refine Eq.trans (regp_pure (x := (idx a1 o19.fRow)) (w := fun v20 => (V.pro (V.str v20))) rfl rfl rfl rfl rfl (p_index (e := V.str) rfl rfl rfl Go.Proofs.Try.underlying26 rfl (by decide))) ?_
  refine bindE (fun v20 => ?_)
  refine Eq.trans (putp_adv (m := 8) (j := 17) (t' := [(1, (V.sl 0 1 (List.map V.str a1))), (8, (V.sl 0 1 (List.map V.str x16))), (10, (V.ptr 10 0 0)), (28, (sSlot (a0.fFields))), (29, (I (a0.fFields.length : Int))), (30, (I x17)), (34, (V.sl 0 1 (List.map V.str x16))), (35, (V.ptr 10 0 1)), (36, (I o19.fRow)), (37, (V.ptr 10 0 2)), (38, (I o19.fColumn)), (39, (V.sl 0 1 (List.map V.str a1))), (40, (V.ptr 10 0 1)), (41, (I o19.fRow)), (42, (V.pro (V.str v20))), (43, (V.str v20)), (44, (V.ptr 10 0 2)), (45, (I o19.fColumn)), (46, (V.ptr 10 0 2)), (47, (I o19.fColumn)), (48, (V.ptr 10 0 3)), (49, (I o19.fBytes)), (50, (I (Go.IntKind.wrap .i64 (o19.fColumn + o19.fBytes))))]) rfl rfl rfl) ?_
  refine Eq.trans (regp_pure (x := (cut v20 o19.fColumn (Go.IntKind.wrap .i64 (o19.fColumn + o19.fBytes)))) (w := fun v21 => (V.str v21)) rfl rfl rfl rfl rfl (p_sliceS rfl rfl rfl rfl rfl rfl Go.Proofs.Try.underlying9)) ?_
  refine bindE (fun v21 => ?_)
  refine Eq.trans (putp_adv (m := 0) (j := 18) (t' := [(1, (V.sl 0 1 (List.map V.str a1))), (8, (V.sl 0 1 (List.map V.str x16))), (10, (V.ptr 10 0 0)), (28, (sSlot (a0.fFields))), (29, (I (a0.fFields.length : Int))), (30, (I x17)), (34, (V.sl 0 1 (List.map V.str x16))), (35, (V.ptr 10 0 1)), (36, (I o19.fRow)), (37, (V.ptr 10 0 2)), (38, (I o19.fColumn)), (39, (V.sl 0 1 (List.map V.str a1))), (40, (V.ptr 10 0 1)), (41, (I o19.fRow)), (42, (V.pro (V.str v20))), (43, (V.str v20)), (44, (V.ptr 10 0 2)), (45, (I o19.fColumn)), (46, (V.ptr 10 0 2)), (47, (I o19.fColumn)), (48, (V.ptr 10 0 3)), (49, (I o19.fBytes)), (50, (I (Go.IntKind.wrap .i64 (o19.fColumn + o19.fBytes)))), (51, (V.str v21))]) rfl rfl rfl) ?_
  refine Eq.trans (regp_pure (x := (screen_laid k x16 o19.fRow o19.fColumn v21)) (w := fun v22 => (V.sl 0 1 (List.map V.str v22))) rfl rfl rfl rfl rfl (p_call rfl rfl rfl rfl rfl (screen_laid_ok k x16 o19.fRow o19.fColumn v21) (.inl rfl))) ?_
  refine bind_self (fun v22 => ?_)
  exact regp_end rfl
theorem f16r11 (k : Nat) (a0 : T_api_Form) (a1 : (List Str)) (x17 : Int) (o23 : (List Str)) : RE k f16a11 f16o11 false ⟨[(1, (V.sl 0 1 (List.map V.str a1))), (8, (V.sl 0 1 (List.map V.str o23))), (28, (sSlot (a0.fFields))), (29, (I (a0.fFields.length : Int))), (30, (I x17))], [], 57⟩ = some ⟨[(1, (V.sl 0 1 (List.map V.str a1))), (8, (V.sl 0 1 (List.map V.str o23))), (28, (sSlot (a0.fFields))), (29, (I (a0.fFields.length : Int))), (30, (I (Go.IntKind.wrap .i64 (x17 + 1))))], [], 57⟩ :=
  rE rfl
theorem screen_IsPicture_L1_ok (k : Nat) (a0 : T_api_Form) (a1 : (List Str))  (K0 : (List Str) → Int → Option (Bool × Int)) (Kst : X × St → Option (V × List V)) (hK0 : ∀ (y0 : (List Str)) (y1 : Int), Kst (X.exit 0, ⟨[(1, (V.sl 0 1 (List.map V.str a1))), (8, (V.sl 0 1 (List.map V.str y0))), (28, (sSlot (a0.fFields))), (29, (I (a0.fFields.length : Int))), (30, (I y1)), (31, (V.bool false))], [], 57⟩) = (K0 y0 y1).map screen_IsPicture_fin) (hret : ∀ s, Kst (X.ret, s) = endK prog 57 [(enc_T_api_Form a0), (V.sl 0 1 (List.map V.str a1))] [] [.tmp 4, .tmp 5] (X.ret, s)) :
    ∀ (m : Nat) (x16 : (List Str)) (x17 : Int), (iter (exec prog (EV k) f16n k f16b0) m ⟨[(1, (V.sl 0 1 (List.map V.str a1))), (8, (V.sl 0 1 (List.map V.str x16))), (28, (sSlot (a0.fFields))), (29, (I (a0.fFields.length : Int))), (30, (I x17))], [], 57⟩).bind Kst = (screen_IsPicture_L1 k a0 a1 K0 m x16 x17).map screen_IsPicture_fin := by
  intro m
  induction m with
  | zero => intros; rfl
  | succ m ih =>
    intro x16 x17
    unfold screen_IsPicture_L1
    refine Eq.trans k_round ?_
    refine Eq.trans (k_region0 rfl (f16r8 k a0 a1 x16 x17)) ?_
    refine Eq.trans (k_cond (t := (decide (x17 < (a0.fFields.length : Int)))) rfl rfl) ?_
    refine bifE2 (fun hc => ?_) fun hc => ?_
    · rw [hc]
      refine Eq.trans k_skip ?_
      refine Eq.trans (k_block rfl) ?_
      refine Eq.trans (k_region rfl (f16r9 k a0 a1 x16 x17)) ?_
      refine bindE (fun o19 => ?_)
      refine Eq.trans (k_lregion rfl (f16r10 k a0 a1 x16 x17 o19)) ?_
      refine bindE (fun o23 => ?_)
      refine Eq.trans blk_normal ?_
      refine Eq.trans (k_lregion0 rfl (f16r11 k a0 a1 x17 o23)) ?_
      refine Eq.trans loop_normal ?_
      exact ih o23 (Go.IntKind.wrap .i64 (x17 + 1))
    · rw [hc]
      refine Eq.trans k_exit ?_
      refine Eq.trans loop_exit ?_
      exact hK0 x16 x17
theorem f16r12 (k : Nat) (a0 : T_api_Form) (a1 : (List Str)) (y24 : (List Str)) (y25 : Int) : RE k f16a12 f16o12 false ⟨[(1, (V.sl 0 1 (List.map V.str a1))), (8, (V.sl 0 1 (List.map V.str y24))), (28, (sSlot (a0.fFields))), (29, (I (a0.fFields.length : Int))), (30, (I y25)), (31, (V.bool false))], [], 57⟩ = (((slices_Equal_string k y24 a1).bind fun v26 => (some (v26, 0)))).map (fun (o : Bool × Int) => (⟨[(4, (V.bool o.1)), (5, (I o.2))], [], 57⟩ : St)) := by
  refine rg ?_
  refine ra 2 2 ⟨[(1, (V.sl 0 1 (List.map V.str a1))), (8, (V.sl 0 1 (List.map V.str y24))), (28, (sSlot (a0.fFields))), (29, (I (a0.fFields.length : Int))), (30, (I y25)), (31, (V.bool false)), (54, (V.sl 0 1 (List.map V.str y24))), (55, (V.sl 0 1 (List.map V.str a1)))], [], 57⟩ rfl rfl rfl ?_
  refine Eq.trans (reg_pure (x := (slices_Equal_string k y24 a1)) (w := fun v26 => (V.bool v26)) rfl rfl rfl rfl (p_call rfl rfl rfl rfl rfl (slices_Equal_string_ok k y24 a1) (.inl rfl))) ?_
  refine bindE (fun v26 => ?_)
  exact bind_end rfl
theorem screen_IsPicture_ok (k : Nat) (a0 : T_api_Form) (a1 : (List Str)) : EV k 16 [(enc_T_api_Form a0), (V.sl 0 1 (List.map V.str a1))] = (screen_IsPicture k a0 a1).map screen_IsPicture_fin := by
  cases k with
  | zero => rfl
  | succ k =>
    unfold screen_IsPicture
    refine Eq.trans (evF_succ (c := f16c) (N := 57) (regs := f16n) rfl Go.Proofs.Try.func16 rfl (by decide) rfl rfl rfl) ?_
    refine Eq.trans (k_region0 rfl (f16r0 k a0 a1)) ?_
    refine Eq.trans k_assoc ?_
    refine Eq.trans (k_region rfl (f16r1 k a0 a1)) ?_
    refine bindE (fun o2 => ?_)
    refine Eq.trans (k_cond (t := o2) rfl rfl) ?_
    refine bifE2 (fun hc => ?_) fun hc => ?_
    · rw [hc]
      refine Eq.trans k_assoc ?_
      refine Eq.trans (k_region0 rfl (f16r2 k a0 a1)) ?_
      refine Eq.trans k_ret ?_
      rfl
    · rw [hc]
      refine Eq.trans k_skip ?_
      refine Eq.trans k_assoc ?_
      refine Eq.trans (k_region rfl (f16r3 k a0 a1)) ?_
      refine bindE (fun o4 => ?_)
      refine Eq.trans (k_cond (t := o4) rfl rfl) ?_
      refine bifE2 (fun hc => ?_) fun hc => ?_
      · rw [hc]
        refine Eq.trans k_assoc ?_
        refine Eq.trans (k_region0 rfl (f16r4 k a0 a1)) ?_
        refine Eq.trans k_ret ?_
        rfl
      · rw [hc]
        refine Eq.trans k_skip ?_
        refine Eq.trans (k_region rfl (f16r5 k a0 a1)) ?_
        refine bindE (fun o6 => ?_)
        refine Eq.trans (k_region rfl (f16r6 k a0 a1 o6)) ?_
        refine bindE (fun o9 => ?_)
        refine Eq.trans k_assoc ?_
        refine Eq.trans (k_region0 rfl (f16r7 k a0 a1 o9)) ?_
        refine Eq.trans (k_block rfl) ?_
        refine Eq.trans k_loop ?_
        refine screen_IsPicture_L1_ok k a0 a1 _ _ ?h_screen_IsPicture_L1_0 ?hr_screen_IsPicture_L1 k o9 0
        · intro y24 y25
          refine Eq.trans blk_exit ?_
          refine Eq.trans (k_region rfl (f16r12 k a0 a1 y24 y25)) ?_
          refine bindE (fun o27 => ?_)
          refine Eq.trans k_lret ?_
          rfl
        · intro s; exact rfl
def ref24_at_fin : Int → V × List V := fun r => ((I r), [])
theorem f46r0 (k : Nat) (a0 : T_api_Form) (a1 : Int) (a2 : Int) : RE k f46a0 f46o0 false ⟨[(0, (enc_T_api_Form a0)), (1, (I a1)), (2, (I a2))], [], 41⟩ = some ⟨[(1, (I a1)), (2, (I a2)), (3, (V.ptr 3 0 0))], [(3, ⟨false, 4, [(enc_T_api_Form a0)]⟩)], 41⟩ :=
  rE rfl
theorem f46r1 (k : Nat) (a0 : T_api_Form) (a1 : Int) (a2 : Int) : RE k f46a1 f46o1 false ⟨[(1, (I a1)), (2, (I a2)), (3, (V.ptr 3 0 0))], [(3, ⟨false, 4, [(enc_T_api_Form a0)]⟩)], 41⟩ = some ⟨[(1, (I a1)), (2, (I a2)), (3, (V.ptr 3 0 0)), (7, (I 0))], [(3, ⟨false, 4, [(enc_T_api_Form a0)]⟩)], 41⟩ :=
  rE rfl
theorem f46r2 (k : Nat) (a0 : T_api_Form) (a1 : Int) (a2 : Int) (x4 : Int) : RE k f46a2 f46o2 false ⟨[(1, (I a1)), (2, (I a2)), (3, (V.ptr 3 0 0)), (7, (I x4))], [(3, ⟨false, 4, [(enc_T_api_Form a0)]⟩)], 41⟩ = some ⟨[(1, (I a1)), (2, (I a2)), (3, (V.ptr 3 0 0)), (7, (I x4)), (13, (V.bool (decide (x4 < (a0.fFields.length : Int)))))], [(3, ⟨false, 4, [(enc_T_api_Form a0)]⟩)], 41⟩ := by
  refine rg ?_
  refine ra 3 3 ⟨[(1, (I a1)), (2, (I a2)), (3, (V.ptr 3 0 0)), (7, (I x4)), (9, (I x4)), (10, (V.ptr 3 0 3)), (11, (sSlot (a0.fFields)))], [(3, ⟨false, 4, [(enc_T_api_Form a0)]⟩)], 41⟩ rfl rfl rfl ?_
  refine Eq.trans (reg_pure (x := some ()) (w := fun _ => (I (a0.fFields.length : Int))) rfl rfl rfl rfl (p_len (e := enc_T_api_Slot) rfl rfl rfl rfl rfl rfl Go.Proofs.Try.underlying23)) ?_
  refine Eq.trans some_bind ?_
  exact bind_end rfl
theorem f46r4 (k : Nat) (a0 : T_api_Form) (a1 : Int) (a2 : Int) (x4 : Int) : RE k f46a4 f46o4 false ⟨[(1, (I a1)), (2, (I a2)), (3, (V.ptr 3 0 0)), (7, (I x4)), (13, (V.bool true))], [(3, ⟨false, 4, [(enc_T_api_Form a0)]⟩)], 41⟩ = ((idx a0.fFields x4)).map (fun (o : T_api_Slot) => (⟨[(1, (I a1)), (2, (I a2)), (3, (V.ptr 3 0 0)), (7, (I x4)), (8, (V.ptr 8 0 0))], [(3, ⟨false, 4, [(enc_T_api_Form a0)]⟩), (8, ⟨false, 7, [(enc_T_api_Slot o)]⟩)], 41⟩ : St)) := by
  refine rg ?_
  refine ra 3 3 ⟨[(1, (I a1)), (2, (I a2)), (3, (V.ptr 3 0 0)), (7, (I x4)), (13, (V.bool true)), (16, (V.ptr 3 0 3)), (17, (sSlot (a0.fFields))), (18, (I x4))], [(3, ⟨false, 4, [(enc_T_api_Form a0)]⟩)], 41⟩ rfl rfl rfl ?_
  refine Eq.trans (reg_pure (x := (idx a0.fFields x4)) (w := fun v5 => (V.pro (enc_T_api_Slot v5))) rfl rfl rfl rfl (p_index (e := enc_T_api_Slot) rfl rfl rfl Go.Proofs.Try.underlying23 rfl (by decide))) ?_
  refine bind_self (fun v5 => ?_)
  exact bind_end rfl
theorem f46r5 (k : Nat) (a0 : T_api_Form) (a1 : Int) (a2 : Int) (x4 : Int) (o6 : T_api_Slot) : RE k f46a5 f46o5 false ⟨[(1, (I a1)), (2, (I a2)), (3, (V.ptr 3 0 0)), (7, (I x4)), (8, (V.ptr 8 0 0))], [(3, ⟨false, 4, [(enc_T_api_Form a0)]⟩), (8, ⟨false, 7, [(enc_T_api_Slot o6)]⟩)], 41⟩ = ((bif (o6.fRow == a1) then (bif (decide (o6.fColumn ≤ a2)) then (some ((decide (a2 < (Go.IntKind.wrap .i64 (o6.fColumn + o6.fBytes)))))) else (some (false))) else (some (false)))).map (fun (o : Bool) => (⟨[(1, (I a1)), (2, (I a2)), (3, (V.ptr 3 0 0)), (7, (I x4)), (39, (V.bool o))], [(3, ⟨false, 4, [(enc_T_api_Form a0)]⟩)], 41⟩ : St)) := by
  refine rg ?_
  refine ra 5 5 ⟨[(1, (I a1)), (2, (I a2)), (3, (V.ptr 3 0 0)), (7, (I x4)), (8, (V.ptr 8 0 0)), (21, (V.ptr 8 0 1)), (22, (I o6.fRow)), (23, (I a1)), (24, (V.bool (o6.fRow == a1))), (25, (V.bool (o6.fRow == a1)))], [(3, ⟨false, 4, [(enc_T_api_Form a0)]⟩), (8, ⟨false, 7, [(enc_T_api_Slot o6)]⟩)], 41⟩ rfl rfl rfl ?_
  refine bifE (c := (o6.fRow == a1)) (fun hc => ?_) fun hc => ?_
  · rw [hc]
    refine ra 6 11 ⟨[(1, (I a1)), (2, (I a2)), (3, (V.ptr 3 0 0)), (7, (I x4)), (8, (V.ptr 8 0 0)), (21, (V.ptr 8 0 1)), (22, (I o6.fRow)), (23, (I a1)), (24, (V.bool true)), (25, (V.bool true)), (26, (V.ptr 8 0 2)), (27, (I o6.fColumn)), (28, (I a2)), (29, (V.bool (decide (o6.fColumn ≤ a2)))), (30, (V.bool (decide (o6.fColumn ≤ a2)))), (31, (V.bool (decide (o6.fColumn ≤ a2))))], [(3, ⟨false, 4, [(enc_T_api_Form a0)]⟩), (8, ⟨false, 7, [(enc_T_api_Slot o6)]⟩)], 41⟩ rfl rfl rfl ?_
    refine bifE (c := (decide (o6.fColumn ≤ a2))) (fun hc => ?_) fun hc => ?_
    · rw [hc]
      exact reg_end rfl
    · rw [hc]
      exact reg_end rfl
  · rw [hc]
    exact reg_end rfl
theorem f46r6 (k : Nat) (a0 : T_api_Form) (a1 : Int) (a2 : Int) (x4 : Int) : RE k f46a6 f46o6 false ⟨[(1, (I a1)), (2, (I a2)), (3, (V.ptr 3 0 0)), (7, (I x4)), (39, (V.bool true))], [(3, ⟨false, 4, [(enc_T_api_Form a0)]⟩)], 41⟩ = some ⟨[(6, (I x4))], [], 41⟩ :=
  rE rfl
theorem f46r3 (k : Nat) (a0 : T_api_Form) (a1 : Int) (a2 : Int) (x4 : Int) : RE k f46a3 f46o3 false ⟨[(1, (I a1)), (2, (I a2)), (3, (V.ptr 3 0 0)), (7, (I x4)), (39, (V.bool false))], [(3, ⟨false, 4, [(enc_T_api_Form a0)]⟩)], 41⟩ = some ⟨[(1, (I a1)), (2, (I a2)), (3, (V.ptr 3 0 0)), (7, (I (Go.IntKind.wrap .i64 (x4 + 1))))], [(3, ⟨false, 4, [(enc_T_api_Form a0)]⟩)], 41⟩ :=
  rE rfl
theorem ref24_at_L1_ok (k : Nat) (a0 : T_api_Form) (a1 : Int) (a2 : Int)  (K0 : Int → Option Int) (Kst : X × St → Option (V × List V)) (hK0 : ∀ (y0 : Int), Kst (X.exit 0, ⟨[(1, (I a1)), (2, (I a2)), (3, (V.ptr 3 0 0)), (7, (I y0)), (13, (V.bool false))], [(3, ⟨false, 4, [(enc_T_api_Form a0)]⟩)], 41⟩) = (K0 y0).map ref24_at_fin) (hret : ∀ s, Kst (X.ret, s) = endK prog 41 [(enc_T_api_Form a0), (I a1), (I a2)] [] [.tmp 6] (X.ret, s)) :
    ∀ (m : Nat) (x4 : Int), (iter (exec prog (EV k) f46n k f46b0) m ⟨[(1, (I a1)), (2, (I a2)), (3, (V.ptr 3 0 0)), (7, (I x4))], [(3, ⟨false, 4, [(enc_T_api_Form a0)]⟩)], 41⟩).bind Kst = (ref24_at_L1 a0 a1 a2 K0 m x4).map ref24_at_fin := by
  intro m
  induction m with
  | zero => intros; rfl
  | succ m ih =>
    intro x4
    unfold ref24_at_L1
    refine Eq.trans k_round ?_
    refine Eq.trans k_assoc ?_
    refine Eq.trans (k_region0 rfl (f46r2 k a0 a1 a2 x4)) ?_
    refine Eq.trans (k_cond (t := (decide (x4 < (a0.fFields.length : Int)))) rfl rfl) ?_
    refine bifE2 (fun hc => ?_) fun hc => ?_
    · rw [hc]
      refine Eq.trans k_skip ?_
      refine Eq.trans (k_block rfl) ?_
      refine Eq.trans (k_region rfl (f46r4 k a0 a1 a2 x4)) ?_
      refine bindE (fun o6 => ?_)
      refine Eq.trans (k_region rfl (f46r5 k a0 a1 a2 x4 o6)) ?_
      refine bindE (fun o7 => ?_)
      refine Eq.trans (k_lcond (t := o7) rfl rfl) ?_
      refine bifE2 (fun hc => ?_) fun hc => ?_
      · rw [hc]
        refine Eq.trans (k_region0 rfl (f46r6 k a0 a1 a2 x4)) ?_
        refine Eq.trans k_lret ?_
        refine Eq.trans blk_ret ?_
        refine Eq.trans loop_ret ?_
        refine Eq.trans (hret _) ?_
        rfl
      · rw [hc]
        refine Eq.trans k_lskip ?_
        refine Eq.trans blk_normal ?_
        refine Eq.trans (k_lregion0 rfl (f46r3 k a0 a1 a2 x4)) ?_
        refine Eq.trans loop_normal ?_
        exact ih (Go.IntKind.wrap .i64 (x4 + 1))
    · rw [hc]
      refine Eq.trans k_exit ?_
      refine Eq.trans loop_exit ?_
      exact hK0 x4
theorem f46r7 (k : Nat) (a0 : T_api_Form) (a1 : Int) (a2 : Int) (y8 : Int) : RE k f46a7 f46o7 false ⟨[(1, (I a1)), (2, (I a2)), (3, (V.ptr 3 0 0)), (7, (I y8)), (13, (V.bool false))], [(3, ⟨false, 4, [(enc_T_api_Form a0)]⟩)], 41⟩ = some ⟨[(6, (I (-1)))], [], 41⟩ :=
  rE rfl
theorem ref24_at_ok (k : Nat) (a0 : T_api_Form) (a1 : Int) (a2 : Int) : EV k 46 [(enc_T_api_Form a0), (I a1), (I a2)] = (ref24_at k a0 a1 a2).map ref24_at_fin := by
  cases k with
  | zero => rfl
  | succ k =>
    unfold ref24_at
    refine Eq.trans (evF_succ (c := f46c) (N := 41) (regs := f46n) rfl Go.Proofs.Try.func46 rfl (by decide) rfl rfl rfl) ?_
    refine Eq.trans (k_region0 rfl (f46r0 k a0 a1 a2)) ?_
    refine Eq.trans k_assoc ?_
    refine Eq.trans (k_region0 rfl (f46r1 k a0 a1 a2)) ?_
    refine Eq.trans (k_block rfl) ?_
    refine Eq.trans k_loop ?_
    refine ref24_at_L1_ok k a0 a1 a2 _ _ ?h_ref24_at_L1_0 ?hr_ref24_at_L1 k 0
    · intro y8
      refine Eq.trans blk_exit ?_
      refine Eq.trans (k_region0 rfl (f46r7 k a0 a1 a2 y8)) ?_
      refine Eq.trans k_lret ?_
      rfl
    · intro s; exact rfl
def ref24_IsPicture_fin : (Bool × Int) → V × List V := fun r => (.tup [(V.bool r.1), (I r.2)], [])
theorem f17r0 (k : Nat) (a0 : T_api_Form) (a1 : (List Str)) : RE k f17a0 f17o0 false ⟨[(0, (enc_T_api_Form a0)), (1, (V.sl 0 1 (List.map V.str a1)))], [], 50⟩ = some ⟨[(1, (V.sl 0 1 (List.map V.str a1))), (2, (V.ptr 2 0 0))], [(2, ⟨false, 4, [(enc_T_api_Form a0)]⟩)], 50⟩ :=
  rE rfl
theorem f17r1 (k : Nat) (a0 : T_api_Form) (a1 : (List Str)) : RE k f17a1 f17o1 false ⟨[(1, (V.sl 0 1 (List.map V.str a1))), (2, (V.ptr 2 0 0))], [(2, ⟨false, 4, [(enc_T_api_Form a0)]⟩)], 50⟩ = (((ref24_Valid k a0).bind fun v1 => (some ((!v1))))).map (fun (o : Bool) => (⟨[(1, (V.sl 0 1 (List.map V.str a1))), (2, (V.ptr 2 0 0)), (11, (V.bool o))], [(2, ⟨false, 4, [(enc_T_api_Form a0)]⟩)], 50⟩ : St)) := by
  refine rg ?_
  refine ra 1 1 ⟨[(1, (V.sl 0 1 (List.map V.str a1))), (2, (V.ptr 2 0 0)), (9, (enc_T_api_Form a0))], [(2, ⟨false, 4, [(enc_T_api_Form a0)]⟩)], 50⟩ rfl rfl rfl ?_
  refine Eq.trans (reg_pure (x := (ref24_Valid k a0)) (w := fun v1 => (V.bool v1)) rfl rfl rfl rfl (p_call rfl rfl rfl rfl rfl (ref24_Valid_ok k a0) (.inl rfl))) ?_
  refine bindE (fun v1 => ?_)
  exact bind_end rfl
theorem f17r2 (k : Nat) (a0 : T_api_Form) (a1 : (List Str)) : RE k f17a2 f17o2 false ⟨[(1, (V.sl 0 1 (List.map V.str a1))), (2, (V.ptr 2 0 0)), (11, (V.bool true))], [(2, ⟨false, 4, [(enc_T_api_Form a0)]⟩)], 50⟩ = some ⟨[(4, (V.bool false)), (5, (I 220))], [], 50⟩ :=
  rE rfl
theorem f17r3 (k : Nat) (a0 : T_api_Form) (a1 : (List Str)) : RE k f17a3 f17o3 false ⟨[(1, (V.sl 0 1 (List.map V.str a1))), (2, (V.ptr 2 0 0)), (11, (V.bool false))], [(2, ⟨false, 4, [(enc_T_api_Form a0)]⟩)], 50⟩ = (((ref24_sized k a0 a1).bind fun v3 => (some ((!v3))))).map (fun (o : Bool) => (⟨[(1, (V.sl 0 1 (List.map V.str a1))), (2, (V.ptr 2 0 0)), (15, (V.bool o))], [(2, ⟨false, 4, [(enc_T_api_Form a0)]⟩)], 50⟩ : St)) := by
  refine rg ?_
  refine ra 2 2 ⟨[(1, (V.sl 0 1 (List.map V.str a1))), (2, (V.ptr 2 0 0)), (11, (V.bool false)), (12, (enc_T_api_Form a0)), (13, (V.sl 0 1 (List.map V.str a1)))], [(2, ⟨false, 4, [(enc_T_api_Form a0)]⟩)], 50⟩ rfl rfl rfl ?_
  refine Eq.trans (reg_pure (x := (ref24_sized k a0 a1)) (w := fun v3 => (V.bool v3)) rfl rfl rfl rfl (p_call rfl rfl rfl rfl rfl (ref24_sized_ok k a0 a1) (.inl rfl))) ?_
  refine bindE (fun v3 => ?_)
  exact bind_end rfl
theorem f17r4 (k : Nat) (a0 : T_api_Form) (a1 : (List Str)) : RE k f17a4 f17o4 false ⟨[(1, (V.sl 0 1 (List.map V.str a1))), (2, (V.ptr 2 0 0)), (15, (V.bool true))], [(2, ⟨false, 4, [(enc_T_api_Form a0)]⟩)], 50⟩ = some ⟨[(4, (V.bool false)), (5, (I 0))], [], 50⟩ :=
  rE rfl
theorem f17r5 (k : Nat) (a0 : T_api_Form) (a1 : (List Str)) : RE k f17a5 f17o5 false ⟨[(1, (V.sl 0 1 (List.map V.str a1))), (2, (V.ptr 2 0 0)), (15, (V.bool false))], [(2, ⟨false, 4, [(enc_T_api_Form a0)]⟩)], 50⟩ = ((ref24_marked k a0)).map (fun (o : (List Str)) => (⟨[(1, (V.sl 0 1 (List.map V.str a1))), (2, (V.ptr 2 0 0)), (6, (V.sl 0 1 (List.map V.str o)))], [(2, ⟨false, 4, [(enc_T_api_Form a0)]⟩)], 50⟩ : St)) := by
  refine rg ?_
  refine ra 1 1 ⟨[(1, (V.sl 0 1 (List.map V.str a1))), (2, (V.ptr 2 0 0)), (15, (V.bool false)), (16, (enc_T_api_Form a0))], [(2, ⟨false, 4, [(enc_T_api_Form a0)]⟩)], 50⟩ rfl rfl rfl ?_
  refine Eq.trans (reg_pure (x := (ref24_marked k a0)) (w := fun v5 => (V.sl 0 1 (List.map V.str v5))) rfl rfl rfl rfl (p_call rfl rfl rfl rfl rfl (ref24_marked_ok k a0) (.inl rfl))) ?_
  refine bind_self (fun v5 => ?_)
  exact bind_end rfl
theorem f17r6 (k : Nat) (a0 : T_api_Form) (a1 : (List Str)) (o6 : (List Str)) : RE k f17a6 f17o6 false ⟨[(1, (V.sl 0 1 (List.map V.str a1))), (2, (V.ptr 2 0 0)), (6, (V.sl 0 1 (List.map V.str o6)))], [(2, ⟨false, 4, [(enc_T_api_Form a0)]⟩)], 50⟩ = some ⟨[(1, (V.sl 0 1 (List.map V.str a1))), (2, (V.ptr 2 0 0)), (6, (V.sl 0 1 (List.map V.str o6))), (7, (I 0))], [(2, ⟨false, 4, [(enc_T_api_Form a0)]⟩)], 50⟩ :=
  rE rfl
theorem f17r7 (k : Nat) (a0 : T_api_Form) (a1 : (List Str)) (o6 : (List Str)) (x21 : Int) : RE k f17a7 f17o7 false ⟨[(1, (V.sl 0 1 (List.map V.str a1))), (2, (V.ptr 2 0 0)), (6, (V.sl 0 1 (List.map V.str o6))), (7, (I x21))], [(2, ⟨false, 4, [(enc_T_api_Form a0)]⟩)], 50⟩ = some ⟨[(1, (V.sl 0 1 (List.map V.str a1))), (2, (V.ptr 2 0 0)), (6, (V.sl 0 1 (List.map V.str o6))), (7, (I x21)), (21, (V.bool (decide (x21 < a0.fRows))))], [(2, ⟨false, 4, [(enc_T_api_Form a0)]⟩)], 50⟩ :=
  rE rfl
theorem f17r9 (k : Nat) (a0 : T_api_Form) (a1 : (List Str)) (o6 : (List Str)) (x21 : Int) : RE k f17a9 f17o9 false ⟨[(1, (V.sl 0 1 (List.map V.str a1))), (2, (V.ptr 2 0 0)), (6, (V.sl 0 1 (List.map V.str o6))), (7, (I x21)), (21, (V.bool true))], [(2, ⟨false, 4, [(enc_T_api_Form a0)]⟩)], 50⟩ = some ⟨[(1, (V.sl 0 1 (List.map V.str a1))), (2, (V.ptr 2 0 0)), (6, (V.sl 0 1 (List.map V.str o6))), (7, (I x21)), (8, (I 0))], [(2, ⟨false, 4, [(enc_T_api_Form a0)]⟩)], 50⟩ :=
  rE rfl
theorem f17r10 (k : Nat) (a0 : T_api_Form) (a1 : (List Str)) (o6 : (List Str)) (x21 : Int) (x28 : Int) : RE k f17a10 f17o10 false ⟨[(1, (V.sl 0 1 (List.map V.str a1))), (2, (V.ptr 2 0 0)), (6, (V.sl 0 1 (List.map V.str o6))), (7, (I x21)), (8, (I x28))], [(2, ⟨false, 4, [(enc_T_api_Form a0)]⟩)], 50⟩ = some ⟨[(1, (V.sl 0 1 (List.map V.str a1))), (2, (V.ptr 2 0 0)), (6, (V.sl 0 1 (List.map V.str o6))), (7, (I x21)), (8, (I x28)), (27, (V.bool (decide (x28 < a0.fColumns))))], [(2, ⟨false, 4, [(enc_T_api_Form a0)]⟩)], 50⟩ :=
  rE rfl
theorem f17r12 (k : Nat) (a0 : T_api_Form) (a1 : (List Str)) (o6 : (List Str)) (x21 : Int) (x28 : Int) : RE k f17a12 f17o12 true ⟨[(1, (V.sl 0 1 (List.map V.str a1))), (2, (V.ptr 2 0 0)), (6, (V.sl 0 1 (List.map V.str o6))), (7, (I x21)), (8, (I x28)), (27, (V.bool true))], [(2, ⟨false, 4, [(enc_T_api_Form a0)]⟩)], 50⟩ = (((ref24_at k a0 x21 x28).bind fun v29 => (bif (decide (v29 < 0)) then ((idx a1 x21).bind fun v30 => ((idxS v30 x28).bind fun v31 => ((idx o6 x21).bind fun v32 => ((idxS v32 x28).bind fun v33 => (some ((v31 != v33))))))) else (some (false))))).map (fun (o : Bool) => (⟨[(1, (V.sl 0 1 (List.map V.str a1))), (2, (V.ptr 2 0 0)), (6, (V.sl 0 1 (List.map V.str o6))), (7, (I x21)), (8, (I x28)), (49, (V.bool o))], [(2, ⟨false, 4, [(enc_T_api_Form a0)]⟩)], 50⟩ : St)) := by
  refine Eq.trans (regionE_regp (p := 20) (dk := true) (t := [(1, (V.sl 0 1 (List.map V.str a1))), (2, (V.ptr 2 0 0)), (6, (V.sl 0 1 (List.map V.str o6))), (7, (I x21)), (8, (I x28)), (27, (V.bool true))]) (σ := [(2, ⟨false, 4, [(enc_T_api_Form a0)]⟩)]) (n := 50) (by decide) (by decide) rfl) ?_
  refine Eq.trans (regp_adv (m := 3) (j := 3) (t' := [(1, (V.sl 0 1 (List.map V.str a1))), (2, (V.ptr 2 0 0)), (6, (V.sl 0 1 (List.map V.str o6))), (7, (I x21)), (8, (I x28)), (27, (V.bool true)), (30, (enc_T_api_Form a0)), (31, (I x21)), (32, (I x28))]) rfl rfl rfl) ?_
  refine Eq.trans (regp_pure (x := (ref24_at k a0 x21 x28)) (w := fun v29 => (I v29)) rfl rfl rfl rfl rfl (p_call rfl rfl rfl rfl rfl (ref24_at_ok k a0 x21 x28) (.inl rfl))) ?_
  refine bindE (fun v29 => ?_)
  refine Eq.trans (putp_adv (m := 2) (j := 6) (t' := [(1, (V.sl 0 1 (List.map V.str a1))), (2, (V.ptr 2 0 0)), (6, (V.sl 0 1 (List.map V.str o6))), (7, (I x21)), (8, (I x28)), (27, (V.bool true)), (30, (enc_T_api_Form a0)), (31, (I x21)), (32, (I x28)), (33, (I v29)), (34, (V.bool (decide (v29 < 0)))), (35, (V.bool (decide (v29 < 0))))]) rfl rfl rfl) ?_
  refine bifE (c := (decide (v29 < 0))) (fun hc => ?_) fun hc => ?_
  · rw [hc]
    refine Eq.trans (regp_adv (m := 2) (j := 8) (t' := [(1, (V.sl 0 1 (List.map V.str a1))), (2, (V.ptr 2 0 0)), (6, (V.sl 0 1 (List.map V.str o6))), (7, (I x21)), (8, (I x28)), (27, (V.bool true)), (30, (enc_T_api_Form a0)), (31, (I x21)), (32, (I x28)), (33, (I v29)), (34, (V.bool true)), (35, (V.bool true)), (36, (V.sl 0 1 (List.map V.str a1))), (37, (I x21))]) rfl rfl rfl) ?_
    refine Eq.trans (regp_pure (x := (idx a1 x21)) (w := fun v30 => (V.pro (V.str v30))) rfl rfl rfl rfl rfl (p_index (e := V.str) rfl rfl rfl Go.Proofs.Try.underlying26 rfl (by decide))) ?_
    refine bindE (fun v30 => ?_)
    refine Eq.trans (putp_adv (m := 2) (j := 11) (t' := [(1, (V.sl 0 1 (List.map V.str a1))), (2, (V.ptr 2 0 0)), (6, (V.sl 0 1 (List.map V.str o6))), (7, (I x21)), (8, (I x28)), (27, (V.bool true)), (30, (enc_T_api_Form a0)), (31, (I x21)), (32, (I x28)), (33, (I v29)), (34, (V.bool true)), (35, (V.bool true)), (36, (V.sl 0 1 (List.map V.str a1))), (37, (I x21)), (38, (V.pro (V.str v30))), (39, (V.str v30)), (40, (I x28))]) rfl rfl rfl) ?_
    refine Eq.trans (regp_pure (x := (idxS v30 x28)) (w := fun v31 => (V.int .u8 v31)) rfl rfl rfl rfl rfl (p_indexS rfl rfl rfl Go.Proofs.Try.underlying9)) ?_
    refine bindE (fun v31 => ?_)
    refine Eq.trans (putp_adv (m := 2) (j := 14) (t' := [(1, (V.sl 0 1 (List.map V.str a1))), (2, (V.ptr 2 0 0)), (6, (V.sl 0 1 (List.map V.str o6))), (7, (I x21)), (8, (I x28)), (27, (V.bool true)), (30, (enc_T_api_Form a0)), (31, (I x21)), (32, (I x28)), (33, (I v29)), (34, (V.bool true)), (35, (V.bool true)), (36, (V.sl 0 1 (List.map V.str a1))), (37, (I x21)), (38, (V.pro (V.str v30))), (39, (V.str v30)), (40, (I x28)), (41, (V.int .u8 v31)), (42, (V.sl 0 1 (List.map V.str o6))), (43, (I x21))]) rfl rfl rfl) ?_
    refine Eq.trans (regp_pure (x := (idx o6 x21)) (w := fun v32 => (V.pro (V.str v32))) rfl rfl rfl rfl rfl (p_index (e := V.str) rfl rfl rfl Go.Proofs.Try.underlying26 rfl (by decide))) ?_
    refine bindE (fun v32 => ?_)
    refine Eq.trans (putp_adv (m := 2) (j := 17) (t' := [(1, (V.sl 0 1 (List.map V.str a1))), (2, (V.ptr 2 0 0)), (6, (V.sl 0 1 (List.map V.str o6))), (7, (I x21)), (8, (I x28)), (27, (V.bool true)), (30, (enc_T_api_Form a0)), (31, (I x21)), (32, (I x28)), (33, (I v29)), (34, (V.bool true)), (35, (V.bool true)), (36, (V.sl 0 1 (List.map V.str a1))), (37, (I x21)), (38, (V.pro (V.str v30))), (39, (V.str v30)), (40, (I x28)), (41, (V.int .u8 v31)), (42, (V.sl 0 1 (List.map V.str o6))), (43, (I x21)), (44, (V.pro (V.str v32))), (45, (V.str v32)), (46, (I x28))]) rfl rfl rfl) ?_
    refine Eq.trans (regp_pure (x := (idxS v32 x28)) (w := fun v33 => (V.int .u8 v33)) rfl rfl rfl rfl rfl (p_indexS rfl rfl rfl Go.Proofs.Try.underlying9)) ?_
    refine bindE (fun v33 => ?_)
    exact regp_end rfl
  · rw [hc]
    exact regp_end rfl
theorem f17r13 (k : Nat) (a0 : T_api_Form) (a1 : (List Str)) (o6 : (List Str)) (x21 : Int) (x28 : Int) : RE k f17a13 f17o13 false ⟨[(1, (V.sl 0 1 (List.map V.str a1))), (2, (V.ptr 2 0 0)), (6, (V.sl 0 1 (List.map V.str o6))), (7, (I x21)), (8, (I x28)), (49, (V.bool true))], [(2, ⟨false, 4, [(enc_T_api_Form a0)]⟩)], 50⟩ = some ⟨[(4, (V.bool false)), (5, (I 0))], [], 50⟩ :=
  rE rfl
theorem f17r11 (k : Nat) (a0 : T_api_Form) (a1 : (List Str)) (o6 : (List Str)) (x21 : Int) (x28 : Int) : RE k f17a11 f17o11 false ⟨[(1, (V.sl 0 1 (List.map V.str a1))), (2, (V.ptr 2 0 0)), (6, (V.sl 0 1 (List.map V.str o6))), (7, (I x21)), (8, (I x28)), (49, (V.bool false))], [(2, ⟨false, 4, [(enc_T_api_Form a0)]⟩)], 50⟩ = some ⟨[(1, (V.sl 0 1 (List.map V.str a1))), (2, (V.ptr 2 0 0)), (6, (V.sl 0 1 (List.map V.str o6))), (7, (I x21)), (8, (I (Go.IntKind.wrap .i64 (x28 + 1))))], [(2, ⟨false, 4, [(enc_T_api_Form a0)]⟩)], 50⟩ :=
  rE rfl
theorem ref24_IsPicture_L2_ok (k : Nat) (a0 : T_api_Form) (a1 : (List Str)) (o6 : (List Str)) (x21 : Int)  (K0 : Int → Option (Bool × Int)) (Kst : X × St → Option (V × List V)) (hK0 : ∀ (y0 : Int), Kst (X.exit 2, ⟨[(1, (V.sl 0 1 (List.map V.str a1))), (2, (V.ptr 2 0 0)), (6, (V.sl 0 1 (List.map V.str o6))), (7, (I x21)), (8, (I y0)), (27, (V.bool false))], [(2, ⟨false, 4, [(enc_T_api_Form a0)]⟩)], 50⟩) = (K0 y0).map ref24_IsPicture_fin) (hret : ∀ s, Kst (X.ret, s) = endK prog 50 [(enc_T_api_Form a0), (V.sl 0 1 (List.map V.str a1))] [] [.tmp 4, .tmp 5] (X.ret, s)) :
    ∀ (m : Nat) (x28 : Int), (iter (exec prog (EV k) f17n k f17b0) m ⟨[(1, (V.sl 0 1 (List.map V.str a1))), (2, (V.ptr 2 0 0)), (6, (V.sl 0 1 (List.map V.str o6))), (7, (I x21)), (8, (I x28))], [(2, ⟨false, 4, [(enc_T_api_Form a0)]⟩)], 50⟩).bind Kst = (ref24_IsPicture_L2 k a0 a1 o6 x21 K0 m x28).map ref24_IsPicture_fin := by
  intro m
  induction m with
  | zero => intros; rfl
  | succ m ih =>
    intro x28
    unfold ref24_IsPicture_L2
    refine Eq.trans k_round ?_
    refine Eq.trans k_assoc ?_
    refine Eq.trans (k_region0 rfl (f17r10 k a0 a1 o6 x21 x28)) ?_
    refine Eq.trans (k_cond (t := (decide (x28 < a0.fColumns))) rfl rfl) ?_
    refine bifE2 (fun hc => ?_) fun hc => ?_
    · rw [hc]
      refine Eq.trans k_skip ?_
      refine Eq.trans (k_block rfl) ?_
      refine Eq.trans (k_region rfl (f17r12 k a0 a1 o6 x21 x28)) ?_
      refine bindE (fun o34 => ?_)
      refine Eq.trans (k_lcond (t := o34) rfl rfl) ?_
      refine bifE2 (fun hc => ?_) fun hc => ?_
      · rw [hc]
        refine Eq.trans (k_region0 rfl (f17r13 k a0 a1 o6 x21 x28)) ?_
        refine Eq.trans k_lret ?_
        refine Eq.trans blk_ret ?_
        refine Eq.trans loop_ret ?_
        refine Eq.trans (hret _) ?_
        rfl
      · rw [hc]
        refine Eq.trans k_lskip ?_
        refine Eq.trans blk_normal ?_
        refine Eq.trans (k_lregion0 rfl (f17r11 k a0 a1 o6 x21 x28)) ?_
        refine Eq.trans loop_normal ?_
        exact ih (Go.IntKind.wrap .i64 (x28 + 1))
    · rw [hc]
      refine Eq.trans k_exit ?_
      refine Eq.trans loop_exit ?_
      exact hK0 x28
theorem f17r8 (k : Nat) (a0 : T_api_Form) (a1 : (List Str)) (o6 : (List Str)) (x21 : Int) (y35 : Int) : RE k f17a8 f17o8 false ⟨[(1, (V.sl 0 1 (List.map V.str a1))), (2, (V.ptr 2 0 0)), (6, (V.sl 0 1 (List.map V.str o6))), (7, (I x21)), (8, (I y35)), (27, (V.bool false))], [(2, ⟨false, 4, [(enc_T_api_Form a0)]⟩)], 50⟩ = some ⟨[(1, (V.sl 0 1 (List.map V.str a1))), (2, (V.ptr 2 0 0)), (6, (V.sl 0 1 (List.map V.str o6))), (7, (I (Go.IntKind.wrap .i64 (x21 + 1))))], [(2, ⟨false, 4, [(enc_T_api_Form a0)]⟩)], 50⟩ :=
  rE rfl
theorem ref24_IsPicture_L1_ok (k : Nat) (a0 : T_api_Form) (a1 : (List Str)) (o6 : (List Str))  (K0 : Int → Option (Bool × Int)) (Kst : X × St → Option (V × List V)) (hK0 : ∀ (y0 : Int), Kst (X.exit 0, ⟨[(1, (V.sl 0 1 (List.map V.str a1))), (2, (V.ptr 2 0 0)), (6, (V.sl 0 1 (List.map V.str o6))), (7, (I y0)), (21, (V.bool false))], [(2, ⟨false, 4, [(enc_T_api_Form a0)]⟩)], 50⟩) = (K0 y0).map ref24_IsPicture_fin) (hret : ∀ s, Kst (X.ret, s) = endK prog 50 [(enc_T_api_Form a0), (V.sl 0 1 (List.map V.str a1))] [] [.tmp 4, .tmp 5] (X.ret, s)) :
    ∀ (m : Nat) (x21 : Int), (iter (exec prog (EV k) f17n k f17b1) m ⟨[(1, (V.sl 0 1 (List.map V.str a1))), (2, (V.ptr 2 0 0)), (6, (V.sl 0 1 (List.map V.str o6))), (7, (I x21))], [(2, ⟨false, 4, [(enc_T_api_Form a0)]⟩)], 50⟩).bind Kst = (ref24_IsPicture_L1 k a0 a1 o6 K0 m x21).map ref24_IsPicture_fin := by
  intro m
  induction m with
  | zero => intros; rfl
  | succ m ih =>
    intro x21
    unfold ref24_IsPicture_L1
    refine Eq.trans k_round ?_
    refine Eq.trans k_assoc ?_
    refine Eq.trans (k_region0 rfl (f17r7 k a0 a1 o6 x21)) ?_
    refine Eq.trans (k_cond (t := (decide (x21 < a0.fRows))) rfl rfl) ?_
    refine bifE2 (fun hc => ?_) fun hc => ?_
    · rw [hc]
      refine Eq.trans k_skip ?_
      refine Eq.trans (k_block rfl) ?_
      refine Eq.trans (k_region0 rfl (f17r9 k a0 a1 o6 x21)) ?_
      refine Eq.trans (k_lblock rfl) ?_
      refine Eq.trans k_loop ?_
      refine ref24_IsPicture_L2_ok k a0 a1 o6 x21 _ _ ?h_ref24_IsPicture_L2_0 ?hr_ref24_IsPicture_L2 k 0
      · intro y35
        refine Eq.trans blk_exit ?_
        refine Eq.trans k_lskip ?_
        refine Eq.trans blk_normal ?_
        refine Eq.trans (k_lregion0 rfl (f17r8 k a0 a1 o6 x21 y35)) ?_
        refine Eq.trans loop_normal ?_
        exact ih (Go.IntKind.wrap .i64 (x21 + 1))
      · intro s; exact hret s
    · rw [hc]
      refine Eq.trans k_exit ?_
      refine Eq.trans loop_exit ?_
      exact hK0 x21
theorem f17r14 (k : Nat) (a0 : T_api_Form) (a1 : (List Str)) (o6 : (List Str)) (y36 : Int) : RE k f17a14 f17o14 false ⟨[(1, (V.sl 0 1 (List.map V.str a1))), (2, (V.ptr 2 0 0)), (6, (V.sl 0 1 (List.map V.str o6))), (7, (I y36)), (21, (V.bool false))], [(2, ⟨false, 4, [(enc_T_api_Form a0)]⟩)], 50⟩ = some ⟨[(4, (V.bool true)), (5, (I 0))], [], 50⟩ :=
  rE rfl
theorem ref24_IsPicture_ok (k : Nat) (a0 : T_api_Form) (a1 : (List Str)) : EV k 17 [(enc_T_api_Form a0), (V.sl 0 1 (List.map V.str a1))] = (ref24_IsPicture k a0 a1).map ref24_IsPicture_fin := by
  cases k with
  | zero => rfl
  | succ k =>
    unfold ref24_IsPicture
    refine Eq.trans (evF_succ (c := f17c) (N := 50) (regs := f17n) rfl Go.Proofs.Try.func17 rfl (by decide) rfl rfl rfl) ?_
    refine Eq.trans (k_region0 rfl (f17r0 k a0 a1)) ?_
    refine Eq.trans k_assoc ?_
    refine Eq.trans (k_region rfl (f17r1 k a0 a1)) ?_
    refine bindE (fun o2 => ?_)
    refine Eq.trans (k_cond (t := o2) rfl rfl) ?_
    refine bifE2 (fun hc => ?_) fun hc => ?_
    · rw [hc]
      refine Eq.trans k_assoc ?_
      refine Eq.trans (k_region0 rfl (f17r2 k a0 a1)) ?_
      refine Eq.trans k_ret ?_
      rfl
    · rw [hc]
      refine Eq.trans k_skip ?_
      refine Eq.trans k_assoc ?_
      refine Eq.trans (k_region rfl (f17r3 k a0 a1)) ?_
      refine bindE (fun o4 => ?_)
      refine Eq.trans (k_cond (t := o4) rfl rfl) ?_
      refine bifE2 (fun hc => ?_) fun hc => ?_
      · rw [hc]
        refine Eq.trans k_assoc ?_
        refine Eq.trans (k_region0 rfl (f17r4 k a0 a1)) ?_
        refine Eq.trans k_ret ?_
        rfl
      · rw [hc]
        refine Eq.trans k_skip ?_
        refine Eq.trans (k_region rfl (f17r5 k a0 a1)) ?_
        refine bindE (fun o6 => ?_)
        refine Eq.trans k_assoc ?_
        refine Eq.trans (k_region0 rfl (f17r6 k a0 a1 o6)) ?_
        refine Eq.trans (k_block rfl) ?_
        refine Eq.trans k_loop ?_
        refine ref24_IsPicture_L1_ok k a0 a1 o6 _ _ ?h_ref24_IsPicture_L1_0 ?hr_ref24_IsPicture_L1 k 0
        · intro y36
          refine Eq.trans blk_exit ?_
          refine Eq.trans (k_region0 rfl (f17r14 k a0 a1 o6 y36)) ?_
          refine Eq.trans k_lret ?_
          rfl
        · intro s; exact rfl
def law24_ScreenShows_fin : Bool → V × List V := fun r => ((V.bool r), [])
theorem f3r0 (k : Nat) (a0 : T_api_Form) (a1 : (List Str)) (a2 : (List Str)) : RE k f3a0 f3o0 false ⟨[(0, (enc_T_api_Form a0)), (1, (V.sl 0 1 (List.map V.str a1))), (2, (V.sl 0 1 (List.map V.str a2)))], [], 92⟩ = some ⟨[(1, (V.sl 0 1 (List.map V.str a1))), (2, (V.sl 0 1 (List.map V.str a2))), (3, (V.ptr 3 0 0))], [(3, ⟨false, 4, [(enc_T_api_Form a0)]⟩)], 92⟩ :=
  rE rfl
theorem f3r1 (k : Nat) (a0 : T_api_Form) (a1 : (List Str)) (a2 : (List Str)) : RE k f3a1 f3o1 false ⟨[(1, (V.sl 0 1 (List.map V.str a1))), (2, (V.sl 0 1 (List.map V.str a2))), (3, (V.ptr 3 0 0))], [(3, ⟨false, 4, [(enc_T_api_Form a0)]⟩)], 92⟩ = (((law24_Large k a0).bind fun v1 => (bif v1 then (some (true)) else ((law24_Long k a1).bind fun v2 => (bif v2 then (some (true)) else (law24_Long k a2)))))).map (fun (o : Bool) => (⟨[(1, (V.sl 0 1 (List.map V.str a1))), (2, (V.sl 0 1 (List.map V.str a2))), (3, (V.ptr 3 0 0)), (24, (V.bool o))], [(3, ⟨false, 4, [(enc_T_api_Form a0)]⟩)], 92⟩ : St)) := by
  refine rg ?_
  refine ra 1 1 ⟨[(1, (V.sl 0 1 (List.map V.str a1))), (2, (V.sl 0 1 (List.map V.str a2))), (3, (V.ptr 3 0 0)), (15, (enc_T_api_Form a0))], [(3, ⟨false, 4, [(enc_T_api_Form a0)]⟩)], 92⟩ rfl rfl rfl ?_
  refine Eq.trans (reg_pure (x := (law24_Large k a0)) (w := fun v1 => (V.bool v1)) rfl rfl rfl rfl (p_call rfl rfl rfl rfl rfl (law24_Large_ok k a0) (.inl rfl))) ?_
  refine bindE (fun v1 => ?_)
  refine ba 1 3 ⟨[(1, (V.sl 0 1 (List.map V.str a1))), (2, (V.sl 0 1 (List.map V.str a2))), (3, (V.ptr 3 0 0)), (15, (enc_T_api_Form a0)), (16, (V.bool v1)), (17, (V.bool v1))], [(3, ⟨false, 4, [(enc_T_api_Form a0)]⟩)], 92⟩ rfl rfl rfl ?_
  refine bifE (c := v1) (fun hc => ?_) fun hc => ?_
  · rw [hc]
    exact reg_end rfl
  · rw [hc]
    refine ra 1 4 ⟨[(1, (V.sl 0 1 (List.map V.str a1))), (2, (V.sl 0 1 (List.map V.str a2))), (3, (V.ptr 3 0 0)), (15, (enc_T_api_Form a0)), (16, (V.bool false)), (17, (V.bool false)), (18, (V.sl 0 1 (List.map V.str a1)))], [(3, ⟨false, 4, [(enc_T_api_Form a0)]⟩)], 92⟩ rfl rfl rfl ?_
    refine Eq.trans (reg_pure (x := (law24_Long k a1)) (w := fun v2 => (V.bool v2)) rfl rfl rfl rfl (p_call rfl rfl rfl rfl rfl (law24_Long_ok k a1) (.inl rfl))) ?_
    refine bindE (fun v2 => ?_)
    refine ba 2 7 ⟨[(1, (V.sl 0 1 (List.map V.str a1))), (2, (V.sl 0 1 (List.map V.str a2))), (3, (V.ptr 3 0 0)), (15, (enc_T_api_Form a0)), (16, (V.bool false)), (17, (V.bool false)), (18, (V.sl 0 1 (List.map V.str a1))), (19, (V.bool v2)), (20, (V.bool v2)), (21, (V.bool v2))], [(3, ⟨false, 4, [(enc_T_api_Form a0)]⟩)], 92⟩ rfl rfl rfl ?_
    refine bifE (c := v2) (fun hc => ?_) fun hc => ?_
    · rw [hc]
      exact reg_end rfl
    · rw [hc]
      refine ra 1 8 ⟨[(1, (V.sl 0 1 (List.map V.str a1))), (2, (V.sl 0 1 (List.map V.str a2))), (3, (V.ptr 3 0 0)), (15, (enc_T_api_Form a0)), (16, (V.bool false)), (17, (V.bool false)), (18, (V.sl 0 1 (List.map V.str a1))), (19, (V.bool false)), (20, (V.bool false)), (21, (V.bool false)), (22, (V.sl 0 1 (List.map V.str a2)))], [(3, ⟨false, 4, [(enc_T_api_Form a0)]⟩)], 92⟩ rfl rfl rfl ?_
      refine Eq.trans (reg_pure (x := (law24_Long k a2)) (w := fun v3 => (V.bool v3)) rfl rfl rfl rfl (p_call rfl rfl rfl rfl rfl (law24_Long_ok k a2) (.inl rfl))) ?_
      refine bind_self (fun v3 => ?_)
      exact bind_end rfl
theorem f3r2 (k : Nat) (a0 : T_api_Form) (a1 : (List Str)) (a2 : (List Str)) : RE k f3a2 f3o2 false ⟨[(1, (V.sl 0 1 (List.map V.str a1))), (2, (V.sl 0 1 (List.map V.str a2))), (3, (V.ptr 3 0 0)), (24, (V.bool true))], [(3, ⟨false, 4, [(enc_T_api_Form a0)]⟩)], 92⟩ = ((law24_Awake k)).map (fun (o : Bool) => (⟨[(6, (V.bool o))], [], 92⟩ : St)) := by
  refine rg ?_
  refine Eq.trans (reg_pure (x := (law24_Awake k)) (w := fun v5 => (V.bool v5)) rfl rfl rfl rfl (p_call rfl rfl rfl rfl rfl (law24_Awake_ok k) (.inl rfl))) ?_
  refine bind_self (fun v5 => ?_)
  exact bind_end rfl
theorem f3r3 (k : Nat) (a0 : T_api_Form) (a1 : (List Str)) (a2 : (List Str)) : RE k f3a3 f3o3 false ⟨[(1, (V.sl 0 1 (List.map V.str a1))), (2, (V.sl 0 1 (List.map V.str a2))), (3, (V.ptr 3 0 0)), (24, (V.bool false))], [(3, ⟨false, 4, [(enc_T_api_Form a0)]⟩)], 92⟩ = (((screen_Show k a0 a1).bind fun v7 => (some (v7.1, v7.2)))).map (fun (o : (List Str) × Int) => (⟨[(1, (V.sl 0 1 (List.map V.str a1))), (2, (V.sl 0 1 (List.map V.str a2))), (3, (V.ptr 3 0 0)), (7, (V.sl 0 1 (List.map V.str o.1))), (8, (I o.2))], [(3, ⟨false, 4, [(enc_T_api_Form a0)]⟩)], 92⟩ : St)) := by
  refine rg ?_
  refine ra 2 2 ⟨[(1, (V.sl 0 1 (List.map V.str a1))), (2, (V.sl 0 1 (List.map V.str a2))), (3, (V.ptr 3 0 0)), (24, (V.bool false)), (27, (enc_T_api_Form a0)), (28, (V.sl 0 1 (List.map V.str a1)))], [(3, ⟨false, 4, [(enc_T_api_Form a0)]⟩)], 92⟩ rfl rfl rfl ?_
  refine Eq.trans (reg_pure (x := (screen_Show k a0 a1)) (w := fun v7 => (V.tup [(V.sl 0 1 (List.map V.str v7.1)), (I v7.2)])) rfl rfl rfl rfl (p_call rfl rfl rfl rfl rfl (screen_Show_ok k a0 a1) (.inl rfl))) ?_
  refine bindE (fun v7 => ?_)
  exact bind_end rfl
theorem f3r4 (k : Nat) (a0 : T_api_Form) (a1 : (List Str)) (a2 : (List Str)) (o8 : (List Str) × Int) : RE k f3a4 f3o4 false ⟨[(1, (V.sl 0 1 (List.map V.str a1))), (2, (V.sl 0 1 (List.map V.str a2))), (3, (V.ptr 3 0 0)), (7, (V.sl 0 1 (List.map V.str o8.1))), (8, (I o8.2))], [(3, ⟨false, 4, [(enc_T_api_Form a0)]⟩)], 92⟩ = (((ref24_Show k a0 a1).bind fun v9 => (some (v9.1, v9.2)))).map (fun (o : (List Str) × Int) => (⟨[(2, (V.sl 0 1 (List.map V.str a2))), (3, (V.ptr 3 0 0)), (7, (V.sl 0 1 (List.map V.str o8.1))), (8, (I o8.2)), (9, (V.sl 0 1 (List.map V.str o.1))), (10, (I o.2))], [(3, ⟨false, 4, [(enc_T_api_Form a0)]⟩)], 92⟩ : St)) := by
  refine rg ?_
  refine ra 2 2 ⟨[(1, (V.sl 0 1 (List.map V.str a1))), (2, (V.sl 0 1 (List.map V.str a2))), (3, (V.ptr 3 0 0)), (7, (V.sl 0 1 (List.map V.str o8.1))), (8, (I o8.2)), (33, (enc_T_api_Form a0)), (34, (V.sl 0 1 (List.map V.str a1)))], [(3, ⟨false, 4, [(enc_T_api_Form a0)]⟩)], 92⟩ rfl rfl rfl ?_
  refine Eq.trans (reg_pure (x := (ref24_Show k a0 a1)) (w := fun v9 => (V.tup [(V.sl 0 1 (List.map V.str v9.1)), (I v9.2)])) rfl rfl rfl rfl (p_call rfl rfl rfl rfl rfl (ref24_Show_ok k a0 a1) (.inl rfl))) ?_
  refine bindE (fun v9 => ?_)
  exact bind_end rfl
theorem f3r5 (k : Nat) (a0 : T_api_Form) (a2 : (List Str)) (o8 : (List Str) × Int) (o10 : (List Str) × Int) : RE k f3a5 f3o5 false ⟨[(2, (V.sl 0 1 (List.map V.str a2))), (3, (V.ptr 3 0 0)), (7, (V.sl 0 1 (List.map V.str o8.1))), (8, (I o8.2)), (9, (V.sl 0 1 (List.map V.str o10.1))), (10, (I o10.2))], [(3, ⟨false, 4, [(enc_T_api_Form a0)]⟩)], 92⟩ = (((ref01_SameTexts k o8.1 o10.1).bind fun v11 => (bif (!v11) then (some (true)) else (some ((o8.2 != o10.2)))))).map (fun (o : Bool) => (⟨[(2, (V.sl 0 1 (List.map V.str a2))), (3, (V.ptr 3 0 0)), (46, (V.bool o))], [(3, ⟨false, 4, [(enc_T_api_Form a0)]⟩)], 92⟩ : St)) := by
  refine rg ?_
  refine ra 2 2 ⟨[(2, (V.sl 0 1 (List.map V.str a2))), (3, (V.ptr 3 0 0)), (7, (V.sl 0 1 (List.map V.str o8.1))), (8, (I o8.2)), (9, (V.sl 0 1 (List.map V.str o10.1))), (10, (I o10.2)), (38, (V.sl 0 1 (List.map V.str o8.1))), (39, (V.sl 0 1 (List.map V.str o10.1)))], [(3, ⟨false, 4, [(enc_T_api_Form a0)]⟩)], 92⟩ rfl rfl rfl ?_
  refine Eq.trans (reg_pure (x := (ref01_SameTexts k o8.1 o10.1)) (w := fun v11 => (V.bool v11)) rfl rfl rfl rfl (p_call rfl rfl rfl rfl rfl (ref01_SameTexts_ok k o8.1 o10.1) (.inl rfl))) ?_
  refine bindE (fun v11 => ?_)
  refine ba 2 5 ⟨[(2, (V.sl 0 1 (List.map V.str a2))), (3, (V.ptr 3 0 0)), (7, (V.sl 0 1 (List.map V.str o8.1))), (8, (I o8.2)), (9, (V.sl 0 1 (List.map V.str o10.1))), (10, (I o10.2)), (38, (V.sl 0 1 (List.map V.str o8.1))), (39, (V.sl 0 1 (List.map V.str o10.1))), (40, (V.bool v11)), (41, (V.bool (!v11))), (42, (V.bool (!v11)))], [(3, ⟨false, 4, [(enc_T_api_Form a0)]⟩)], 92⟩ rfl rfl rfl ?_
  refine bifE (c := (!v11)) (fun hc => ?_) fun hc => ?_
  · rw [hc]
    exact reg_end rfl
  · rw [hc]
    exact reg_end rfl
theorem f3r6 (k : Nat) (a0 : T_api_Form) (a2 : (List Str)) : RE k f3a6 f3o6 false ⟨[(2, (V.sl 0 1 (List.map V.str a2))), (3, (V.ptr 3 0 0)), (46, (V.bool true))], [(3, ⟨false, 4, [(enc_T_api_Form a0)]⟩)], 92⟩ = some ⟨[(6, (V.bool false))], [], 92⟩ :=
  rE rfl
theorem f3r7 (k : Nat) (a0 : T_api_Form) (a2 : (List Str)) : RE k f3a7 f3o7 false ⟨[(2, (V.sl 0 1 (List.map V.str a2))), (3, (V.ptr 3 0 0)), (46, (V.bool false))], [(3, ⟨false, 4, [(enc_T_api_Form a0)]⟩)], 92⟩ = (((screen_Take k a0 a2).bind fun v13 => (some (v13.1, v13.2)))).map (fun (o : (List Str) × Int) => (⟨[(2, (V.sl 0 1 (List.map V.str a2))), (3, (V.ptr 3 0 0)), (7, (V.sl 0 1 (List.map V.str o.1))), (8, (I o.2))], [(3, ⟨false, 4, [(enc_T_api_Form a0)]⟩)], 92⟩ : St)) := by
  refine rg ?_
  refine ra 2 2 ⟨[(2, (V.sl 0 1 (List.map V.str a2))), (3, (V.ptr 3 0 0)), (46, (V.bool false)), (48, (enc_T_api_Form a0)), (49, (V.sl 0 1 (List.map V.str a2)))], [(3, ⟨false, 4, [(enc_T_api_Form a0)]⟩)], 92⟩ rfl rfl rfl ?_
  refine Eq.trans (reg_pure (x := (screen_Take k a0 a2)) (w := fun v13 => (V.tup [(V.sl 0 1 (List.map V.str v13.1)), (I v13.2)])) rfl rfl rfl rfl (p_call rfl rfl rfl rfl rfl (screen_Take_ok k a0 a2) (.inl rfl))) ?_
  refine bindE (fun v13 => ?_)
  exact bind_end rfl
theorem f3r8 (k : Nat) (a0 : T_api_Form) (a2 : (List Str)) (o14 : (List Str) × Int) : RE k f3a8 f3o8 false ⟨[(2, (V.sl 0 1 (List.map V.str a2))), (3, (V.ptr 3 0 0)), (7, (V.sl 0 1 (List.map V.str o14.1))), (8, (I o14.2))], [(3, ⟨false, 4, [(enc_T_api_Form a0)]⟩)], 92⟩ = (((ref24_Take k a0 a2).bind fun v15 => (some (v15.1, v15.2)))).map (fun (o : (List Str) × Int) => (⟨[(2, (V.sl 0 1 (List.map V.str a2))), (3, (V.ptr 3 0 0)), (7, (V.sl 0 1 (List.map V.str o14.1))), (8, (I o14.2)), (9, (V.sl 0 1 (List.map V.str o.1))), (10, (I o.2))], [(3, ⟨false, 4, [(enc_T_api_Form a0)]⟩)], 92⟩ : St)) := by
  refine rg ?_
  refine ra 2 2 ⟨[(2, (V.sl 0 1 (List.map V.str a2))), (3, (V.ptr 3 0 0)), (7, (V.sl 0 1 (List.map V.str o14.1))), (8, (I o14.2)), (54, (enc_T_api_Form a0)), (55, (V.sl 0 1 (List.map V.str a2)))], [(3, ⟨false, 4, [(enc_T_api_Form a0)]⟩)], 92⟩ rfl rfl rfl ?_
  refine Eq.trans (reg_pure (x := (ref24_Take k a0 a2)) (w := fun v15 => (V.tup [(V.sl 0 1 (List.map V.str v15.1)), (I v15.2)])) rfl rfl rfl rfl (p_call rfl rfl rfl rfl rfl (ref24_Take_ok k a0 a2) (.inl rfl))) ?_
  refine bindE (fun v15 => ?_)
  exact bind_end rfl
theorem f3r9 (k : Nat) (a0 : T_api_Form) (a2 : (List Str)) (o14 : (List Str) × Int) (o16 : (List Str) × Int) : RE k f3a9 f3o9 false ⟨[(2, (V.sl 0 1 (List.map V.str a2))), (3, (V.ptr 3 0 0)), (7, (V.sl 0 1 (List.map V.str o14.1))), (8, (I o14.2)), (9, (V.sl 0 1 (List.map V.str o16.1))), (10, (I o16.2))], [(3, ⟨false, 4, [(enc_T_api_Form a0)]⟩)], 92⟩ = (((screen_IsPicture k a0 a2).bind fun v17 => (some (v17.1, v17.2)))).map (fun (o : Bool × Int) => (⟨[(2, (V.sl 0 1 (List.map V.str a2))), (3, (V.ptr 3 0 0)), (7, (V.sl 0 1 (List.map V.str o14.1))), (8, (I o14.2)), (9, (V.sl 0 1 (List.map V.str o16.1))), (10, (I o16.2)), (11, (V.bool o.1)), (12, (I o.2))], [(3, ⟨false, 4, [(enc_T_api_Form a0)]⟩)], 92⟩ : St)) := by
  refine rg ?_
  refine ra 2 2 ⟨[(2, (V.sl 0 1 (List.map V.str a2))), (3, (V.ptr 3 0 0)), (7, (V.sl 0 1 (List.map V.str o14.1))), (8, (I o14.2)), (9, (V.sl 0 1 (List.map V.str o16.1))), (10, (I o16.2)), (60, (enc_T_api_Form a0)), (61, (V.sl 0 1 (List.map V.str a2)))], [(3, ⟨false, 4, [(enc_T_api_Form a0)]⟩)], 92⟩ rfl rfl rfl ?_
  refine Eq.trans (reg_pure (x := (screen_IsPicture k a0 a2)) (w := fun v17 => (V.tup [(V.bool v17.1), (I v17.2)])) rfl rfl rfl rfl (p_call rfl rfl rfl rfl rfl (screen_IsPicture_ok k a0 a2) (.inl rfl))) ?_
  refine bindE (fun v17 => ?_)
  exact bind_end rfl
theorem f3r10 (k : Nat) (a0 : T_api_Form) (a2 : (List Str)) (o14 : (List Str) × Int) (o16 : (List Str) × Int) (o18 : Bool × Int) : RE k f3a10 f3o10 false ⟨[(2, (V.sl 0 1 (List.map V.str a2))), (3, (V.ptr 3 0 0)), (7, (V.sl 0 1 (List.map V.str o14.1))), (8, (I o14.2)), (9, (V.sl 0 1 (List.map V.str o16.1))), (10, (I o16.2)), (11, (V.bool o18.1)), (12, (I o18.2))], [(3, ⟨false, 4, [(enc_T_api_Form a0)]⟩)], 92⟩ = (((ref24_IsPicture k a0 a2).bind fun v19 => (some (v19.1, v19.2)))).map (fun (o : Bool × Int) => (⟨[(7, (V.sl 0 1 (List.map V.str o14.1))), (8, (I o14.2)), (9, (V.sl 0 1 (List.map V.str o16.1))), (10, (I o16.2)), (11, (V.bool o18.1)), (12, (I o18.2)), (13, (V.bool o.1)), (14, (I o.2))], [], 92⟩ : St)) := by
  refine rg ?_
  refine ra 2 2 ⟨[(2, (V.sl 0 1 (List.map V.str a2))), (3, (V.ptr 3 0 0)), (7, (V.sl 0 1 (List.map V.str o14.1))), (8, (I o14.2)), (9, (V.sl 0 1 (List.map V.str o16.1))), (10, (I o16.2)), (11, (V.bool o18.1)), (12, (I o18.2)), (66, (enc_T_api_Form a0)), (67, (V.sl 0 1 (List.map V.str a2)))], [(3, ⟨false, 4, [(enc_T_api_Form a0)]⟩)], 92⟩ rfl rfl rfl ?_
  refine Eq.trans (reg_pure (x := (ref24_IsPicture k a0 a2)) (w := fun v19 => (V.tup [(V.bool v19.1), (I v19.2)])) rfl rfl rfl rfl (p_call rfl rfl rfl rfl rfl (ref24_IsPicture_ok k a0 a2) (.inl rfl))) ?_
  refine bindE (fun v19 => ?_)
  exact bind_end rfl
theorem f3r11 (k : Nat) (o14 : (List Str) × Int) (o16 : (List Str) × Int) (o18 : Bool × Int) (o20 : Bool × Int) : RE k f3a11 f3o11 false ⟨[(7, (V.sl 0 1 (List.map V.str o14.1))), (8, (I o14.2)), (9, (V.sl 0 1 (List.map V.str o16.1))), (10, (I o16.2)), (11, (V.bool o18.1)), (12, (I o18.2)), (13, (V.bool o20.1)), (14, (I o20.2))], [], 92⟩ = (((ref01_SameTexts k o14.1 o16.1).bind fun v21 => (bif v21 then (bif (o14.2 == o16.2) then (bif (o18.1 == o20.1) then (bif (o18.2 == o20.2) then (law24_Awake k) else (some (false))) else (some (false))) else (some (false))) else (some (false))))).map (fun (o : Bool) => (⟨[(6, (V.bool o))], [], 92⟩ : St)) := by
  refine rg ?_
  refine ra 2 2 ⟨[(7, (V.sl 0 1 (List.map V.str o14.1))), (8, (I o14.2)), (9, (V.sl 0 1 (List.map V.str o16.1))), (10, (I o16.2)), (11, (V.bool o18.1)), (12, (I o18.2)), (13, (V.bool o20.1)), (14, (I o20.2)), (71, (V.sl 0 1 (List.map V.str o14.1))), (72, (V.sl 0 1 (List.map V.str o16.1)))], [], 92⟩ rfl rfl rfl ?_
  refine Eq.trans (reg_pure (x := (ref01_SameTexts k o14.1 o16.1)) (w := fun v21 => (V.bool v21)) rfl rfl rfl rfl (p_call rfl rfl rfl rfl rfl (ref01_SameTexts_ok k o14.1 o16.1) (.inl rfl))) ?_
  refine bindE (fun v21 => ?_)
  refine ba 1 4 ⟨[(7, (V.sl 0 1 (List.map V.str o14.1))), (8, (I o14.2)), (9, (V.sl 0 1 (List.map V.str o16.1))), (10, (I o16.2)), (11, (V.bool o18.1)), (12, (I o18.2)), (13, (V.bool o20.1)), (14, (I o20.2)), (71, (V.sl 0 1 (List.map V.str o14.1))), (72, (V.sl 0 1 (List.map V.str o16.1))), (73, (V.bool v21)), (74, (V.bool v21))], [], 92⟩ rfl rfl rfl ?_
  refine bifE (c := v21) (fun hc => ?_) fun hc => ?_
  · rw [hc]
    refine ra 5 9 ⟨[(7, (V.sl 0 1 (List.map V.str o14.1))), (8, (I o14.2)), (9, (V.sl 0 1 (List.map V.str o16.1))), (10, (I o16.2)), (11, (V.bool o18.1)), (12, (I o18.2)), (13, (V.bool o20.1)), (14, (I o20.2)), (71, (V.sl 0 1 (List.map V.str o14.1))), (72, (V.sl 0 1 (List.map V.str o16.1))), (73, (V.bool true)), (74, (V.bool true)), (75, (I o14.2)), (76, (I o16.2)), (77, (V.bool (o14.2 == o16.2))), (78, (V.bool (o14.2 == o16.2))), (79, (V.bool (o14.2 == o16.2)))], [], 92⟩ rfl rfl rfl ?_
    refine bifE (c := (o14.2 == o16.2)) (fun hc => ?_) fun hc => ?_
    · rw [hc]
      refine ra 5 14 ⟨[(7, (V.sl 0 1 (List.map V.str o14.1))), (8, (I o14.2)), (9, (V.sl 0 1 (List.map V.str o16.1))), (10, (I o16.2)), (11, (V.bool o18.1)), (12, (I o18.2)), (13, (V.bool o20.1)), (14, (I o20.2)), (71, (V.sl 0 1 (List.map V.str o14.1))), (72, (V.sl 0 1 (List.map V.str o16.1))), (73, (V.bool true)), (74, (V.bool true)), (75, (I o14.2)), (76, (I o16.2)), (77, (V.bool true)), (78, (V.bool true)), (79, (V.bool true)), (80, (V.bool o18.1)), (81, (V.bool o20.1)), (82, (V.bool (o18.1 == o20.1))), (83, (V.bool (o18.1 == o20.1))), (84, (V.bool (o18.1 == o20.1)))], [], 92⟩ rfl rfl rfl ?_
      refine bifE (c := (o18.1 == o20.1)) (fun hc => ?_) fun hc => ?_
      · rw [hc]
        refine ra 5 19 ⟨[(7, (V.sl 0 1 (List.map V.str o14.1))), (8, (I o14.2)), (9, (V.sl 0 1 (List.map V.str o16.1))), (10, (I o16.2)), (11, (V.bool o18.1)), (12, (I o18.2)), (13, (V.bool o20.1)), (14, (I o20.2)), (71, (V.sl 0 1 (List.map V.str o14.1))), (72, (V.sl 0 1 (List.map V.str o16.1))), (73, (V.bool true)), (74, (V.bool true)), (75, (I o14.2)), (76, (I o16.2)), (77, (V.bool true)), (78, (V.bool true)), (79, (V.bool true)), (80, (V.bool o18.1)), (81, (V.bool o20.1)), (82, (V.bool true)), (83, (V.bool true)), (84, (V.bool true)), (85, (I o18.2)), (86, (I o20.2)), (87, (V.bool (o18.2 == o20.2))), (88, (V.bool (o18.2 == o20.2))), (89, (V.bool (o18.2 == o20.2)))], [], 92⟩ rfl rfl rfl ?_
        refine bifE (c := (o18.2 == o20.2)) (fun hc => ?_) fun hc => ?_
        · rw [hc]
          refine Eq.trans (reg_pure (x := (law24_Awake k)) (w := fun v22 => (V.bool v22)) rfl rfl rfl rfl (p_call rfl rfl rfl rfl rfl (law24_Awake_ok k) (.inl rfl))) ?_
          refine bind_self (fun v22 => ?_)
          exact bind_end rfl
        · rw [hc]
          exact reg_end rfl
      · rw [hc]
        exact reg_end rfl
    · rw [hc]
      exact reg_end rfl
  · rw [hc]
    exact reg_end rfl
theorem law24_ScreenShows_ok (k : Nat) (a0 : T_api_Form) (a1 : (List Str)) (a2 : (List Str)) : EV k 3 [(enc_T_api_Form a0), (V.sl 0 1 (List.map V.str a1)), (V.sl 0 1 (List.map V.str a2))] = (law24_ScreenShows k a0 a1 a2).map law24_ScreenShows_fin := by
  cases k with
  | zero => rfl
  | succ k =>
    unfold law24_ScreenShows
    refine Eq.trans (evF_succ (c := f3c) (N := 92) (regs := f3n) rfl Go.Proofs.Try.func3 rfl (by decide) rfl rfl rfl) ?_
    refine Eq.trans (k_region0 rfl (f3r0 k a0 a1 a2)) ?_
    refine Eq.trans k_assoc ?_
    refine Eq.trans (k_region rfl (f3r1 k a0 a1 a2)) ?_
    refine bindE (fun o4 => ?_)
    refine Eq.trans (k_cond (t := o4) rfl rfl) ?_
    refine bifE2 (fun hc => ?_) fun hc => ?_
    · rw [hc]
      refine Eq.trans k_assoc ?_
      refine Eq.trans (k_region rfl (f3r2 k a0 a1 a2)) ?_
      refine bindE (fun o6 => ?_)
      refine Eq.trans k_ret ?_
      rfl
    · rw [hc]
      refine Eq.trans k_skip ?_
      refine Eq.trans (k_region rfl (f3r3 k a0 a1 a2)) ?_
      refine bindE (fun o8 => ?_)
      refine Eq.trans (k_region rfl (f3r4 k a0 a1 a2 o8)) ?_
      refine bindE (fun o10 => ?_)
      refine Eq.trans k_assoc ?_
      refine Eq.trans (k_region rfl (f3r5 k a0 a2 o8 o10)) ?_
      refine bindE (fun o12 => ?_)
      refine Eq.trans (k_cond (t := o12) rfl rfl) ?_
      refine bifE2 (fun hc => ?_) fun hc => ?_
      · rw [hc]
        refine Eq.trans k_assoc ?_
        refine Eq.trans (k_region0 rfl (f3r6 k a0 a2)) ?_
        refine Eq.trans k_ret ?_
        rfl
      · rw [hc]
        refine Eq.trans k_skip ?_
        refine Eq.trans (k_region rfl (f3r7 k a0 a2)) ?_
        refine bindE (fun o14 => ?_)
        refine Eq.trans (k_region rfl (f3r8 k a0 a2 o14)) ?_
        refine bindE (fun o16 => ?_)
        refine Eq.trans (k_region rfl (f3r9 k a0 a2 o14 o16)) ?_
        refine bindE (fun o18 => ?_)
        refine Eq.trans (k_region rfl (f3r10 k a0 a2 o14 o16 o18)) ?_
        refine bindE (fun o20 => ?_)
        refine Eq.trans (k_region rfl (f3r11 k o14 o16 o18 o20)) ?_
        refine bindE (fun o23 => ?_)
        refine Eq.trans k_lret ?_
        rfl
end
end Go.AE
