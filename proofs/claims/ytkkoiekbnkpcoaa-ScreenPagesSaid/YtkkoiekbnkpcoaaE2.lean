/- The program, function by function: the evaluator comes to the typed functions. Conditions: none. -/
import Derived.Test.YtkkoiekbnkpcoaaA3
import Derived.KernelRfl
import Derived.Test.YtkkoiekbnkpcoaaProg
import Derived.Test.YtkkoiekbnkpcoaaB1
import Derived.Test.YtkkoiekbnkpcoaaE1
namespace Go.AE
open Go.Proofs.Try Go.Sh
set_option linter.unusedSimpArgs false
set_option linter.unusedVariables false
set_option maxRecDepth 100000
set_option maxHeartbeats 4000000
noncomputable section
theorem screen_show_ok (k : Nat) (a0 : T_api_Form) (a1 : (List Str)) : EV k 35 [(enc_T_api_Form a0), (V.sl 0 1 (List.map V.str a1))] = (screen_show k a0 a1).map screen_show_fin := by
  cases k with
  | zero => rfl
  | succ k =>
    unfold screen_show
    refine Eq.trans (evF_succ (c := f35c) (N := 60) (regs := f35n) rfl Go.Proofs.Try.func35 rfl (by decide) rfl rfl rfl) ?_
    refine Eq.trans (k_region0 rfl (f35r0 k a0 a1)) ?_
    refine Eq.trans (k_region rfl (f35r1 k a0 a1)) ?_
    refine bindE (fun o3 => ?_)
    refine Eq.trans k_assoc ?_
    refine Eq.trans (k_region0 rfl (f35r2 k a0 a1 o3)) ?_
    refine Eq.trans (k_block rfl) ?_
    refine Eq.trans k_loop ?_
    refine screen_show_L1_ok k a0 a1 _ _ ?h_screen_show_L1_0 ?hr_screen_show_L1 k o3 0
    · intro y14 y15
      refine Eq.trans blk_exit ?_
      refine Eq.trans k_assoc ?_
      refine Eq.trans (k_region0 rfl (f35r7 k a0 a1 y14 y15)) ?_
      refine Eq.trans (k_block rfl) ?_
      refine Eq.trans k_loop ?_
      refine screen_show_L2_ok k a0 a1 _ _ ?h_screen_show_L2_0 ?hr_screen_show_L2 k y14 0
      · intro y38 y39
        refine Eq.trans blk_exit ?_
        refine Eq.trans (k_region0 rfl (f35r15 k a0 a1 y38 y39)) ?_
        refine Eq.trans k_lret ?_
        rfl
      · intro s; exact rfl
    · intro s; exact rfl
def screen_Show_fin : ((List Str) × Int) → V × List V := fun r => (.tup [(V.sl 0 1 (List.map V.str r.1)), (I r.2)], [])
theorem f11r0 (k : Nat) (a0 : T_api_Form) (a1 : (List Str)) : RE k f11a0 f11o0 false ⟨[(0, (enc_T_api_Form a0)), (1, (V.sl 0 1 (List.map V.str a1)))], [], 16⟩ = some ⟨[(1, (V.sl 0 1 (List.map V.str a1))), (2, (V.ptr 2 0 0))], [(2, ⟨false, 4, [(enc_T_api_Form a0)]⟩)], 16⟩ :=
  rE rfl
theorem f11r1 (k : Nat) (a0 : T_api_Form) (a1 : (List Str)) : RE k f11a1 f11o1 false ⟨[(1, (V.sl 0 1 (List.map V.str a1))), (2, (V.ptr 2 0 0))], [(2, ⟨false, 4, [(enc_T_api_Form a0)]⟩)], 16⟩ = ((screen_shows k a0 a1)).map (fun (o : Int) => (⟨[(1, (V.sl 0 1 (List.map V.str a1))), (2, (V.ptr 2 0 0)), (6, (I o))], [(2, ⟨false, 4, [(enc_T_api_Form a0)]⟩)], 16⟩ : St)) := by
  refine rg ?_
  refine ra 2 2 ⟨[(1, (V.sl 0 1 (List.map V.str a1))), (2, (V.ptr 2 0 0)), (7, (enc_T_api_Form a0)), (8, (V.sl 0 1 (List.map V.str a1)))], [(2, ⟨false, 4, [(enc_T_api_Form a0)]⟩)], 16⟩ rfl rfl rfl ?_
  refine Eq.trans (reg_pure (x := (screen_shows k a0 a1)) (w := fun v1 => (I v1)) rfl rfl rfl rfl (p_call rfl rfl rfl rfl rfl (screen_shows_ok k a0 a1) (.inl rfl))) ?_
  refine bind_self (fun v1 => ?_)
  exact bind_end rfl
theorem f11r2 (k : Nat) (a0 : T_api_Form) (a1 : (List Str)) (o2 : Int) : RE k f11a2 f11o2 false ⟨[(1, (V.sl 0 1 (List.map V.str a1))), (2, (V.ptr 2 0 0)), (6, (I o2))], [(2, ⟨false, 4, [(enc_T_api_Form a0)]⟩)], 16⟩ = some ⟨[(1, (V.sl 0 1 (List.map V.str a1))), (2, (V.ptr 2 0 0)), (6, (I o2)), (11, (V.bool (o2 != 0)))], [(2, ⟨false, 4, [(enc_T_api_Form a0)]⟩)], 16⟩ :=
  rE rfl
theorem f11r3 (k : Nat) (a0 : T_api_Form) (a1 : (List Str)) (o2 : Int) : RE k f11a3 f11o3 false ⟨[(1, (V.sl 0 1 (List.map V.str a1))), (2, (V.ptr 2 0 0)), (6, (I o2)), (11, (V.bool true))], [(2, ⟨false, 4, [(enc_T_api_Form a0)]⟩)], 16⟩ = some ⟨[(4, (V.sl 0 1 (List.map V.str ([] : List Str)))), (5, (I o2))], [], 16⟩ :=
  rE rfl
theorem f11r4 (k : Nat) (a0 : T_api_Form) (a1 : (List Str)) (o2 : Int) : RE k f11a4 f11o4 false ⟨[(1, (V.sl 0 1 (List.map V.str a1))), (2, (V.ptr 2 0 0)), (6, (I o2)), (11, (V.bool false))], [(2, ⟨false, 4, [(enc_T_api_Form a0)]⟩)], 16⟩ = (((screen_show k a0 a1).bind fun v3 => (some (v3, 0)))).map (fun (o : (List Str) × Int) => (⟨[(4, (V.sl 0 1 (List.map V.str o.1))), (5, (I o.2))], [], 16⟩ : St)) := by
  refine rg ?_
  refine ra 2 2 ⟨[(1, (V.sl 0 1 (List.map V.str a1))), (2, (V.ptr 2 0 0)), (6, (I o2)), (11, (V.bool false)), (13, (enc_T_api_Form a0)), (14, (V.sl 0 1 (List.map V.str a1)))], [(2, ⟨false, 4, [(enc_T_api_Form a0)]⟩)], 16⟩ rfl rfl rfl ?_
  refine Eq.trans (reg_pure (x := (screen_show k a0 a1)) (w := fun v3 => (V.sl 0 1 (List.map V.str v3))) rfl rfl rfl rfl (p_call rfl rfl rfl rfl rfl (screen_show_ok k a0 a1) (.inl rfl))) ?_
  refine bindE (fun v3 => ?_)
  exact bind_end rfl
theorem screen_Show_ok (k : Nat) (a0 : T_api_Form) (a1 : (List Str)) : EV k 11 [(enc_T_api_Form a0), (V.sl 0 1 (List.map V.str a1))] = (screen_Show k a0 a1).map screen_Show_fin := by
  cases k with
  | zero => rfl
  | succ k =>
    unfold screen_Show
    refine Eq.trans (evF_succ (c := f11c) (N := 16) (regs := f11n) rfl Go.Proofs.Try.func11 rfl (by decide) rfl rfl rfl) ?_
    refine Eq.trans (k_region0 rfl (f11r0 k a0 a1)) ?_
    refine Eq.trans k_assoc ?_
    refine Eq.trans (k_region rfl (f11r1 k a0 a1)) ?_
    refine bindE (fun o2 => ?_)
    refine Eq.trans k_assoc ?_
    refine Eq.trans (k_region0 rfl (f11r2 k a0 a1 o2)) ?_
    refine Eq.trans (k_cond (t := (o2 != 0)) rfl rfl) ?_
    refine bifE2 (fun hc => ?_) fun hc => ?_
    · rw [hc]
      refine Eq.trans k_assoc ?_
      refine Eq.trans (k_region0 rfl (f11r3 k a0 a1 o2)) ?_
      refine Eq.trans k_ret ?_
      rfl
    · rw [hc]
      refine Eq.trans k_skip ?_
      refine Eq.trans (k_region rfl (f11r4 k a0 a1 o2)) ?_
      refine bindE (fun o4 => ?_)
      refine Eq.trans k_lret ?_
      rfl
def slices_IndexFunc_string_fin : Int → V × List V := fun r => ((I r), [])
theorem f78r0 (k : Nat) (a0 : (List Str)) (a1 : Nat → Str → Option Bool) (a1_fid : Go.FuncId) (a1_c0 : V) (a1_hok : ∀ j x0, EV j a1_fid [(V.str x0), V.pro a1_c0] = (a1 j x0).map fun b => ((V.bool b), [])) : RE k f78a0 f78o0 false ⟨[(0, (V.sl 0 1 (List.map V.str a0))), (1, (V.fn a1_fid [] [V.pro a1_c0]))], [], 19⟩ = some ⟨[(0, (V.sl 0 1 (List.map V.str a0))), (1, (V.fn a1_fid [] [V.pro a1_c0]))], [], 19⟩ :=
  rE rfl
theorem f78r1 (k : Nat) (a0 : (List Str)) (a1 : Nat → Str → Option Bool) (a1_fid : Go.FuncId) (a1_c0 : V) (a1_hok : ∀ j x0, EV j a1_fid [(V.str x0), V.pro a1_c0] = (a1 j x0).map fun b => ((V.bool b), [])) : RE k f78a1 f78o1 false ⟨[(0, (V.sl 0 1 (List.map V.str a0))), (1, (V.fn a1_fid [] [V.pro a1_c0]))], [], 19⟩ = some ⟨[(0, (V.sl 0 1 (List.map V.str a0))), (1, (V.fn a1_fid [] [V.pro a1_c0])), (7, (I (a0.length : Int))), (8, (I 0))], [], 19⟩ := by
  refine rg ?_
  refine ra 1 1 ⟨[(0, (V.sl 0 1 (List.map V.str a0))), (1, (V.fn a1_fid [] [V.pro a1_c0])), (6, (V.sl 0 1 (List.map V.str a0)))], [], 19⟩ rfl rfl rfl ?_
  refine Eq.trans (reg_pure (x := some ()) (w := fun _ => (I (a0.length : Int))) rfl rfl rfl rfl (p_len (e := V.str) rfl rfl rfl rfl rfl rfl Go.Proofs.Try.underlying26)) ?_
  refine Eq.trans some_bind ?_
  exact bind_end rfl
theorem f78r2 (k : Nat) (a0 : (List Str)) (x4 : Int) (a1 : Nat → Str → Option Bool) (a1_fid : Go.FuncId) (a1_c0 : V) (a1_hok : ∀ j x0, EV j a1_fid [(V.str x0), V.pro a1_c0] = (a1 j x0).map fun b => ((V.bool b), [])) : RE k f78a2 f78o2 false ⟨[(0, (V.sl 0 1 (List.map V.str a0))), (1, (V.fn a1_fid [] [V.pro a1_c0])), (7, (I (a0.length : Int))), (8, (I x4))], [], 19⟩ = some ⟨[(0, (V.sl 0 1 (List.map V.str a0))), (1, (V.fn a1_fid [] [V.pro a1_c0])), (7, (I (a0.length : Int))), (8, (I x4)), (9, (V.bool (decide (x4 < (a0.length : Int)))))], [], 19⟩ :=
  rE rfl
theorem f78r3 (k : Nat) (a0 : (List Str)) (x4 : Int) (a1 : Nat → Str → Option Bool) (a1_fid : Go.FuncId) (a1_c0 : V) (a1_hok : ∀ j x0, EV j a1_fid [(V.str x0), V.pro a1_c0] = (a1 j x0).map fun b => ((V.bool b), [])) : RE k f78a3 f78o3 false ⟨[(0, (V.sl 0 1 (List.map V.str a0))), (1, (V.fn a1_fid [] [V.pro a1_c0])), (7, (I (a0.length : Int))), (8, (I x4)), (9, (V.bool true))], [], 19⟩ = some ⟨[(0, (V.sl 0 1 (List.map V.str a0))), (1, (V.fn a1_fid [] [V.pro a1_c0])), (5, (I x4)), (7, (I (a0.length : Int))), (8, (I x4))], [], 19⟩ :=
  rE rfl
theorem f78r4 (k : Nat) (a0 : (List Str)) (x4 : Int) (a1 : Nat → Str → Option Bool) (a1_fid : Go.FuncId) (a1_c0 : V) (a1_hok : ∀ j x0, EV j a1_fid [(V.str x0), V.pro a1_c0] = (a1 j x0).map fun b => ((V.bool b), [])) : RE k f78a4 f78o4 false ⟨[(0, (V.sl 0 1 (List.map V.str a0))), (1, (V.fn a1_fid [] [V.pro a1_c0])), (5, (I x4)), (7, (I (a0.length : Int))), (8, (I x4))], [], 19⟩ = (((idx a0 x4).bind fun v5 => (a1 k v5))).map (fun (o : Bool) => (⟨[(0, (V.sl 0 1 (List.map V.str a0))), (1, (V.fn a1_fid [] [V.pro a1_c0])), (5, (I x4)), (7, (I (a0.length : Int))), (8, (I x4)), (16, (V.bool o))], [], 19⟩ : St)) := by
  refine rg ?_
  refine ra 3 3 ⟨[(0, (V.sl 0 1 (List.map V.str a0))), (1, (V.fn a1_fid [] [V.pro a1_c0])), (5, (I x4)), (7, (I (a0.length : Int))), (8, (I x4)), (11, (V.fn a1_fid [] [V.pro a1_c0])), (12, (V.sl 0 1 (List.map V.str a0))), (13, (I x4))], [], 19⟩ rfl rfl rfl ?_
  refine Eq.trans (reg_pure (x := (idx a0 x4)) (w := fun v5 => (V.pro (V.str v5))) rfl rfl rfl rfl (p_index (e := V.str) rfl rfl rfl Go.Proofs.Try.underlying26 rfl (by decide))) ?_
  refine bindE (fun v5 => ?_)
  refine ba 1 5 ⟨[(0, (V.sl 0 1 (List.map V.str a0))), (1, (V.fn a1_fid [] [V.pro a1_c0])), (5, (I x4)), (7, (I (a0.length : Int))), (8, (I x4)), (11, (V.fn a1_fid [] [V.pro a1_c0])), (12, (V.sl 0 1 (List.map V.str a0))), (13, (I x4)), (14, (V.pro (V.str v5))), (15, (V.str v5))], [], 19⟩ rfl rfl rfl ?_
  refine Eq.trans (reg_pure (x := (a1 k v5)) (w := fun v6 => (V.bool v6)) rfl rfl rfl rfl (p_call rfl rfl rfl rfl rfl (a1_hok k v5) (.inl rfl))) ?_
  refine bind_self (fun v6 => ?_)
  exact bind_end rfl
theorem f78r5 (k : Nat) (a0 : (List Str)) (x4 : Int) (a1 : Nat → Str → Option Bool) (a1_fid : Go.FuncId) (a1_c0 : V) (a1_hok : ∀ j x0, EV j a1_fid [(V.str x0), V.pro a1_c0] = (a1 j x0).map fun b => ((V.bool b), [])) : RE k f78a5 f78o5 false ⟨[(0, (V.sl 0 1 (List.map V.str a0))), (1, (V.fn a1_fid [] [V.pro a1_c0])), (5, (I x4)), (7, (I (a0.length : Int))), (8, (I x4)), (16, (V.bool true))], [], 19⟩ = some ⟨[(4, (I x4))], [], 19⟩ :=
  rE rfl
theorem f78r6 (k : Nat) (a0 : (List Str)) (x4 : Int) (a1 : Nat → Str → Option Bool) (a1_fid : Go.FuncId) (a1_c0 : V) (a1_hok : ∀ j x0, EV j a1_fid [(V.str x0), V.pro a1_c0] = (a1 j x0).map fun b => ((V.bool b), [])) : RE k f78a6 f78o6 false ⟨[(0, (V.sl 0 1 (List.map V.str a0))), (1, (V.fn a1_fid [] [V.pro a1_c0])), (5, (I x4)), (7, (I (a0.length : Int))), (8, (I x4)), (16, (V.bool false))], [], 19⟩ = some ⟨[(0, (V.sl 0 1 (List.map V.str a0))), (1, (V.fn a1_fid [] [V.pro a1_c0])), (7, (I (a0.length : Int))), (8, (I (Go.IntKind.wrap .i64 (x4 + 1))))], [], 19⟩ :=
  rE rfl
theorem slices_IndexFunc_string_L1_ok (k : Nat) (a0 : (List Str)) (a1 : Nat → Str → Option Bool) (a1_fid : Go.FuncId) (a1_c0 : V) (a1_hok : ∀ j x0, EV j a1_fid [(V.str x0), V.pro a1_c0] = (a1 j x0).map fun b => ((V.bool b), [])) (K0 : Int → Option Int) (Kst : X × St → Option (V × List V)) (hK0 : ∀ (y0 : Int), Kst (X.exit 0, ⟨[(0, (V.sl 0 1 (List.map V.str a0))), (1, (V.fn a1_fid [] [V.pro a1_c0])), (7, (I (a0.length : Int))), (8, (I y0)), (9, (V.bool false))], [], 19⟩) = (K0 y0).map slices_IndexFunc_string_fin) (hret : ∀ s, Kst (X.ret, s) = endK prog 19 [(V.sl 0 1 (List.map V.str a0)), (V.fn a1_fid [] [V.pro a1_c0])] [] [.tmp 4] (X.ret, s)) :
    ∀ (m : Nat) (x4 : Int), (iter (exec prog (EV k) f78n k f78b0) m ⟨[(0, (V.sl 0 1 (List.map V.str a0))), (1, (V.fn a1_fid [] [V.pro a1_c0])), (7, (I (a0.length : Int))), (8, (I x4))], [], 19⟩).bind Kst = (slices_IndexFunc_string_L1 k a0 a1 K0 m x4).map slices_IndexFunc_string_fin := by
  intro m
  induction m with
  | zero => intros; rfl
  | succ m ih =>
    intro x4
    unfold slices_IndexFunc_string_L1
    refine Eq.trans k_round ?_
    refine Eq.trans (k_region0 rfl (f78r2 k a0 x4 a1 a1_fid a1_c0 a1_hok)) ?_
    refine Eq.trans (k_cond (t := (decide (x4 < (a0.length : Int)))) rfl rfl) ?_
    refine bifE2 (fun hc => ?_) fun hc => ?_
    · rw [hc]
      refine Eq.trans k_skip ?_
      refine Eq.trans (k_block rfl) ?_
      refine Eq.trans (k_region0 rfl (f78r3 k a0 x4 a1 a1_fid a1_c0 a1_hok)) ?_
      refine Eq.trans (k_region rfl (f78r4 k a0 x4 a1 a1_fid a1_c0 a1_hok)) ?_
      refine bindE (fun o7 => ?_)
      refine Eq.trans (k_lcond (t := o7) rfl rfl) ?_
      refine bifE2 (fun hc => ?_) fun hc => ?_
      · rw [hc]
        refine Eq.trans (k_region0 rfl (f78r5 k a0 x4 a1 a1_fid a1_c0 a1_hok)) ?_
        refine Eq.trans k_lret ?_
        refine Eq.trans blk_ret ?_
        refine Eq.trans loop_ret ?_
        refine Eq.trans (hret _) ?_
        rfl
      · rw [hc]
        refine Eq.trans k_lskip ?_
        refine Eq.trans blk_normal ?_
        refine Eq.trans (k_lregion0 rfl (f78r6 k a0 x4 a1 a1_fid a1_c0 a1_hok)) ?_
        refine Eq.trans loop_normal ?_
        exact ih (Go.IntKind.wrap .i64 (x4 + 1))
    · rw [hc]
      refine Eq.trans k_exit ?_
      refine Eq.trans loop_exit ?_
      exact hK0 x4
theorem f78r7 (k : Nat) (a0 : (List Str)) (y8 : Int) (a1 : Nat → Str → Option Bool) (a1_fid : Go.FuncId) (a1_c0 : V) (a1_hok : ∀ j x0, EV j a1_fid [(V.str x0), V.pro a1_c0] = (a1 j x0).map fun b => ((V.bool b), [])) : RE k f78a7 f78o7 false ⟨[(0, (V.sl 0 1 (List.map V.str a0))), (1, (V.fn a1_fid [] [V.pro a1_c0])), (7, (I (a0.length : Int))), (8, (I y8)), (9, (V.bool false))], [], 19⟩ = some ⟨[(4, (I (-1)))], [], 19⟩ :=
  rE rfl
theorem slices_IndexFunc_string_ok (k : Nat) (a0 : (List Str)) (a1 : Nat → Str → Option Bool) (a1_fid : Go.FuncId) (a1_c0 : V) (a1_hok : ∀ j x0, EV j a1_fid [(V.str x0), V.pro a1_c0] = (a1 j x0).map fun b => ((V.bool b), [])) : EV k 78 [(V.sl 0 1 (List.map V.str a0)), (V.fn a1_fid [] [V.pro a1_c0])] = (slices_IndexFunc_string k a0 a1).map slices_IndexFunc_string_fin := by
  cases k with
  | zero => rfl
  | succ k =>
    unfold slices_IndexFunc_string
    refine Eq.trans (evF_succ (c := f78c) (N := 19) (regs := f78n) rfl Go.Proofs.Try.func78 rfl (by decide) rfl rfl rfl) ?_
    refine Eq.trans (k_region0 rfl (f78r0 k a0 a1 a1_fid a1_c0 a1_hok)) ?_
    refine Eq.trans k_assoc ?_
    refine Eq.trans (k_region0 rfl (f78r1 k a0 a1 a1_fid a1_c0 a1_hok)) ?_
    refine Eq.trans (k_block rfl) ?_
    refine Eq.trans k_loop ?_
    refine slices_IndexFunc_string_L1_ok k a0 a1 a1_fid a1_c0 a1_hok _ _ ?h_slices_IndexFunc_string_L1_0 ?hr_slices_IndexFunc_string_L1 k 0
    · intro y8
      refine Eq.trans blk_exit ?_
      refine Eq.trans (k_region0 rfl (f78r7 k a0 y8 a1 a1_fid a1_c0 a1_hok)) ?_
      refine Eq.trans k_lret ?_
      rfl
    · intro s; exact rfl
def slices_ContainsFunc_string_fin : Bool → V × List V := fun r => ((V.bool r), [])
theorem f65r0 (k : Nat) (a0 : (List Str)) (a1 : Nat → Str → Option Bool) (a1_fid : Go.FuncId) (a1_c0 : V) (a1_hok : ∀ j x0, EV j a1_fid [(V.str x0), V.pro a1_c0] = (a1 j x0).map fun b => ((V.bool b), [])) : RE k f65a0 f65o0 false ⟨[(0, (V.sl 0 1 (List.map V.str a0))), (1, (V.fn a1_fid [] [V.pro a1_c0]))], [], 9⟩ = some ⟨[(0, (V.sl 0 1 (List.map V.str a0))), (1, (V.fn a1_fid [] [V.pro a1_c0]))], [], 9⟩ :=
  rE rfl
theorem f65r1 (k : Nat) (a0 : (List Str)) (a1 : Nat → Str → Option Bool) (a1_fid : Go.FuncId) (a1_c0 : V) (a1_hok : ∀ j x0, EV j a1_fid [(V.str x0), V.pro a1_c0] = (a1 j x0).map fun b => ((V.bool b), [])) : RE k f65a1 f65o1 false ⟨[(0, (V.sl 0 1 (List.map V.str a0))), (1, (V.fn a1_fid [] [V.pro a1_c0]))], [], 9⟩ = (((slices_IndexFunc_string k a0 a1).bind fun v1 => (some ((decide (v1 ≥ 0)))))).map (fun (o : Bool) => (⟨[(4, (V.bool o))], [], 9⟩ : St)) := by
  refine rg ?_
  refine ra 2 2 ⟨[(0, (V.sl 0 1 (List.map V.str a0))), (1, (V.fn a1_fid [] [V.pro a1_c0])), (5, (V.sl 0 1 (List.map V.str a0))), (6, (V.fn a1_fid [] [V.pro a1_c0]))], [], 9⟩ rfl rfl rfl ?_
  refine Eq.trans (reg_pure (x := (slices_IndexFunc_string k a0 a1)) (w := fun v1 => (I v1)) rfl rfl rfl rfl (p_call rfl rfl rfl rfl rfl (slices_IndexFunc_string_ok k a0 a1 a1_fid a1_c0 a1_hok) (.inl rfl))) ?_
  refine bindE (fun v1 => ?_)
  exact bind_end rfl
theorem slices_ContainsFunc_string_ok (k : Nat) (a0 : (List Str)) (a1 : Nat → Str → Option Bool) (a1_fid : Go.FuncId) (a1_c0 : V) (a1_hok : ∀ j x0, EV j a1_fid [(V.str x0), V.pro a1_c0] = (a1 j x0).map fun b => ((V.bool b), [])) : EV k 65 [(V.sl 0 1 (List.map V.str a0)), (V.fn a1_fid [] [V.pro a1_c0])] = (slices_ContainsFunc_string k a0 a1).map slices_ContainsFunc_string_fin := by
  cases k with
  | zero => rfl
  | succ k =>
    unfold slices_ContainsFunc_string
    refine Eq.trans (evF_succ (c := f65c) (N := 9) (regs := f65n) rfl Go.Proofs.Try.func65 rfl (by decide) rfl rfl rfl) ?_
    refine Eq.trans (k_region0 rfl (f65r0 k a0 a1 a1_fid a1_c0 a1_hok)) ?_
    refine Eq.trans (k_region rfl (f65r1 k a0 a1 a1_fid a1_c0 a1_hok)) ?_
    refine bindE (fun o2 => ?_)
    refine Eq.trans k_lret ?_
    rfl
def screen_fits_1_fin : Bool → V × List V := fun r => ((V.bool r), [])
theorem f69r0 (k : Nat) (a0 : Str) (a1 : T_api_Form) : RE k f69a0 f69o0 false ⟨[(0, (V.str a0)), (1, (V.pro (enc_T_api_Form a1)))], [], 14⟩ = some ⟨[(0, (V.str a0)), (1, (V.pro (enc_T_api_Form a1)))], [], 14⟩ :=
  rE rfl
theorem f69r1 (k : Nat) (a0 : Str) (a1 : T_api_Form) : RE k f69a1 f69o1 false ⟨[(0, (V.str a0)), (1, (V.pro (enc_T_api_Form a1)))], [], 14⟩ = ((bif ((a0.length : Int) != a1.fColumns) then (some (true)) else ((screen_isText k a0).bind fun v1 => (some ((!v1)))))).map (fun (o : Bool) => (⟨[(3, (V.bool o))], [], 14⟩ : St)) := by
  refine rg ?_
  refine ra 6 6 ⟨[(0, (V.str a0)), (1, (V.pro (enc_T_api_Form a1))), (4, (V.str a0)), (5, (I (a0.length : Int))), (6, (V.pro (I a1.fColumns))), (7, (I a1.fColumns)), (8, (V.bool ((a0.length : Int) != a1.fColumns))), (9, (V.bool ((a0.length : Int) != a1.fColumns)))], [], 14⟩ rfl rfl rfl ?_
  refine bifE (c := ((a0.length : Int) != a1.fColumns)) (fun hc => ?_) fun hc => ?_
  · rw [hc]
    exact reg_end rfl
  · rw [hc]
    refine ra 1 7 ⟨[(0, (V.str a0)), (1, (V.pro (enc_T_api_Form a1))), (4, (V.str a0)), (5, (I (a0.length : Int))), (6, (V.pro (I a1.fColumns))), (7, (I a1.fColumns)), (8, (V.bool false)), (9, (V.bool false)), (10, (V.str a0))], [], 14⟩ rfl rfl rfl ?_
    refine Eq.trans (reg_pure (x := (screen_isText k a0)) (w := fun v1 => (V.bool v1)) rfl rfl rfl rfl (p_call rfl rfl rfl rfl rfl (screen_isText_ok k a0) (.inl rfl))) ?_
    refine bindE (fun v1 => ?_)
    exact bind_end rfl
theorem screen_fits_1_ok (k : Nat) (a0 : Str) (a1 : T_api_Form) : EV k 69 [(V.str a0), (V.pro (enc_T_api_Form a1))] = (screen_fits_1 k a0 a1).map screen_fits_1_fin := by
  cases k with
  | zero => rfl
  | succ k =>
    unfold screen_fits_1
    refine Eq.trans (evF_succ (c := f69c) (N := 14) (regs := f69n) rfl Go.Proofs.Try.func69 rfl (by decide) rfl rfl rfl) ?_
    refine Eq.trans (k_region0 rfl (f69r0 k a0 a1)) ?_
    refine Eq.trans (k_region rfl (f69r1 k a0 a1)) ?_
    refine bindE (fun o2 => ?_)
    refine Eq.trans k_lret ?_
    rfl
def screen_fits_fin : Bool → V × List V := fun r => ((V.bool r), [])
theorem f42r0 (k : Nat) (a0 : T_api_Form) (a1 : (List Str)) : RE k f42a0 f42o0 false ⟨[(0, (enc_T_api_Form a0)), (1, (V.sl 0 1 (List.map V.str a1)))], [], 16⟩ = some ⟨[(1, (V.sl 0 1 (List.map V.str a1))), (2, (V.ptr 2 0 0))], [(2, ⟨false, 4, [(enc_T_api_Form a0)]⟩)], 16⟩ :=
  rE rfl
theorem f42r1 (k : Nat) (a0 : T_api_Form) (a1 : (List Str)) : RE k f42a1 f42o1 false ⟨[(1, (V.sl 0 1 (List.map V.str a1))), (2, (V.ptr 2 0 0))], [(2, ⟨false, 4, [(enc_T_api_Form a0)]⟩)], 16⟩ = ((bif ((a1.length : Int) == a0.fRows) then ((slices_ContainsFunc_string k a1 (fun j x0 => (screen_fits_1 j x0 a0))).bind fun v1 => (some ((!v1)))) else (some (false)))).map (fun (o : Bool) => (⟨[(4, (V.bool o))], [], 16⟩ : St)) := by
  refine rg ?_
  refine ra 1 1 ⟨[(1, (V.sl 0 1 (List.map V.str a1))), (2, (V.ptr 2 0 0)), (5, (V.sl 0 1 (List.map V.str a1)))], [(2, ⟨false, 4, [(enc_T_api_Form a0)]⟩)], 16⟩ rfl rfl rfl ?_
  refine Eq.trans (reg_pure (x := some ()) (w := fun _ => (I (a1.length : Int))) rfl rfl rfl rfl (p_len (e := V.str) rfl rfl rfl rfl rfl rfl Go.Proofs.Try.underlying26)) ?_
  refine Eq.trans some_bind ?_
  refine ba 4 6 ⟨[(1, (V.sl 0 1 (List.map V.str a1))), (2, (V.ptr 2 0 0)), (5, (V.sl 0 1 (List.map V.str a1))), (6, (I (a1.length : Int))), (7, (V.ptr 2 0 0)), (8, (I a0.fRows)), (9, (V.bool ((a1.length : Int) == a0.fRows))), (10, (V.bool ((a1.length : Int) == a0.fRows)))], [(2, ⟨false, 4, [(enc_T_api_Form a0)]⟩)], 16⟩ rfl rfl rfl ?_
  refine bifE (c := ((a1.length : Int) == a0.fRows)) (fun hc => ?_) fun hc => ?_
  · rw [hc]
    refine ra 2 8 ⟨[(1, (V.sl 0 1 (List.map V.str a1))), (2, (V.ptr 2 0 0)), (5, (V.sl 0 1 (List.map V.str a1))), (6, (I (a1.length : Int))), (7, (V.ptr 2 0 0)), (8, (I a0.fRows)), (9, (V.bool true)), (10, (V.bool true)), (11, (V.sl 0 1 (List.map V.str a1))), (12, (V.fn 69 [] [(V.ptr 2 0 0)]))], [(2, ⟨false, 4, [(enc_T_api_Form a0)]⟩)], 16⟩ rfl rfl rfl ?_
    refine Eq.trans (reg_pure (x := (slices_ContainsFunc_string k a1 (fun j x0 => (screen_fits_1 j x0 a0)))) (w := fun v1 => (V.bool v1)) rfl rfl rfl rfl (p_call rfl rfl rfl rfl rfl (slices_ContainsFunc_string_ok k a1 (fun j x0 => (screen_fits_1 j x0 a0)) 69 (enc_T_api_Form a0) (fun j x0 => (screen_fits_1_ok j x0 a0))) (.inr (fun _ => rfl)))) ?_
    refine bindE (fun v1 => ?_)
    exact bind_end rfl
  · rw [hc]
    exact reg_end rfl
theorem screen_fits_ok (k : Nat) (a0 : T_api_Form) (a1 : (List Str)) : EV k 42 [(enc_T_api_Form a0), (V.sl 0 1 (List.map V.str a1))] = (screen_fits k a0 a1).map screen_fits_fin := by
  cases k with
  | zero => rfl
  | succ k =>
    unfold screen_fits
    refine Eq.trans (evF_succ (c := f42c) (N := 16) (regs := f42n) rfl Go.Proofs.Try.func42 rfl (by decide) rfl rfl rfl) ?_
    refine Eq.trans (k_region0 rfl (f42r0 k a0 a1)) ?_
    refine Eq.trans (k_region rfl (f42r1 k a0 a1)) ?_
    refine bindE (fun o2 => ?_)
    refine Eq.trans k_lret ?_
    rfl
def screen_pictured_fin : Int → V × List V := fun r => ((I r), [])
theorem f38r0 (k : Nat) (a0 : T_api_Form) (a1 : (List Str)) : RE k f38a0 f38o0 false ⟨[(0, (enc_T_api_Form a0)), (1, (V.sl 0 1 (List.map V.str a1)))], [], 14⟩ = some ⟨[(1, (V.sl 0 1 (List.map V.str a1))), (2, (V.ptr 2 0 0))], [(2, ⟨false, 4, [(enc_T_api_Form a0)]⟩)], 14⟩ :=
  rE rfl
theorem f38r1 (k : Nat) (a0 : T_api_Form) (a1 : (List Str)) : RE k f38a1 f38o1 false ⟨[(1, (V.sl 0 1 (List.map V.str a1))), (2, (V.ptr 2 0 0))], [(2, ⟨false, 4, [(enc_T_api_Form a0)]⟩)], 14⟩ = (((screen_Valid k a0).bind fun v1 => (some ((!v1))))).map (fun (o : Bool) => (⟨[(1, (V.sl 0 1 (List.map V.str a1))), (2, (V.ptr 2 0 0)), (5, (V.bool o))], [(2, ⟨false, 4, [(enc_T_api_Form a0)]⟩)], 14⟩ : St)) := by
  refine rg ?_
  refine ra 1 1 ⟨[(1, (V.sl 0 1 (List.map V.str a1))), (2, (V.ptr 2 0 0)), (6, (enc_T_api_Form a0))], [(2, ⟨false, 4, [(enc_T_api_Form a0)]⟩)], 14⟩ rfl rfl rfl ?_
  refine Eq.trans (reg_pure (x := (screen_Valid k a0)) (w := fun v1 => (V.bool v1)) rfl rfl rfl rfl (p_call rfl rfl rfl rfl rfl (screen_Valid_ok k a0) (.inl rfl))) ?_
  refine bindE (fun v1 => ?_)
  exact bind_end rfl
theorem f38r2 (k : Nat) (a0 : T_api_Form) (a1 : (List Str)) : RE k f38a2 f38o2 false ⟨[(1, (V.sl 0 1 (List.map V.str a1))), (2, (V.ptr 2 0 0)), (5, (V.bool true))], [(2, ⟨false, 4, [(enc_T_api_Form a0)]⟩)], 14⟩ = some ⟨[(4, (I 220))], [], 14⟩ :=
  rE rfl
theorem f38r3 (k : Nat) (a0 : T_api_Form) (a1 : (List Str)) : RE k f38a3 f38o3 false ⟨[(1, (V.sl 0 1 (List.map V.str a1))), (2, (V.ptr 2 0 0)), (5, (V.bool false))], [(2, ⟨false, 4, [(enc_T_api_Form a0)]⟩)], 14⟩ = (((screen_fits k a0 a1).bind fun v3 => (some ((!v3))))).map (fun (o : Bool) => (⟨[(9, (V.bool o))], [], 14⟩ : St)) := by
  refine rg ?_
  refine ra 2 2 ⟨[(1, (V.sl 0 1 (List.map V.str a1))), (2, (V.ptr 2 0 0)), (5, (V.bool false)), (10, (enc_T_api_Form a0)), (11, (V.sl 0 1 (List.map V.str a1)))], [(2, ⟨false, 4, [(enc_T_api_Form a0)]⟩)], 14⟩ rfl rfl rfl ?_
  refine Eq.trans (reg_pure (x := (screen_fits k a0 a1)) (w := fun v3 => (V.bool v3)) rfl rfl rfl rfl (p_call rfl rfl rfl rfl rfl (screen_fits_ok k a0 a1) (.inl rfl))) ?_
  refine bindE (fun v3 => ?_)
  exact bind_end rfl
theorem f38r4 (k : Nat)  : RE k f38a4 f38o4 false ⟨[(9, (V.bool true))], [], 14⟩ = some ⟨[(4, (I 2))], [], 14⟩ :=
  rE rfl
theorem f38r5 (k : Nat)  : RE k f38a5 f38o5 false ⟨[(9, (V.bool false))], [], 14⟩ = some ⟨[(4, (I 0))], [], 14⟩ :=
  rE rfl
theorem screen_pictured_ok (k : Nat) (a0 : T_api_Form) (a1 : (List Str)) : EV k 38 [(enc_T_api_Form a0), (V.sl 0 1 (List.map V.str a1))] = (screen_pictured k a0 a1).map screen_pictured_fin := by
  cases k with
  | zero => rfl
  | succ k =>
    unfold screen_pictured
    refine Eq.trans (evF_succ (c := f38c) (N := 14) (regs := f38n) rfl Go.Proofs.Try.func38 rfl (by decide) rfl rfl rfl) ?_
    refine Eq.trans (k_region0 rfl (f38r0 k a0 a1)) ?_
    refine Eq.trans (k_block rfl) ?_
    refine Eq.trans (k_region rfl (f38r1 k a0 a1)) ?_
    refine bindE (fun o2 => ?_)
    refine Eq.trans (k_lcond (t := o2) rfl rfl) ?_
    refine bifE2 (fun hc => ?_) fun hc => ?_
    · rw [hc]
      refine Eq.trans (k_region0 rfl (f38r2 k a0 a1)) ?_
      refine Eq.trans k_lret ?_
      refine Eq.trans blk_ret ?_
      rfl
    · rw [hc]
      refine Eq.trans (k_region rfl (f38r3 k a0 a1)) ?_
      refine bindE (fun o4 => ?_)
      refine Eq.trans (k_lcond (t := o4) rfl rfl) ?_
      refine bifE2 (fun hc => ?_) fun hc => ?_
      · rw [hc]
        refine Eq.trans (k_region0 rfl (f38r4 k)) ?_
        refine Eq.trans k_lret ?_
        refine Eq.trans blk_ret ?_
        rfl
      · rw [hc]
        refine Eq.trans k_lskip ?_
        refine Eq.trans blk_normal ?_
        refine Eq.trans (k_region0 rfl (f38r5 k)) ?_
        refine Eq.trans k_lret ?_
        rfl
def screen_Take_fin : ((List Str) × Int) → V × List V := fun r => (.tup [(V.sl 0 1 (List.map V.str r.1)), (I r.2)], [])
theorem f14r0 (k : Nat) (a0 : T_api_Form) (a1 : (List Str)) : RE k f14a0 f14o0 false ⟨[(0, (enc_T_api_Form a0)), (1, (V.sl 0 1 (List.map V.str a1)))], [], 74⟩ = some ⟨[(1, (V.sl 0 1 (List.map V.str a1))), (2, (V.ptr 2 0 0))], [(2, ⟨false, 4, [(enc_T_api_Form a0)]⟩)], 74⟩ :=
  rE rfl
theorem f14r1 (k : Nat) (a0 : T_api_Form) (a1 : (List Str)) : RE k f14a1 f14o1 false ⟨[(1, (V.sl 0 1 (List.map V.str a1))), (2, (V.ptr 2 0 0))], [(2, ⟨false, 4, [(enc_T_api_Form a0)]⟩)], 74⟩ = ((screen_pictured k a0 a1)).map (fun (o : Int) => (⟨[(1, (V.sl 0 1 (List.map V.str a1))), (2, (V.ptr 2 0 0)), (6, (I o))], [(2, ⟨false, 4, [(enc_T_api_Form a0)]⟩)], 74⟩ : St)) := by
  refine rg ?_
  refine ra 2 2 ⟨[(1, (V.sl 0 1 (List.map V.str a1))), (2, (V.ptr 2 0 0)), (13, (enc_T_api_Form a0)), (14, (V.sl 0 1 (List.map V.str a1)))], [(2, ⟨false, 4, [(enc_T_api_Form a0)]⟩)], 74⟩ rfl rfl rfl ?_
  refine Eq.trans (reg_pure (x := (screen_pictured k a0 a1)) (w := fun v1 => (I v1)) rfl rfl rfl rfl (p_call rfl rfl rfl rfl rfl (screen_pictured_ok k a0 a1) (.inl rfl))) ?_
  refine bind_self (fun v1 => ?_)
  exact bind_end rfl
theorem f14r2 (k : Nat) (a0 : T_api_Form) (a1 : (List Str)) (o2 : Int) : RE k f14a2 f14o2 false ⟨[(1, (V.sl 0 1 (List.map V.str a1))), (2, (V.ptr 2 0 0)), (6, (I o2))], [(2, ⟨false, 4, [(enc_T_api_Form a0)]⟩)], 74⟩ = some ⟨[(1, (V.sl 0 1 (List.map V.str a1))), (2, (V.ptr 2 0 0)), (6, (I o2)), (17, (V.bool (o2 != 0)))], [(2, ⟨false, 4, [(enc_T_api_Form a0)]⟩)], 74⟩ :=
  rE rfl
theorem f14r3 (k : Nat) (a0 : T_api_Form) (a1 : (List Str)) (o2 : Int) : RE k f14a3 f14o3 false ⟨[(1, (V.sl 0 1 (List.map V.str a1))), (2, (V.ptr 2 0 0)), (6, (I o2)), (17, (V.bool true))], [(2, ⟨false, 4, [(enc_T_api_Form a0)]⟩)], 74⟩ = some ⟨[(4, (V.sl 0 1 (List.map V.str ([] : List Str)))), (5, (I o2))], [], 74⟩ :=
  rE rfl
theorem f14r4 (k : Nat) (a0 : T_api_Form) (a1 : (List Str)) (o2 : Int) : RE k f14a4 f14o4 false ⟨[(1, (V.sl 0 1 (List.map V.str a1))), (2, (V.ptr 2 0 0)), (6, (I o2)), (17, (V.bool false))], [(2, ⟨false, 4, [(enc_T_api_Form a0)]⟩)], 74⟩ = (((screen_lengths k a0).bind fun v3 => (some (v3.1)))).map (fun (o : Int) => (⟨[(1, (V.sl 0 1 (List.map V.str a1))), (2, (V.ptr 2 0 0)), (7, (I o))], [(2, ⟨false, 4, [(enc_T_api_Form a0)]⟩)], 74⟩ : St)) := by
  refine rg ?_
  refine ra 1 1 ⟨[(1, (V.sl 0 1 (List.map V.str a1))), (2, (V.ptr 2 0 0)), (6, (I o2)), (17, (V.bool false)), (20, (enc_T_api_Form a0))], [(2, ⟨false, 4, [(enc_T_api_Form a0)]⟩)], 74⟩ rfl rfl rfl ?_
  refine Eq.trans (reg_pure (x := (screen_lengths k a0)) (w := fun v3 => (V.tup [(I v3.1), (I v3.2)])) rfl rfl rfl rfl (p_call rfl rfl rfl rfl rfl (screen_lengths_ok k a0) (.inl rfl))) ?_
  refine bindE (fun v3 => ?_)
  exact bind_end rfl
theorem f14r5 (k : Nat) (a0 : T_api_Form) (a1 : (List Str)) (o4 : Int) : RE k f14a5 f14o5 false ⟨[(1, (V.sl 0 1 (List.map V.str a1))), (2, (V.ptr 2 0 0)), (7, (I o4))], [(2, ⟨false, 4, [(enc_T_api_Form a0)]⟩)], 74⟩ = ((mkN [] o4)).map (fun (o : (List Str)) => (⟨[(1, (V.sl 0 1 (List.map V.str a1))), (2, (V.ptr 2 0 0)), (9, (V.aref 25 0 (List.map V.str o).length)), (25, (V.aref 25 0 (List.map V.str o).length))], [(2, ⟨false, 4, [(enc_T_api_Form a0)]⟩), (25, ⟨true, 1, List.map V.str o⟩)], 74⟩ : St)) := by
  refine rg ?_
  refine ra 1 1 ⟨[(1, (V.sl 0 1 (List.map V.str a1))), (2, (V.ptr 2 0 0)), (7, (I o4)), (24, (I o4))], [(2, ⟨false, 4, [(enc_T_api_Form a0)]⟩)], 74⟩ rfl rfl rfl ?_
  refine Eq.trans (reg_eff (x := (mkN [] o4)) (w := fun v5 => ((V.sl 2 1 (List.map V.str v5)), _)) rfl rfl rfl rfl (p_makeS (e := V.str) (z := []) rfl rfl rfl rfl Go.Proofs.Try.underlying26 (of_decide_eq_true rfl) rfl rfl rfl rfl)) ?_
  refine bind_self (fun v5 => ?_)
  exact bind_end rfl
theorem f14r6 (k : Nat) (a0 : T_api_Form) (a1 : (List Str)) (o6 : (List Str)) : RE k f14a6 f14o6 false ⟨[(1, (V.sl 0 1 (List.map V.str a1))), (2, (V.ptr 2 0 0)), (9, (V.aref 25 0 (List.map V.str o6).length)), (25, (V.aref 25 0 (List.map V.str o6).length))], [(2, ⟨false, 4, [(enc_T_api_Form a0)]⟩), (25, ⟨true, 1, List.map V.str o6⟩)], 74⟩ = some ⟨[(1, (V.sl 0 1 (List.map V.str a1))), (9, (V.aref 25 0 (List.map V.str o6).length)), (25, (V.aref 25 0 (List.map V.str o6).length)), (27, (sSlot (a0.fFields))), (28, (I (a0.fFields.length : Int))), (29, (I 0))], [(25, ⟨true, 1, List.map V.str o6⟩)], 74⟩ := by
  refine rg ?_
  refine ra 2 2 ⟨[(1, (V.sl 0 1 (List.map V.str a1))), (2, (V.ptr 2 0 0)), (9, (V.aref 25 0 (List.map V.str o6).length)), (25, (V.aref 25 0 (List.map V.str o6).length)), (26, (V.ptr 2 0 3)), (27, (sSlot (a0.fFields)))], [(2, ⟨false, 4, [(enc_T_api_Form a0)]⟩), (25, ⟨true, 1, List.map V.str o6⟩)], 74⟩ rfl rfl rfl ?_
  refine Eq.trans (reg_pure (x := some ()) (w := fun _ => (I (a0.fFields.length : Int))) rfl rfl rfl rfl (p_len (e := enc_T_api_Slot) rfl rfl rfl rfl rfl rfl Go.Proofs.Try.underlying23)) ?_
  refine Eq.trans some_bind ?_
  exact bind_end rfl
theorem f14r7 (k : Nat) (a0 : T_api_Form) (a1 : (List Str)) (x25 : Int) (x26 : (List Str)) : RE k f14a7 f14o7 false ⟨[(1, (V.sl 0 1 (List.map V.str a1))), (9, (V.aref 25 0 (List.map V.str x26).length)), (25, (V.aref 25 0 (List.map V.str x26).length)), (27, (sSlot (a0.fFields))), (28, (I (a0.fFields.length : Int))), (29, (I x25))], [(25, ⟨true, 1, List.map V.str x26⟩)], 74⟩ = some ⟨[(1, (V.sl 0 1 (List.map V.str a1))), (9, (V.aref 25 0 (List.map V.str x26).length)), (25, (V.aref 25 0 (List.map V.str x26).length)), (27, (sSlot (a0.fFields))), (28, (I (a0.fFields.length : Int))), (29, (I x25)), (30, (V.bool (decide (x25 < (a0.fFields.length : Int)))))], [(25, ⟨true, 1, List.map V.str x26⟩)], 74⟩ :=
  rE rfl
theorem f14r8 (k : Nat) (a0 : T_api_Form) (a1 : (List Str)) (x25 : Int) (x26 : (List Str)) : RE k f14a8 f14o8 false ⟨[(1, (V.sl 0 1 (List.map V.str a1))), (9, (V.aref 25 0 (List.map V.str x26).length)), (25, (V.aref 25 0 (List.map V.str x26).length)), (27, (sSlot (a0.fFields))), (28, (I (a0.fFields.length : Int))), (29, (I x25)), (30, (V.bool true))], [(25, ⟨true, 1, List.map V.str x26⟩)], 74⟩ = ((idx a0.fFields x25)).map (fun (o : T_api_Slot) => (⟨[(1, (V.sl 0 1 (List.map V.str a1))), (9, (V.aref 25 0 (List.map V.str x26).length)), (11, (V.ptr 11 0 0)), (25, (V.aref 25 0 (List.map V.str x26).length)), (27, (sSlot (a0.fFields))), (28, (I (a0.fFields.length : Int))), (29, (I x25))], [(11, ⟨false, 7, [(enc_T_api_Slot o)]⟩), (25, ⟨true, 1, List.map V.str x26⟩)], 74⟩ : St)) := by
  refine rg ?_
  refine Eq.trans (reg_pure (x := (idx a0.fFields x25)) (w := fun v27 => (V.pro (enc_T_api_Slot v27))) rfl rfl rfl rfl (p_index (e := enc_T_api_Slot) rfl rfl rfl Go.Proofs.Try.underlying23 rfl (by decide))) ?_
  refine bind_self (fun v27 => ?_)
  exact bind_end rfl
theorem f14r9 (k : Nat) (a0 : T_api_Form) (a1 : (List Str)) (x25 : Int) (x26 : (List Str)) (o28 : T_api_Slot) : RE k f14a9 f14o9 false ⟨[(1, (V.sl 0 1 (List.map V.str a1))), (9, (V.aref 25 0 (List.map V.str x26).length)), (11, (V.ptr 11 0 0)), (25, (V.aref 25 0 (List.map V.str x26).length)), (27, (sSlot (a0.fFields))), (28, (I (a0.fFields.length : Int))), (29, (I x25))], [(11, ⟨false, 7, [(enc_T_api_Slot o28)]⟩), (25, ⟨true, 1, List.map V.str x26⟩)], 74⟩ = some ⟨[(1, (V.sl 0 1 (List.map V.str a1))), (9, (V.aref 25 0 (List.map V.str x26).length)), (11, (V.ptr 11 0 0)), (25, (V.aref 25 0 (List.map V.str x26).length)), (27, (sSlot (a0.fFields))), (28, (I (a0.fFields.length : Int))), (29, (I x25)), (35, (V.bool (decide (o28.fIn < 0))))], [(11, ⟨false, 7, [(enc_T_api_Slot o28)]⟩), (25, ⟨true, 1, List.map V.str x26⟩)], 74⟩ :=
  rE rfl
theorem f14r14 (k : Nat) (a0 : T_api_Form) (a1 : (List Str)) (x25 : Int) (x26 : (List Str)) (o28 : T_api_Slot) : RE k f14a14 f14o14 false ⟨[(1, (V.sl 0 1 (List.map V.str a1))), (9, (V.aref 25 0 (List.map V.str x26).length)), (11, (V.ptr 11 0 0)), (25, (V.aref 25 0 (List.map V.str x26).length)), (27, (sSlot (a0.fFields))), (28, (I (a0.fFields.length : Int))), (29, (I x25)), (35, (V.bool true))], [(11, ⟨false, 7, [(enc_T_api_Slot o28)]⟩), (25, ⟨true, 1, List.map V.str x26⟩)], 74⟩ = some ⟨[(1, (V.sl 0 1 (List.map V.str a1))), (9, (V.aref 25 0 (List.map V.str x26).length)), (25, (V.aref 25 0 (List.map V.str x26).length)), (27, (sSlot (a0.fFields))), (28, (I (a0.fFields.length : Int))), (29, (I (Go.IntKind.wrap .i64 (x25 + 1))))], [(25, ⟨true, 1, List.map V.str x26⟩)], 74⟩ :=
  rE rfl
theorem f14r10 (k : Nat) (a0 : T_api_Form) (a1 : (List Str)) (x25 : Int) (x26 : (List Str)) (o28 : T_api_Slot) : RE k f14a10 f14o10 true ⟨[(1, (V.sl 0 1 (List.map V.str a1))), (9, (V.aref 25 0 (List.map V.str x26).length)), (11, (V.ptr 11 0 0)), (25, (V.aref 25 0 (List.map V.str x26).length)), (27, (sSlot (a0.fFields))), (28, (I (a0.fFields.length : Int))), (29, (I x25)), (35, (V.bool false))], [(11, ⟨false, 7, [(enc_T_api_Slot o28)]⟩), (25, ⟨true, 1, List.map V.str x26⟩)], 74⟩ = (((idx a1 o28.fRow).bind fun v29 => (cut v29 o28.fColumn (Go.IntKind.wrap .i64 (o28.fColumn + o28.fBytes))))).map (fun (o : Str) => (⟨[(1, (V.sl 0 1 (List.map V.str a1))), (9, (V.aref 25 0 (List.map V.str x26).length)), (11, (V.ptr 11 0 0)), (12, (V.str o)), (25, (V.aref 25 0 (List.map V.str x26).length)), (27, (sSlot (a0.fFields))), (28, (I (a0.fFields.length : Int))), (29, (I x25))], [(11, ⟨false, 7, [(enc_T_api_Slot o28)]⟩), (25, ⟨true, 1, List.map V.str x26⟩)], 74⟩ : St)) := by
  refine Eq.trans (regionE_regp (p := 14) (dk := true) (t := [(1, (V.sl 0 1 (List.map V.str a1))), (9, (V.aref 25 0 (List.map V.str x26).length)), (11, (V.ptr 11 0 0)), (25, (V.aref 25 0 (List.map V.str x26).length)), (27, (sSlot (a0.fFields))), (28, (I (a0.fFields.length : Int))), (29, (I x25)), (35, (V.bool false))]) (σ := [(11, ⟨false, 7, [(enc_T_api_Slot o28)]⟩), (25, ⟨true, 1, List.map V.str x26⟩)]) (n := 74) rfl (by decide) (by decide) rfl) ?_
  refine Eq.trans (regp_adv (m := 3) (j := 3) (t' := [(1, (V.sl 0 1 (List.map V.str a1))), (9, (V.aref 25 0 (List.map V.str x26).length)), (11, (V.ptr 11 0 0)), (25, (V.aref 25 0 (List.map V.str x26).length)), (27, (sSlot (a0.fFields))), (28, (I (a0.fFields.length : Int))), (29, (I x25)), (35, (V.bool false)), (36, (V.sl 0 1 (List.map V.str a1))), (37, (V.ptr 11 0 1)), (38, (I o28.fRow))]) rfl rfl rfl) ?_
  refine Eq.trans (regp_pure (x := (idx a1 o28.fRow)) (w := fun v29 => (V.pro (V.str v29))) rfl rfl rfl rfl rfl (p_index (e := V.str) rfl rfl rfl Go.Proofs.Try.underlying26 rfl (by decide))) ?_
  refine bindE (fun v29 => ?_)
  refine Eq.trans (putp_adv (m := 8) (j := 12) (t' := [(1, (V.sl 0 1 (List.map V.str a1))), (9, (V.aref 25 0 (List.map V.str x26).length)), (11, (V.ptr 11 0 0)), (25, (V.aref 25 0 (List.map V.str x26).length)), (27, (sSlot (a0.fFields))), (28, (I (a0.fFields.length : Int))), (29, (I x25)), (35, (V.bool false)), (36, (V.sl 0 1 (List.map V.str a1))), (37, (V.ptr 11 0 1)), (38, (I o28.fRow)), (39, (V.pro (V.str v29))), (40, (V.str v29)), (41, (V.ptr 11 0 2)), (42, (I o28.fColumn)), (43, (V.ptr 11 0 2)), (44, (I o28.fColumn)), (45, (V.ptr 11 0 3)), (46, (I o28.fBytes)), (47, (I (Go.IntKind.wrap .i64 (o28.fColumn + o28.fBytes))))]) rfl rfl rfl) ?_
  refine Eq.trans (regp_pure (x := (cut v29 o28.fColumn (Go.IntKind.wrap .i64 (o28.fColumn + o28.fBytes)))) (w := fun v30 => (V.str v30)) rfl rfl rfl rfl rfl (p_sliceS rfl rfl rfl rfl rfl rfl Go.Proofs.Try.underlying9)) ?_
  refine bind_self (fun v30 => ?_)
  exact regp_end rfl
theorem f14r11 (k : Nat) (a0 : T_api_Form) (a1 : (List Str)) (x25 : Int) (x26 : (List Str)) (o28 : T_api_Slot) (x36 : Str) : RE k f14a11 f14o11 true ⟨[(1, (V.sl 0 1 (List.map V.str a1))), (9, (V.aref 25 0 (List.map V.str x26).length)), (11, (V.ptr 11 0 0)), (12, (V.str x36)), (25, (V.aref 25 0 (List.map V.str x26).length)), (27, (sSlot (a0.fFields))), (28, (I (a0.fFields.length : Int))), (29, (I x25))], [(11, ⟨false, 7, [(enc_T_api_Slot o28)]⟩), (25, ⟨true, 1, List.map V.str x26⟩)], 74⟩ = ((bif (decide ((x36.length : Int) > 0)) then ((idxS x36 (Go.IntKind.wrap .i64 ((x36.length : Int) - 1))).bind fun v37 => (some ((v37 == o28.fFill)))) else (some (false)))).map (fun (o : Bool) => (⟨[(1, (V.sl 0 1 (List.map V.str a1))), (9, (V.aref 25 0 (List.map V.str x26).length)), (11, (V.ptr 11 0 0)), (12, (V.str x36)), (25, (V.aref 25 0 (List.map V.str x26).length)), (27, (sSlot (a0.fFields))), (28, (I (a0.fFields.length : Int))), (29, (I x25)), (61, (V.bool o))], [(11, ⟨false, 7, [(enc_T_api_Slot o28)]⟩), (25, ⟨true, 1, List.map V.str x26⟩)], 74⟩ : St)) := by
  refine Eq.trans (regionE_regp (p := 13) (dk := true) (t := [(1, (V.sl 0 1 (List.map V.str a1))), (9, (V.aref 25 0 (List.map V.str x26).length)), (11, (V.ptr 11 0 0)), (12, (V.str x36)), (25, (V.aref 25 0 (List.map V.str x26).length)), (27, (sSlot (a0.fFields))), (28, (I (a0.fFields.length : Int))), (29, (I x25))]) (σ := [(11, ⟨false, 7, [(enc_T_api_Slot o28)]⟩), (25, ⟨true, 1, List.map V.str x26⟩)]) (n := 74) rfl (by decide) (by decide) rfl) ?_
  refine Eq.trans (regp_adv (m := 4) (j := 4) (t' := [(1, (V.sl 0 1 (List.map V.str a1))), (9, (V.aref 25 0 (List.map V.str x26).length)), (11, (V.ptr 11 0 0)), (12, (V.str x36)), (25, (V.aref 25 0 (List.map V.str x26).length)), (27, (sSlot (a0.fFields))), (28, (I (a0.fFields.length : Int))), (29, (I x25)), (49, (V.str x36)), (50, (I (x36.length : Int))), (51, (V.bool (decide ((x36.length : Int) > 0)))), (52, (V.bool (decide ((x36.length : Int) > 0))))]) rfl rfl rfl) ?_
  refine bifE (c := (decide ((x36.length : Int) > 0))) (fun hc => ?_) fun hc => ?_
  · rw [hc]
    refine Eq.trans (regp_adv (m := 4) (j := 8) (t' := [(1, (V.sl 0 1 (List.map V.str a1))), (9, (V.aref 25 0 (List.map V.str x26).length)), (11, (V.ptr 11 0 0)), (12, (V.str x36)), (25, (V.aref 25 0 (List.map V.str x26).length)), (27, (sSlot (a0.fFields))), (28, (I (a0.fFields.length : Int))), (29, (I x25)), (49, (V.str x36)), (50, (I (x36.length : Int))), (51, (V.bool true)), (52, (V.bool true)), (53, (V.str x36)), (54, (V.str x36)), (55, (I (x36.length : Int))), (56, (I (Go.IntKind.wrap .i64 ((x36.length : Int) - 1))))]) rfl rfl rfl) ?_
    refine Eq.trans (regp_pure (x := (idxS x36 (Go.IntKind.wrap .i64 ((x36.length : Int) - 1)))) (w := fun v37 => (V.int .u8 v37)) rfl rfl rfl rfl rfl (p_indexS rfl rfl rfl Go.Proofs.Try.underlying9)) ?_
    refine bindE (fun v37 => ?_)
    exact regp_end rfl
  · rw [hc]
    exact regp_end rfl
theorem f14r12 (k : Nat) (a0 : T_api_Form) (a1 : (List Str)) (x25 : Int) (x26 : (List Str)) (o28 : T_api_Slot) (x36 : Str) : RE k f14a12 f14o12 false ⟨[(1, (V.sl 0 1 (List.map V.str a1))), (9, (V.aref 25 0 (List.map V.str x26).length)), (11, (V.ptr 11 0 0)), (12, (V.str x36)), (25, (V.aref 25 0 (List.map V.str x26).length)), (27, (sSlot (a0.fFields))), (28, (I (a0.fFields.length : Int))), (29, (I x25)), (61, (V.bool true))], [(11, ⟨false, 7, [(enc_T_api_Slot o28)]⟩), (25, ⟨true, 1, List.map V.str x26⟩)], 74⟩ = ((cut x36 0 (Go.IntKind.wrap .i64 ((x36.length : Int) - 1)))).map (fun (o : Str) => (⟨[(1, (V.sl 0 1 (List.map V.str a1))), (9, (V.aref 25 0 (List.map V.str x26).length)), (11, (V.ptr 11 0 0)), (12, (V.str o)), (25, (V.aref 25 0 (List.map V.str x26).length)), (27, (sSlot (a0.fFields))), (28, (I (a0.fFields.length : Int))), (29, (I x25))], [(11, ⟨false, 7, [(enc_T_api_Slot o28)]⟩), (25, ⟨true, 1, List.map V.str x26⟩)], 74⟩ : St)) := by
  refine rg ?_
  refine ra 4 4 ⟨[(1, (V.sl 0 1 (List.map V.str a1))), (9, (V.aref 25 0 (List.map V.str x26).length)), (11, (V.ptr 11 0 0)), (12, (V.str x36)), (25, (V.aref 25 0 (List.map V.str x26).length)), (27, (sSlot (a0.fFields))), (28, (I (a0.fFields.length : Int))), (29, (I x25)), (61, (V.bool true)), (62, (V.str x36)), (63, (V.str x36)), (64, (I (x36.length : Int))), (65, (I (Go.IntKind.wrap .i64 ((x36.length : Int) - 1))))], [(11, ⟨false, 7, [(enc_T_api_Slot o28)]⟩), (25, ⟨true, 1, List.map V.str x26⟩)], 74⟩ rfl rfl rfl ?_
  refine Eq.trans (reg_pure (x := (cut x36 0 (Go.IntKind.wrap .i64 ((x36.length : Int) - 1)))) (w := fun v39 => (V.str v39)) rfl rfl rfl rfl (p_sliceS rfl rfl rfl rfl rfl rfl Go.Proofs.Try.underlying9)) ?_
  refine bind_self (fun v39 => ?_)
  exact bind_end rfl
theorem screen_Take_L2_ok (k : Nat) (a0 : T_api_Form) (a1 : (List Str)) (x25 : Int) (x26 : (List Str)) (o28 : T_api_Slot)  (K0 : Str → Option ((List Str) × Int)) (Kst : X × St → Option (V × List V)) (hK0 : ∀ (y0 : Str), Kst (X.exit 2, ⟨[(1, (V.sl 0 1 (List.map V.str a1))), (9, (V.aref 25 0 (List.map V.str x26).length)), (11, (V.ptr 11 0 0)), (12, (V.str y0)), (25, (V.aref 25 0 (List.map V.str x26).length)), (27, (sSlot (a0.fFields))), (28, (I (a0.fFields.length : Int))), (29, (I x25)), (61, (V.bool false))], [(11, ⟨false, 7, [(enc_T_api_Slot o28)]⟩), (25, ⟨true, 1, List.map V.str x26⟩)], 74⟩) = (K0 y0).map screen_Take_fin) (hret : ∀ s, Kst (X.ret, s) = endK prog 74 [(enc_T_api_Form a0), (V.sl 0 1 (List.map V.str a1))] [] [.tmp 4, .tmp 5] (X.ret, s)) :
    ∀ (m : Nat) (x36 : Str), (iter (exec prog (EV k) f14n k f14b0) m ⟨[(1, (V.sl 0 1 (List.map V.str a1))), (9, (V.aref 25 0 (List.map V.str x26).length)), (11, (V.ptr 11 0 0)), (12, (V.str x36)), (25, (V.aref 25 0 (List.map V.str x26).length)), (27, (sSlot (a0.fFields))), (28, (I (a0.fFields.length : Int))), (29, (I x25))], [(11, ⟨false, 7, [(enc_T_api_Slot o28)]⟩), (25, ⟨true, 1, List.map V.str x26⟩)], 74⟩).bind Kst = (screen_Take_L2 o28 K0 m x36).map screen_Take_fin := by
  intro m
  induction m with
  | zero => intros; rfl
  | succ m ih =>
    intro x36
    unfold screen_Take_L2
    refine Eq.trans k_round ?_
    refine Eq.trans k_assoc ?_
    refine Eq.trans (k_region rfl (f14r11 k a0 a1 x25 x26 o28 x36)) ?_
    refine bindE (fun o38 => ?_)
    refine Eq.trans (k_cond (t := o38) rfl rfl) ?_
    refine bifE2 (fun hc => ?_) fun hc => ?_
    · rw [hc]
      refine Eq.trans k_skip ?_
      refine Eq.trans (k_lblock rfl) ?_
      refine Eq.trans (k_lregion rfl (f14r12 k a0 a1 x25 x26 o28 x36)) ?_
      refine bindE (fun o40 => ?_)
      refine Eq.trans blk_normal ?_
      refine Eq.trans k_lskip ?_
      refine Eq.trans loop_normal ?_
      exact ih o40
    · rw [hc]
      refine Eq.trans k_exit ?_
      refine Eq.trans loop_exit ?_
      exact hK0 x36
theorem f14r13 (k : Nat) (a0 : T_api_Form) (a1 : (List Str)) (x25 : Int) (x26 : (List Str)) (o28 : T_api_Slot) (y41 : Str) : RE k f14a13 f14o13 false ⟨[(1, (V.sl 0 1 (List.map V.str a1))), (9, (V.aref 25 0 (List.map V.str x26).length)), (11, (V.ptr 11 0 0)), (12, (V.str y41)), (25, (V.aref 25 0 (List.map V.str x26).length)), (27, (sSlot (a0.fFields))), (28, (I (a0.fFields.length : Int))), (29, (I x25)), (61, (V.bool false))], [(11, ⟨false, 7, [(enc_T_api_Slot o28)]⟩), (25, ⟨true, 1, List.map V.str x26⟩)], 74⟩ = (((inB x26.length o28.fIn).bind fun v42 => ((x26[0 + o28.fIn.toNat]?).bind fun v43 => (some ((x26.set (0 + o28.fIn.toNat) y41)))))).map (fun (o : (List Str)) => (⟨[(1, (V.sl 0 1 (List.map V.str a1))), (9, (V.aref 25 0 (List.map V.str o).length)), (25, (V.aref 25 0 (List.map V.str o).length)), (27, (sSlot (a0.fFields))), (28, (I (a0.fFields.length : Int))), (29, (I x25))], [(25, ⟨true, 1, List.map V.str o⟩)], 74⟩ : St)) := by
  refine rg ?_
  refine ra 4 4 ⟨[(1, (V.sl 0 1 (List.map V.str a1))), (9, (V.aref 25 0 (List.map V.str x26).length)), (11, (V.ptr 11 0 0)), (12, (V.str y41)), (25, (V.aref 25 0 (List.map V.str x26).length)), (27, (sSlot (a0.fFields))), (28, (I (a0.fFields.length : Int))), (29, (I x25)), (61, (V.bool false)), (67, (V.aref 25 0 (List.map V.str x26).length)), (68, (V.ptr 11 0 4)), (69, (I o28.fIn)), (70, (V.str y41))], [(11, ⟨false, 7, [(enc_T_api_Slot o28)]⟩), (25, ⟨true, 1, List.map V.str x26⟩)], 74⟩ rfl rfl rfl ?_
  refine Eq.trans (reg_pure (x := (inB x26.length o28.fIn)) (w := fun v42 => (V.ptr 25 (0 + o28.fIn.toNat) 0)) rfl rfl rfl rfl (p_indexF (e := V.str) rfl rfl rfl Go.Proofs.Try.underlying26 rfl rfl (by decide))) ?_
  refine bindE (fun v42 => ?_)
  refine ba 0 5 ⟨[(1, (V.sl 0 1 (List.map V.str a1))), (9, (V.aref 25 0 (List.map V.str x26).length)), (11, (V.ptr 11 0 0)), (12, (V.str y41)), (25, (V.aref 25 0 (List.map V.str x26).length)), (27, (sSlot (a0.fFields))), (28, (I (a0.fFields.length : Int))), (29, (I x25)), (61, (V.bool false)), (67, (V.aref 25 0 (List.map V.str x26).length)), (68, (V.ptr 11 0 4)), (69, (I o28.fIn)), (70, (V.str y41)), (71, (V.ptr 25 (0 + o28.fIn.toNat) 0))], [(11, ⟨false, 7, [(enc_T_api_Slot o28)]⟩), (25, ⟨true, 1, List.map V.str x26⟩)], 74⟩ rfl rfl rfl ?_
  refine Eq.trans (reg_eff (x := (x26[0 + o28.fIn.toNat]?)) (w := fun _ => (V.tup [], _)) rfl rfl rfl rfl (p_storeL (S := (fun n_ => ⟨[(1, (V.sl 0 1 (List.map V.str a1))), (9, (V.aref 25 0 n_)), (11, (V.ptr 11 0 0)), (12, (V.str y41)), (25, (V.aref 25 0 n_)), (27, (sSlot (a0.fFields))), (28, (I (a0.fFields.length : Int))), (29, (I x25)), (61, (V.bool false)), (67, (V.aref 25 0 n_)), (68, (V.ptr 11 0 4)), (69, (I o28.fIn)), (70, (V.str y41)), (71, (V.ptr 25 (0 + o28.fIn.toNat) 0))], [(11, ⟨false, 7, [(enc_T_api_Slot o28)]⟩), (25, ⟨true, 1, List.map V.str x26⟩)], 74⟩)) (e := V.str) (l := x26) (v := y41) rfl rfl rfl rfl rfl rfl rfl rfl rfl rfl (fun _ => rfl))) ?_
  refine bindE (fun v43 => ?_)
  exact bind_end rfl
theorem screen_Take_r14' (k : Nat) (a0 : T_api_Form) (a1 : (List Str)) (x25 : Int) (o44 : (List Str)) : RE k f14a14 f14o14 false ⟨[(1, (V.sl 0 1 (List.map V.str a1))), (9, (V.aref 25 0 (List.map V.str o44).length)), (25, (V.aref 25 0 (List.map V.str o44).length)), (27, (sSlot (a0.fFields))), (28, (I (a0.fFields.length : Int))), (29, (I x25))], [(25, ⟨true, 1, List.map V.str o44⟩)], 74⟩ = some ⟨[(1, (V.sl 0 1 (List.map V.str a1))), (9, (V.aref 25 0 (List.map V.str o44).length)), (25, (V.aref 25 0 (List.map V.str o44).length)), (27, (sSlot (a0.fFields))), (28, (I (a0.fFields.length : Int))), (29, (I (Go.IntKind.wrap .i64 (x25 + 1))))], [(25, ⟨true, 1, List.map V.str o44⟩)], 74⟩ :=
  rE rfl
theorem screen_Take_L1_ok (k : Nat) (a0 : T_api_Form) (a1 : (List Str))  (K0 : Int → (List Str) → Option ((List Str) × Int)) (Kst : X × St → Option (V × List V)) (hK0 : ∀ (y0 : Int) (y1 : (List Str)), Kst (X.exit 0, ⟨[(1, (V.sl 0 1 (List.map V.str a1))), (9, (V.aref 25 0 (List.map V.str y1).length)), (25, (V.aref 25 0 (List.map V.str y1).length)), (27, (sSlot (a0.fFields))), (28, (I (a0.fFields.length : Int))), (29, (I y0)), (30, (V.bool false))], [(25, ⟨true, 1, List.map V.str y1⟩)], 74⟩) = (K0 y0 y1).map screen_Take_fin) (hret : ∀ s, Kst (X.ret, s) = endK prog 74 [(enc_T_api_Form a0), (V.sl 0 1 (List.map V.str a1))] [] [.tmp 4, .tmp 5] (X.ret, s)) :
    ∀ (m : Nat) (x25 : Int) (x26 : (List Str)), (iter (exec prog (EV k) f14n k f14b1) m ⟨[(1, (V.sl 0 1 (List.map V.str a1))), (9, (V.aref 25 0 (List.map V.str x26).length)), (25, (V.aref 25 0 (List.map V.str x26).length)), (27, (sSlot (a0.fFields))), (28, (I (a0.fFields.length : Int))), (29, (I x25))], [(25, ⟨true, 1, List.map V.str x26⟩)], 74⟩).bind Kst = (screen_Take_L1 k a0 a1 K0 m x25 x26).map screen_Take_fin := by
  intro m
  induction m with
  | zero => intros; rfl
  | succ m ih =>
    intro x25 x26
    unfold screen_Take_L1
    refine Eq.trans k_round ?_
    refine Eq.trans (k_region0 rfl (f14r7 k a0 a1 x25 x26)) ?_
    refine Eq.trans (k_cond (t := (decide (x25 < (a0.fFields.length : Int)))) rfl rfl) ?_
    refine bifE2 (fun hc => ?_) fun hc => ?_
    · rw [hc]
      refine Eq.trans k_skip ?_
      refine Eq.trans (k_block rfl) ?_
      refine Eq.trans (k_region rfl (f14r8 k a0 a1 x25 x26)) ?_
      refine bindE (fun o28 => ?_)
      refine Eq.trans k_assoc ?_
      refine Eq.trans (k_region0 rfl (f14r9 k a0 a1 x25 x26 o28)) ?_
      refine Eq.trans (k_cond (t := (decide (o28.fIn < 0))) rfl rfl) ?_
      refine bifE2 (fun hc => ?_) fun hc => ?_
      · rw [hc]
        refine Eq.trans k_exit ?_
        refine Eq.trans blk_exit ?_
        refine Eq.trans (k_lregion0 rfl (f14r14 k a0 a1 x25 x26 o28)) ?_
        refine Eq.trans loop_normal ?_
        exact ih (Go.IntKind.wrap .i64 (x25 + 1)) x26
      · rw [hc]
        refine Eq.trans k_skip ?_
        refine Eq.trans (k_region rfl (f14r10 k a0 a1 x25 x26 o28)) ?_
        refine bindE (fun o31 => ?_)
        refine Eq.trans (k_block rfl) ?_
        refine Eq.trans k_loop ?_
        refine screen_Take_L2_ok k a0 a1 x25 x26 o28 _ _ ?h_screen_Take_L2_0 ?hr_screen_Take_L2 k o31
        · intro y41
          refine Eq.trans blk_exit ?_
          refine Eq.trans (k_lregion rfl (f14r13 k a0 a1 x25 x26 o28 y41)) ?_
          refine bindE (fun o44 => ?_)
          refine Eq.trans blk_normal ?_
          refine Eq.trans (k_lregion0 rfl (screen_Take_r14' k a0 a1 x25 o44)) ?_
          refine Eq.trans loop_normal ?_
          exact ih (Go.IntKind.wrap .i64 (x25 + 1)) o44
        · intro s; exact hret s
    · rw [hc]
      refine Eq.trans k_exit ?_
      refine Eq.trans loop_exit ?_
      exact hK0 x25 x26
theorem f14r15 (k : Nat) (a0 : T_api_Form) (a1 : (List Str)) (y45 : Int) (y46 : (List Str)) : RE k f14a15 f14o15 false ⟨[(1, (V.sl 0 1 (List.map V.str a1))), (9, (V.aref 25 0 (List.map V.str y46).length)), (25, (V.aref 25 0 (List.map V.str y46).length)), (27, (sSlot (a0.fFields))), (28, (I (a0.fFields.length : Int))), (29, (I y45)), (30, (V.bool false))], [(25, ⟨true, 1, List.map V.str y46⟩)], 74⟩ = some ⟨[(4, (V.sl 0 1 (List.map V.str y46))), (5, (I 0))], [], 74⟩ := by
  refine rg ?_
  refine ra 1 1 ⟨[(1, (V.sl 0 1 (List.map V.str a1))), (9, (V.aref 25 0 (List.map V.str y46).length)), (25, (V.aref 25 0 (List.map V.str y46).length)), (27, (sSlot (a0.fFields))), (28, (I (a0.fFields.length : Int))), (29, (I y45)), (30, (V.bool false)), (73, (V.aref 25 0 (List.map V.str y46).length))], [(25, ⟨true, 1, List.map V.str y46⟩)], 74⟩ rfl rfl rfl ?_
  refine Eq.trans (reg_eff (x := some ()) (w := fun _ => ((V.sl 2 1 (List.map V.str y46)), _)) rfl rfl rfl rfl (p_close (e := V.str) rfl rfl rfl rfl rfl (of_decide_eq_true rfl))) ?_
  refine Eq.trans some_bind ?_
  exact bind_end rfl
theorem screen_Take_ok (k : Nat) (a0 : T_api_Form) (a1 : (List Str)) : EV k 14 [(enc_T_api_Form a0), (V.sl 0 1 (List.map V.str a1))] = (screen_Take k a0 a1).map screen_Take_fin := by
  cases k with
  | zero => rfl
  | succ k =>
    unfold screen_Take
    refine Eq.trans (evF_succ (c := f14c) (N := 74) (regs := f14n) rfl Go.Proofs.Try.func14 rfl (by decide) rfl rfl rfl) ?_
    refine Eq.trans (k_region0 rfl (f14r0 k a0 a1)) ?_
    refine Eq.trans k_assoc ?_
    refine Eq.trans (k_region rfl (f14r1 k a0 a1)) ?_
    refine bindE (fun o2 => ?_)
    refine Eq.trans k_assoc ?_
    refine Eq.trans (k_region0 rfl (f14r2 k a0 a1 o2)) ?_
    refine Eq.trans (k_cond (t := (o2 != 0)) rfl rfl) ?_
    refine bifE2 (fun hc => ?_) fun hc => ?_
    · rw [hc]
      refine Eq.trans k_assoc ?_
      refine Eq.trans (k_region0 rfl (f14r3 k a0 a1 o2)) ?_
      refine Eq.trans k_ret ?_
      rfl
    · rw [hc]
      refine Eq.trans k_skip ?_
      refine Eq.trans (k_region rfl (f14r4 k a0 a1 o2)) ?_
      refine bindE (fun o4 => ?_)
      refine Eq.trans (k_region rfl (f14r5 k a0 a1 o4)) ?_
      refine bindE (fun o6 => ?_)
      refine Eq.trans k_assoc ?_
      refine Eq.trans (k_region0 rfl (f14r6 k a0 a1 o6)) ?_
      refine Eq.trans (k_block rfl) ?_
      refine Eq.trans k_loop ?_
      refine screen_Take_L1_ok k a0 a1 _ _ ?h_screen_Take_L1_0 ?hr_screen_Take_L1 k 0 o6
      · intro y45 y46
        refine Eq.trans blk_exit ?_
        refine Eq.trans (k_region0 rfl (f14r15 k a0 a1 y45 y46)) ?_
        refine Eq.trans k_lret ?_
        rfl
      · intro s; exact rfl
def ref01_SameTexts_fin : Bool → V × List V := fun r => ((V.bool r), [])
theorem f13r0 (k : Nat) (a0 : (List Str)) (a1 : (List Str)) : RE k f13a0 f13o0 false ⟨[(0, (V.sl 0 1 (List.map V.str a0))), (1, (V.sl 0 1 (List.map V.str a1)))], [], 26⟩ = some ⟨[(0, (V.sl 0 1 (List.map V.str a0))), (1, (V.sl 0 1 (List.map V.str a1)))], [], 26⟩ :=
  rE rfl
theorem f13r1 (k : Nat) (a0 : (List Str)) (a1 : (List Str)) : RE k f13a1 f13o1 false ⟨[(0, (V.sl 0 1 (List.map V.str a0))), (1, (V.sl 0 1 (List.map V.str a1)))], [], 26⟩ = some ⟨[(0, (V.sl 0 1 (List.map V.str a0))), (1, (V.sl 0 1 (List.map V.str a1))), (10, (V.bool ((a0.length : Int) != (a1.length : Int))))], [], 26⟩ := by
  refine rg ?_
  refine ra 1 1 ⟨[(0, (V.sl 0 1 (List.map V.str a0))), (1, (V.sl 0 1 (List.map V.str a1))), (6, (V.sl 0 1 (List.map V.str a0)))], [], 26⟩ rfl rfl rfl ?_
  refine Eq.trans (reg_pure (x := some ()) (w := fun _ => (I (a0.length : Int))) rfl rfl rfl rfl (p_len (e := V.str) rfl rfl rfl rfl rfl rfl Go.Proofs.Try.underlying26)) ?_
  refine Eq.trans some_bind ?_
  refine ba 1 3 ⟨[(0, (V.sl 0 1 (List.map V.str a0))), (1, (V.sl 0 1 (List.map V.str a1))), (6, (V.sl 0 1 (List.map V.str a0))), (7, (I (a0.length : Int))), (8, (V.sl 0 1 (List.map V.str a1)))], [], 26⟩ rfl rfl rfl ?_
  refine Eq.trans (reg_pure (x := some ()) (w := fun _ => (I (a1.length : Int))) rfl rfl rfl rfl (p_len (e := V.str) rfl rfl rfl rfl rfl rfl Go.Proofs.Try.underlying26)) ?_
  refine Eq.trans some_bind ?_
  exact bind_end rfl
theorem f13r2 (k : Nat) (a0 : (List Str)) (a1 : (List Str)) : RE k f13a2 f13o2 false ⟨[(0, (V.sl 0 1 (List.map V.str a0))), (1, (V.sl 0 1 (List.map V.str a1))), (10, (V.bool true))], [], 26⟩ = some ⟨[(4, (V.bool false))], [], 26⟩ :=
  rE rfl
theorem f13r3 (k : Nat) (a0 : (List Str)) (a1 : (List Str)) : RE k f13a3 f13o3 false ⟨[(0, (V.sl 0 1 (List.map V.str a0))), (1, (V.sl 0 1 (List.map V.str a1))), (10, (V.bool false))], [], 26⟩ = some ⟨[(0, (V.sl 0 1 (List.map V.str a0))), (1, (V.sl 0 1 (List.map V.str a1))), (5, (I 0))], [], 26⟩ :=
  rE rfl
theorem f13r4 (k : Nat) (a0 : (List Str)) (a1 : (List Str)) (x4 : Int) : RE k f13a4 f13o4 false ⟨[(0, (V.sl 0 1 (List.map V.str a0))), (1, (V.sl 0 1 (List.map V.str a1))), (5, (I x4))], [], 26⟩ = some ⟨[(0, (V.sl 0 1 (List.map V.str a0))), (1, (V.sl 0 1 (List.map V.str a1))), (5, (I x4)), (14, (V.bool (decide (x4 < (a0.length : Int)))))], [], 26⟩ := by
  refine rg ?_
  refine ra 2 2 ⟨[(0, (V.sl 0 1 (List.map V.str a0))), (1, (V.sl 0 1 (List.map V.str a1))), (5, (I x4)), (11, (I x4)), (12, (V.sl 0 1 (List.map V.str a0)))], [], 26⟩ rfl rfl rfl ?_
  refine Eq.trans (reg_pure (x := some ()) (w := fun _ => (I (a0.length : Int))) rfl rfl rfl rfl (p_len (e := V.str) rfl rfl rfl rfl rfl rfl Go.Proofs.Try.underlying26)) ?_
  refine Eq.trans some_bind ?_
  exact bind_end rfl
theorem f13r6 (k : Nat) (a0 : (List Str)) (a1 : (List Str)) (x4 : Int) : RE k f13a6 f13o6 true ⟨[(0, (V.sl 0 1 (List.map V.str a0))), (1, (V.sl 0 1 (List.map V.str a1))), (5, (I x4)), (14, (V.bool true))], [], 26⟩ = (((idx a0 x4).bind fun v5 => ((idx a1 x4).bind fun v6 => (some ((!(v5 == v6))))))).map (fun (o : Bool) => (⟨[(0, (V.sl 0 1 (List.map V.str a0))), (1, (V.sl 0 1 (List.map V.str a1))), (5, (I x4)), (25, (V.bool o))], [], 26⟩ : St)) := by
  refine Eq.trans (regionE_regp (p := 9) (dk := true) (t := [(0, (V.sl 0 1 (List.map V.str a0))), (1, (V.sl 0 1 (List.map V.str a1))), (5, (I x4)), (14, (V.bool true))]) (σ := []) (n := 26) rfl (by decide) (by decide) rfl) ?_
  refine Eq.trans (regp_adv (m := 2) (j := 2) (t' := [(0, (V.sl 0 1 (List.map V.str a0))), (1, (V.sl 0 1 (List.map V.str a1))), (5, (I x4)), (14, (V.bool true)), (17, (V.sl 0 1 (List.map V.str a0))), (18, (I x4))]) rfl rfl rfl) ?_
  refine Eq.trans (regp_pure (x := (idx a0 x4)) (w := fun v5 => (V.pro (V.str v5))) rfl rfl rfl rfl rfl (p_index (e := V.str) rfl rfl rfl Go.Proofs.Try.underlying26 rfl (by decide))) ?_
  refine bindE (fun v5 => ?_)
  refine Eq.trans (putp_adv (m := 3) (j := 6) (t' := [(0, (V.sl 0 1 (List.map V.str a0))), (1, (V.sl 0 1 (List.map V.str a1))), (5, (I x4)), (14, (V.bool true)), (17, (V.sl 0 1 (List.map V.str a0))), (18, (I x4)), (19, (V.pro (V.str v5))), (20, (V.str v5)), (21, (V.sl 0 1 (List.map V.str a1))), (22, (I x4))]) rfl rfl rfl) ?_
  refine Eq.trans (regp_pure (x := (idx a1 x4)) (w := fun v6 => (V.pro (V.str v6))) rfl rfl rfl rfl rfl (p_index (e := V.str) rfl rfl rfl Go.Proofs.Try.underlying26 rfl (by decide))) ?_
  refine bindE (fun v6 => ?_)
  exact regp_end rfl
theorem f13r7 (k : Nat) (a0 : (List Str)) (a1 : (List Str)) (x4 : Int) : RE k f13a7 f13o7 false ⟨[(0, (V.sl 0 1 (List.map V.str a0))), (1, (V.sl 0 1 (List.map V.str a1))), (5, (I x4)), (25, (V.bool true))], [], 26⟩ = some ⟨[(4, (V.bool false))], [], 26⟩ :=
  rE rfl
theorem f13r5 (k : Nat) (a0 : (List Str)) (a1 : (List Str)) (x4 : Int) : RE k f13a5 f13o5 false ⟨[(0, (V.sl 0 1 (List.map V.str a0))), (1, (V.sl 0 1 (List.map V.str a1))), (5, (I x4)), (25, (V.bool false))], [], 26⟩ = some ⟨[(0, (V.sl 0 1 (List.map V.str a0))), (1, (V.sl 0 1 (List.map V.str a1))), (5, (I (Go.IntKind.wrap .i64 (x4 + 1))))], [], 26⟩ :=
  rE rfl
theorem ref01_SameTexts_L1_ok (k : Nat) (a0 : (List Str)) (a1 : (List Str))  (K0 : Int → Option Bool) (Kst : X × St → Option (V × List V)) (hK0 : ∀ (y0 : Int), Kst (X.exit 0, ⟨[(0, (V.sl 0 1 (List.map V.str a0))), (1, (V.sl 0 1 (List.map V.str a1))), (5, (I y0)), (14, (V.bool false))], [], 26⟩) = (K0 y0).map ref01_SameTexts_fin) (hret : ∀ s, Kst (X.ret, s) = endK prog 26 [(V.sl 0 1 (List.map V.str a0)), (V.sl 0 1 (List.map V.str a1))] [] [.tmp 4] (X.ret, s)) :
    ∀ (m : Nat) (x4 : Int), (iter (exec prog (EV k) f13n k f13b0) m ⟨[(0, (V.sl 0 1 (List.map V.str a0))), (1, (V.sl 0 1 (List.map V.str a1))), (5, (I x4))], [], 26⟩).bind Kst = (ref01_SameTexts_L1 a0 a1 K0 m x4).map ref01_SameTexts_fin := by
  intro m
  induction m with
  | zero => intros; rfl
  | succ m ih =>
    intro x4
    unfold ref01_SameTexts_L1
    refine Eq.trans k_round ?_
    refine Eq.trans k_assoc ?_
    refine Eq.trans (k_region0 rfl (f13r4 k a0 a1 x4)) ?_
    refine Eq.trans (k_cond (t := (decide (x4 < (a0.length : Int)))) rfl rfl) ?_
    refine bifE2 (fun hc => ?_) fun hc => ?_
    · rw [hc]
      refine Eq.trans k_skip ?_
      refine Eq.trans (k_block rfl) ?_
      refine Eq.trans (k_region rfl (f13r6 k a0 a1 x4)) ?_
      refine bindE (fun o7 => ?_)
      refine Eq.trans (k_lcond (t := o7) rfl rfl) ?_
      refine bifE2 (fun hc => ?_) fun hc => ?_
      · rw [hc]
        refine Eq.trans (k_region0 rfl (f13r7 k a0 a1 x4)) ?_
        refine Eq.trans k_lret ?_
        refine Eq.trans blk_ret ?_
        refine Eq.trans loop_ret ?_
        refine Eq.trans (hret _) ?_
        rfl
      · rw [hc]
        refine Eq.trans k_lskip ?_
        refine Eq.trans blk_normal ?_
        refine Eq.trans (k_lregion0 rfl (f13r5 k a0 a1 x4)) ?_
        refine Eq.trans loop_normal ?_
        exact ih (Go.IntKind.wrap .i64 (x4 + 1))
    · rw [hc]
      refine Eq.trans k_exit ?_
      refine Eq.trans loop_exit ?_
      exact hK0 x4
theorem f13r8 (k : Nat) (a0 : (List Str)) (a1 : (List Str)) (y8 : Int) : RE k f13a8 f13o8 false ⟨[(0, (V.sl 0 1 (List.map V.str a0))), (1, (V.sl 0 1 (List.map V.str a1))), (5, (I y8)), (14, (V.bool false))], [], 26⟩ = some ⟨[(4, (V.bool true))], [], 26⟩ :=
  rE rfl
theorem ref01_SameTexts_ok (k : Nat) (a0 : (List Str)) (a1 : (List Str)) : EV k 13 [(V.sl 0 1 (List.map V.str a0)), (V.sl 0 1 (List.map V.str a1))] = (ref01_SameTexts k a0 a1).map ref01_SameTexts_fin := by
  cases k with
  | zero => rfl
  | succ k =>
    unfold ref01_SameTexts
    refine Eq.trans (evF_succ (c := f13c) (N := 26) (regs := f13n) rfl Go.Proofs.Try.func13 rfl (by decide) rfl rfl rfl) ?_
    refine Eq.trans (k_region0 rfl (f13r0 k a0 a1)) ?_
    refine Eq.trans k_assoc ?_
    refine Eq.trans (k_region0 rfl (f13r1 k a0 a1)) ?_
    refine Eq.trans (k_cond (t := ((a0.length : Int) != (a1.length : Int))) rfl rfl) ?_
    refine bifE2 (fun hc => ?_) fun hc => ?_
    · rw [hc]
      refine Eq.trans k_assoc ?_
      refine Eq.trans (k_region0 rfl (f13r2 k a0 a1)) ?_
      refine Eq.trans k_ret ?_
      rfl
    · rw [hc]
      refine Eq.trans k_skip ?_
      refine Eq.trans k_assoc ?_
      refine Eq.trans (k_region0 rfl (f13r3 k a0 a1)) ?_
      refine Eq.trans (k_block rfl) ?_
      refine Eq.trans k_loop ?_
      refine ref01_SameTexts_L1_ok k a0 a1 _ _ ?h_ref01_SameTexts_L1_0 ?hr_ref01_SameTexts_L1 k 0
      · intro y8
        refine Eq.trans blk_exit ?_
        refine Eq.trans (k_region0 rfl (f13r8 k a0 a1 y8)) ?_
        refine Eq.trans k_lret ?_
        rfl
      · intro s; exact rfl
def law24_Awake_fin : Bool → V × List V := fun r => ((V.bool r), [])
theorem f10r0 (k : Nat)  : RE k f10a0 f10o0 false ⟨[], [], 45⟩ = some ⟨[], [], 45⟩ :=
  rE rfl
theorem f10r1 (k : Nat)  : RE k f10a1 f10o1 false ⟨[], [], 45⟩ = some ⟨[(1, (V.ptr 1 0 0))], [(1, ⟨false, 4, [(enc_T_api_Form ({ fRows := 2, fColumns := 20, fMarks := ([({ fRow := 0, fColumn := 0, fText := ([78, 65, 77, 69, 58] : Str) } : T_api_Mark)] : List T_api_Mark), fFields := ([({ fName := ([65] : Str), fRow := 0, fColumn := 6, fBytes := 5, fIn := 0, fOut := 0, fFill := 95 } : T_api_Slot)] : List T_api_Slot) } : T_api_Form))]⟩)], 45⟩ :=
  rE rfl
theorem f10r2 (k : Nat)  : RE k f10a2 f10o2 false ⟨[(1, (V.ptr 1 0 0))], [(1, ⟨false, 4, [(enc_T_api_Form ({ fRows := 2, fColumns := 20, fMarks := ([({ fRow := 0, fColumn := 0, fText := ([78, 65, 77, 69, 58] : Str) } : T_api_Mark)] : List T_api_Mark), fFields := ([({ fName := ([65] : Str), fRow := 0, fColumn := 6, fBytes := 5, fIn := 0, fOut := 0, fFill := 95 } : T_api_Slot)] : List T_api_Slot) } : T_api_Form))]⟩)], 45⟩ = (((screen_Show k ({ fRows := 2, fColumns := 20, fMarks := ([({ fRow := 0, fColumn := 0, fText := ([78, 65, 77, 69, 58] : Str) } : T_api_Mark)] : List T_api_Mark), fFields := ([({ fName := ([65] : Str), fRow := 0, fColumn := 6, fBytes := 5, fIn := 0, fOut := 0, fFill := 95 } : T_api_Slot)] : List T_api_Slot) } : T_api_Form) ([([65, 66] : Str)] : List Str)).bind fun v1 => (some (v1.1, v1.2)))).map (fun (o : (List Str) × Int) => (⟨[(1, (V.ptr 1 0 0)), (2, (V.sl 0 1 (List.map V.str o.1))), (3, (I o.2))], [(1, ⟨false, 4, [(enc_T_api_Form ({ fRows := 2, fColumns := 20, fMarks := ([({ fRow := 0, fColumn := 0, fText := ([78, 65, 77, 69, 58] : Str) } : T_api_Mark)] : List T_api_Mark), fFields := ([({ fName := ([65] : Str), fRow := 0, fColumn := 6, fBytes := 5, fIn := 0, fOut := 0, fFill := 95 } : T_api_Slot)] : List T_api_Slot) } : T_api_Form))]⟩)], 45⟩ : St)) := by
  refine rg ?_
  refine ra 2 2 ⟨[(1, (V.ptr 1 0 0)), (12, (enc_T_api_Form ({ fRows := 2, fColumns := 20, fMarks := ([({ fRow := 0, fColumn := 0, fText := ([78, 65, 77, 69, 58] : Str) } : T_api_Mark)] : List T_api_Mark), fFields := ([({ fName := ([65] : Str), fRow := 0, fColumn := 6, fBytes := 5, fIn := 0, fOut := 0, fFill := 95 } : T_api_Slot)] : List T_api_Slot) } : T_api_Form))), (13, (V.sl 0 1 (List.map V.str ([([65, 66] : Str)] : List Str))))], [(1, ⟨false, 4, [(enc_T_api_Form ({ fRows := 2, fColumns := 20, fMarks := ([({ fRow := 0, fColumn := 0, fText := ([78, 65, 77, 69, 58] : Str) } : T_api_Mark)] : List T_api_Mark), fFields := ([({ fName := ([65] : Str), fRow := 0, fColumn := 6, fBytes := 5, fIn := 0, fOut := 0, fFill := 95 } : T_api_Slot)] : List T_api_Slot) } : T_api_Form))]⟩)], 45⟩ rfl rfl rfl ?_
  refine Eq.trans (reg_pure (x := (screen_Show k ({ fRows := 2, fColumns := 20, fMarks := ([({ fRow := 0, fColumn := 0, fText := ([78, 65, 77, 69, 58] : Str) } : T_api_Mark)] : List T_api_Mark), fFields := ([({ fName := ([65] : Str), fRow := 0, fColumn := 6, fBytes := 5, fIn := 0, fOut := 0, fFill := 95 } : T_api_Slot)] : List T_api_Slot) } : T_api_Form) ([([65, 66] : Str)] : List Str))) (w := fun v1 => (V.tup [(V.sl 0 1 (List.map V.str v1.1)), (I v1.2)])) rfl rfl rfl rfl (p_call rfl rfl rfl rfl rfl (screen_Show_ok k ({ fRows := 2, fColumns := 20, fMarks := ([({ fRow := 0, fColumn := 0, fText := ([78, 65, 77, 69, 58] : Str) } : T_api_Mark)] : List T_api_Mark), fFields := ([({ fName := ([65] : Str), fRow := 0, fColumn := 6, fBytes := 5, fIn := 0, fOut := 0, fFill := 95 } : T_api_Slot)] : List T_api_Slot) } : T_api_Form) ([([65, 66] : Str)] : List Str)) (.inl rfl))) ?_
  refine bindE (fun v1 => ?_)
  exact bind_end rfl
theorem f10r3 (k : Nat) (o2 : (List Str) × Int) : RE k f10a3 f10o3 false ⟨[(1, (V.ptr 1 0 0)), (2, (V.sl 0 1 (List.map V.str o2.1))), (3, (I o2.2))], [(1, ⟨false, 4, [(enc_T_api_Form ({ fRows := 2, fColumns := 20, fMarks := ([({ fRow := 0, fColumn := 0, fText := ([78, 65, 77, 69, 58] : Str) } : T_api_Mark)] : List T_api_Mark), fFields := ([({ fName := ([65] : Str), fRow := 0, fColumn := 6, fBytes := 5, fIn := 0, fOut := 0, fFill := 95 } : T_api_Slot)] : List T_api_Slot) } : T_api_Form))]⟩)], 45⟩ = (((screen_Take k ({ fRows := 2, fColumns := 20, fMarks := ([({ fRow := 0, fColumn := 0, fText := ([78, 65, 77, 69, 58] : Str) } : T_api_Mark)] : List T_api_Mark), fFields := ([({ fName := ([65] : Str), fRow := 0, fColumn := 6, fBytes := 5, fIn := 0, fOut := 0, fFill := 95 } : T_api_Slot)] : List T_api_Slot) } : T_api_Form) o2.1).bind fun v3 => (some (v3.1, v3.2)))).map (fun (o : (List Str) × Int) => (⟨[(2, (V.sl 0 1 (List.map V.str o2.1))), (3, (I o2.2)), (4, (V.sl 0 1 (List.map V.str o.1))), (5, (I o.2))], [], 45⟩ : St)) := by
  refine rg ?_
  refine ra 2 2 ⟨[(1, (V.ptr 1 0 0)), (2, (V.sl 0 1 (List.map V.str o2.1))), (3, (I o2.2)), (18, (enc_T_api_Form ({ fRows := 2, fColumns := 20, fMarks := ([({ fRow := 0, fColumn := 0, fText := ([78, 65, 77, 69, 58] : Str) } : T_api_Mark)] : List T_api_Mark), fFields := ([({ fName := ([65] : Str), fRow := 0, fColumn := 6, fBytes := 5, fIn := 0, fOut := 0, fFill := 95 } : T_api_Slot)] : List T_api_Slot) } : T_api_Form))), (19, (V.sl 0 1 (List.map V.str o2.1)))], [(1, ⟨false, 4, [(enc_T_api_Form ({ fRows := 2, fColumns := 20, fMarks := ([({ fRow := 0, fColumn := 0, fText := ([78, 65, 77, 69, 58] : Str) } : T_api_Mark)] : List T_api_Mark), fFields := ([({ fName := ([65] : Str), fRow := 0, fColumn := 6, fBytes := 5, fIn := 0, fOut := 0, fFill := 95 } : T_api_Slot)] : List T_api_Slot) } : T_api_Form))]⟩)], 45⟩ rfl rfl rfl ?_
  refine Eq.trans (reg_pure (x := (screen_Take k ({ fRows := 2, fColumns := 20, fMarks := ([({ fRow := 0, fColumn := 0, fText := ([78, 65, 77, 69, 58] : Str) } : T_api_Mark)] : List T_api_Mark), fFields := ([({ fName := ([65] : Str), fRow := 0, fColumn := 6, fBytes := 5, fIn := 0, fOut := 0, fFill := 95 } : T_api_Slot)] : List T_api_Slot) } : T_api_Form) o2.1)) (w := fun v3 => (V.tup [(V.sl 0 1 (List.map V.str v3.1)), (I v3.2)])) rfl rfl rfl rfl (p_call rfl rfl rfl rfl rfl (screen_Take_ok k ({ fRows := 2, fColumns := 20, fMarks := ([({ fRow := 0, fColumn := 0, fText := ([78, 65, 77, 69, 58] : Str) } : T_api_Mark)] : List T_api_Mark), fFields := ([({ fName := ([65] : Str), fRow := 0, fColumn := 6, fBytes := 5, fIn := 0, fOut := 0, fFill := 95 } : T_api_Slot)] : List T_api_Slot) } : T_api_Form) o2.1) (.inl rfl))) ?_
  refine bindE (fun v3 => ?_)
  exact bind_end rfl
theorem f10r4 (k : Nat) (o2 : (List Str) × Int) (o4 : (List Str) × Int) : RE k f10a4 f10o4 false ⟨[(2, (V.sl 0 1 (List.map V.str o2.1))), (3, (I o2.2)), (4, (V.sl 0 1 (List.map V.str o4.1))), (5, (I o4.2))], [], 45⟩ = ((bif (o2.2 == 0) then (bif (o4.2 == 0) then (bif ((o2.1.length : Int) == 2) then ((idx o2.1 0).bind fun v5 => (bif (v5 == ([78, 65, 77, 69, 58, 32, 65, 66, 95, 95, 95, 32, 32, 32, 32, 32, 32, 32, 32, 32] : Str)) then (ref01_SameTexts k o4.1 ([([65, 66] : Str)] : List Str)) else (some (false)))) else (some (false))) else (some (false))) else (some (false)))).map (fun (o : Bool) => (⟨[(0, (V.bool o))], [], 45⟩ : St)) := by
  refine rg ?_
  refine ra 3 3 ⟨[(2, (V.sl 0 1 (List.map V.str o2.1))), (3, (I o2.2)), (4, (V.sl 0 1 (List.map V.str o4.1))), (5, (I o4.2)), (23, (I o2.2)), (24, (V.bool (o2.2 == 0))), (25, (V.bool (o2.2 == 0)))], [], 45⟩ rfl rfl rfl ?_
  refine bifE (c := (o2.2 == 0)) (fun hc => ?_) fun hc => ?_
  · rw [hc]
    refine ra 4 7 ⟨[(2, (V.sl 0 1 (List.map V.str o2.1))), (3, (I o2.2)), (4, (V.sl 0 1 (List.map V.str o4.1))), (5, (I o4.2)), (23, (I o2.2)), (24, (V.bool true)), (25, (V.bool true)), (26, (I o4.2)), (27, (V.bool (o4.2 == 0))), (28, (V.bool (o4.2 == 0))), (29, (V.bool (o4.2 == 0)))], [], 45⟩ rfl rfl rfl ?_
    refine bifE (c := (o4.2 == 0)) (fun hc => ?_) fun hc => ?_
    · rw [hc]
      refine ra 1 8 ⟨[(2, (V.sl 0 1 (List.map V.str o2.1))), (3, (I o2.2)), (4, (V.sl 0 1 (List.map V.str o4.1))), (5, (I o4.2)), (23, (I o2.2)), (24, (V.bool true)), (25, (V.bool true)), (26, (I o4.2)), (27, (V.bool true)), (28, (V.bool true)), (29, (V.bool true)), (30, (V.sl 0 1 (List.map V.str o2.1)))], [], 45⟩ rfl rfl rfl ?_
      refine Eq.trans (reg_pure (x := some ()) (w := fun _ => (I (o2.1.length : Int))) rfl rfl rfl rfl (p_len (e := V.str) rfl rfl rfl rfl rfl rfl Go.Proofs.Try.underlying26)) ?_
      refine Eq.trans some_bind ?_
      refine ba 3 12 ⟨[(2, (V.sl 0 1 (List.map V.str o2.1))), (3, (I o2.2)), (4, (V.sl 0 1 (List.map V.str o4.1))), (5, (I o4.2)), (23, (I o2.2)), (24, (V.bool true)), (25, (V.bool true)), (26, (I o4.2)), (27, (V.bool true)), (28, (V.bool true)), (29, (V.bool true)), (30, (V.sl 0 1 (List.map V.str o2.1))), (31, (I (o2.1.length : Int))), (32, (V.bool ((o2.1.length : Int) == 2))), (33, (V.bool ((o2.1.length : Int) == 2))), (34, (V.bool ((o2.1.length : Int) == 2)))], [], 45⟩ rfl rfl rfl ?_
      refine bifE (c := ((o2.1.length : Int) == 2)) (fun hc => ?_) fun hc => ?_
      · rw [hc]
        refine ra 1 13 ⟨[(2, (V.sl 0 1 (List.map V.str o2.1))), (3, (I o2.2)), (4, (V.sl 0 1 (List.map V.str o4.1))), (5, (I o4.2)), (23, (I o2.2)), (24, (V.bool true)), (25, (V.bool true)), (26, (I o4.2)), (27, (V.bool true)), (28, (V.bool true)), (29, (V.bool true)), (30, (V.sl 0 1 (List.map V.str o2.1))), (31, (I (o2.1.length : Int))), (32, (V.bool true)), (33, (V.bool true)), (34, (V.bool true)), (35, (V.sl 0 1 (List.map V.str o2.1)))], [], 45⟩ rfl rfl rfl ?_
        refine Eq.trans (reg_pure (x := (idx o2.1 0)) (w := fun v5 => (V.pro (V.str v5))) rfl rfl rfl rfl (p_index (e := V.str) rfl rfl rfl Go.Proofs.Try.underlying26 rfl (by decide))) ?_
        refine bindE (fun v5 => ?_)
        refine ba 4 18 ⟨[(2, (V.sl 0 1 (List.map V.str o2.1))), (3, (I o2.2)), (4, (V.sl 0 1 (List.map V.str o4.1))), (5, (I o4.2)), (23, (I o2.2)), (24, (V.bool true)), (25, (V.bool true)), (26, (I o4.2)), (27, (V.bool true)), (28, (V.bool true)), (29, (V.bool true)), (30, (V.sl 0 1 (List.map V.str o2.1))), (31, (I (o2.1.length : Int))), (32, (V.bool true)), (33, (V.bool true)), (34, (V.bool true)), (35, (V.sl 0 1 (List.map V.str o2.1))), (36, (V.pro (V.str v5))), (37, (V.str v5)), (38, (V.bool (v5 == ([78, 65, 77, 69, 58, 32, 65, 66, 95, 95, 95, 32, 32, 32, 32, 32, 32, 32, 32, 32] : Str)))), (39, (V.bool (v5 == ([78, 65, 77, 69, 58, 32, 65, 66, 95, 95, 95, 32, 32, 32, 32, 32, 32, 32, 32, 32] : Str)))), (40, (V.bool (v5 == ([78, 65, 77, 69, 58, 32, 65, 66, 95, 95, 95, 32, 32, 32, 32, 32, 32, 32, 32, 32] : Str))))], [], 45⟩ rfl rfl rfl ?_
        refine bifE (c := (v5 == ([78, 65, 77, 69, 58, 32, 65, 66, 95, 95, 95, 32, 32, 32, 32, 32, 32, 32, 32, 32] : Str))) (fun hc => ?_) fun hc => ?_
        · rw [hc]
          refine ra 2 20 ⟨[(2, (V.sl 0 1 (List.map V.str o2.1))), (3, (I o2.2)), (4, (V.sl 0 1 (List.map V.str o4.1))), (5, (I o4.2)), (23, (I o2.2)), (24, (V.bool true)), (25, (V.bool true)), (26, (I o4.2)), (27, (V.bool true)), (28, (V.bool true)), (29, (V.bool true)), (30, (V.sl 0 1 (List.map V.str o2.1))), (31, (I (o2.1.length : Int))), (32, (V.bool true)), (33, (V.bool true)), (34, (V.bool true)), (35, (V.sl 0 1 (List.map V.str o2.1))), (36, (V.pro (V.str v5))), (37, (V.str v5)), (38, (V.bool true)), (39, (V.bool true)), (40, (V.bool true)), (41, (V.sl 0 1 (List.map V.str o4.1))), (42, (V.sl 0 1 (List.map V.str ([([65, 66] : Str)] : List Str))))], [], 45⟩ rfl rfl rfl ?_
          refine Eq.trans (reg_pure (x := (ref01_SameTexts k o4.1 ([([65, 66] : Str)] : List Str))) (w := fun v6 => (V.bool v6)) rfl rfl rfl rfl (p_call rfl rfl rfl rfl rfl (ref01_SameTexts_ok k o4.1 ([([65, 66] : Str)] : List Str)) (.inl rfl))) ?_
          refine bind_self (fun v6 => ?_)
          exact bind_end rfl
        · rw [hc]
          exact reg_end rfl
      · rw [hc]
        exact reg_end rfl
    · rw [hc]
      exact reg_end rfl
  · rw [hc]
    exact reg_end rfl
theorem law24_Awake_ok (k : Nat)  : EV k 10 [] = (law24_Awake k).map law24_Awake_fin := by
  cases k with
  | zero => rfl
  | succ k =>
    unfold law24_Awake
    refine Eq.trans (evF_succ (c := f10c) (N := 45) (regs := f10n) rfl Go.Proofs.Try.func10 rfl (by decide) rfl rfl rfl) ?_
    refine Eq.trans (k_region0 rfl (f10r0 k)) ?_
    refine Eq.trans (k_region0 rfl (f10r1 k)) ?_
    refine Eq.trans (k_region rfl (f10r2 k)) ?_
    refine bindE (fun o2 => ?_)
    refine Eq.trans (k_region rfl (f10r3 k o2)) ?_
    refine bindE (fun o4 => ?_)
    refine Eq.trans (k_region rfl (f10r4 k o2 o4)) ?_
    refine bindE (fun o7 => ?_)
    refine Eq.trans k_lret ?_
    rfl
def slices_IndexFunc_Slot_v10_fin : Int → V × List V := fun r => ((I r), [])
theorem f61v10r0 (k : Nat) (a0 : (List T_api_Slot)) (a1 : Nat → T_api_Slot → Option Bool) (a1_fid : Go.FuncId)  (a1_hok : ∀ j x0, EV j a1_fid [(enc_T_api_Slot x0)] = (a1 j x0).map fun b => ((V.bool b), [])) : RE k f61v10a0 f61v10o0 false ⟨[(0, (sSlot a0)), (1, (V.fn a1_fid [] []))], [], 19⟩ = some ⟨[(0, (sSlot a0)), (1, (V.fn a1_fid [] []))], [], 19⟩ :=
  rE rfl
theorem f61v10r1 (k : Nat) (a0 : (List T_api_Slot)) (a1 : Nat → T_api_Slot → Option Bool) (a1_fid : Go.FuncId)  (a1_hok : ∀ j x0, EV j a1_fid [(enc_T_api_Slot x0)] = (a1 j x0).map fun b => ((V.bool b), [])) : RE k f61v10a1 f61v10o1 false ⟨[(0, (sSlot a0)), (1, (V.fn a1_fid [] []))], [], 19⟩ = some ⟨[(0, (sSlot a0)), (1, (V.fn a1_fid [] [])), (7, (I (a0.length : Int))), (8, (I 0))], [], 19⟩ := by
  refine rg ?_
  refine ra 1 1 ⟨[(0, (sSlot a0)), (1, (V.fn a1_fid [] [])), (6, (sSlot a0))], [], 19⟩ rfl rfl rfl ?_
  refine Eq.trans (reg_pure (x := some ()) (w := fun _ => (I (a0.length : Int))) rfl rfl rfl rfl (p_len (e := enc_T_api_Slot) rfl rfl rfl rfl rfl rfl Go.Proofs.Try.underlying23)) ?_
  refine Eq.trans some_bind ?_
  exact bind_end rfl
theorem f61v10r2 (k : Nat) (a0 : (List T_api_Slot)) (x4 : Int) (a1 : Nat → T_api_Slot → Option Bool) (a1_fid : Go.FuncId)  (a1_hok : ∀ j x0, EV j a1_fid [(enc_T_api_Slot x0)] = (a1 j x0).map fun b => ((V.bool b), [])) : RE k f61v10a2 f61v10o2 false ⟨[(0, (sSlot a0)), (1, (V.fn a1_fid [] [])), (7, (I (a0.length : Int))), (8, (I x4))], [], 19⟩ = some ⟨[(0, (sSlot a0)), (1, (V.fn a1_fid [] [])), (7, (I (a0.length : Int))), (8, (I x4)), (9, (V.bool (decide (x4 < (a0.length : Int)))))], [], 19⟩ :=
  rE rfl
theorem f61v10r3 (k : Nat) (a0 : (List T_api_Slot)) (x4 : Int) (a1 : Nat → T_api_Slot → Option Bool) (a1_fid : Go.FuncId)  (a1_hok : ∀ j x0, EV j a1_fid [(enc_T_api_Slot x0)] = (a1 j x0).map fun b => ((V.bool b), [])) : RE k f61v10a3 f61v10o3 false ⟨[(0, (sSlot a0)), (1, (V.fn a1_fid [] [])), (7, (I (a0.length : Int))), (8, (I x4)), (9, (V.bool true))], [], 19⟩ = some ⟨[(0, (sSlot a0)), (1, (V.fn a1_fid [] [])), (5, (I x4)), (7, (I (a0.length : Int))), (8, (I x4))], [], 19⟩ :=
  rE rfl
theorem f61v10r4 (k : Nat) (a0 : (List T_api_Slot)) (x4 : Int) (a1 : Nat → T_api_Slot → Option Bool) (a1_fid : Go.FuncId)  (a1_hok : ∀ j x0, EV j a1_fid [(enc_T_api_Slot x0)] = (a1 j x0).map fun b => ((V.bool b), [])) : RE k f61v10a4 f61v10o4 false ⟨[(0, (sSlot a0)), (1, (V.fn a1_fid [] [])), (5, (I x4)), (7, (I (a0.length : Int))), (8, (I x4))], [], 19⟩ = (((idx a0 x4).bind fun v5 => (a1 k v5))).map (fun (o : Bool) => (⟨[(0, (sSlot a0)), (1, (V.fn a1_fid [] [])), (5, (I x4)), (7, (I (a0.length : Int))), (8, (I x4)), (16, (V.bool o))], [], 19⟩ : St)) := by
  refine rg ?_
  refine ra 3 3 ⟨[(0, (sSlot a0)), (1, (V.fn a1_fid [] [])), (5, (I x4)), (7, (I (a0.length : Int))), (8, (I x4)), (11, (V.fn a1_fid [] [])), (12, (sSlot a0)), (13, (I x4))], [], 19⟩ rfl rfl rfl ?_
  refine Eq.trans (reg_pure (x := (idx a0 x4)) (w := fun v5 => (V.pro (enc_T_api_Slot v5))) rfl rfl rfl rfl (p_index (e := enc_T_api_Slot) rfl rfl rfl Go.Proofs.Try.underlying23 rfl (by decide))) ?_
  refine bindE (fun v5 => ?_)
  refine ba 1 5 ⟨[(0, (sSlot a0)), (1, (V.fn a1_fid [] [])), (5, (I x4)), (7, (I (a0.length : Int))), (8, (I x4)), (11, (V.fn a1_fid [] [])), (12, (sSlot a0)), (13, (I x4)), (14, (V.pro (enc_T_api_Slot v5))), (15, (enc_T_api_Slot v5))], [], 19⟩ rfl rfl rfl ?_
  refine Eq.trans (reg_pure (x := (a1 k v5)) (w := fun v6 => (V.bool v6)) rfl rfl rfl rfl (p_call rfl rfl rfl rfl rfl (a1_hok k v5) (.inl rfl))) ?_
  refine bind_self (fun v6 => ?_)
  exact bind_end rfl
theorem f61v10r5 (k : Nat) (a0 : (List T_api_Slot)) (x4 : Int) (a1 : Nat → T_api_Slot → Option Bool) (a1_fid : Go.FuncId)  (a1_hok : ∀ j x0, EV j a1_fid [(enc_T_api_Slot x0)] = (a1 j x0).map fun b => ((V.bool b), [])) : RE k f61v10a5 f61v10o5 false ⟨[(0, (sSlot a0)), (1, (V.fn a1_fid [] [])), (5, (I x4)), (7, (I (a0.length : Int))), (8, (I x4)), (16, (V.bool true))], [], 19⟩ = some ⟨[(4, (I x4))], [], 19⟩ :=
  rE rfl
theorem f61v10r6 (k : Nat) (a0 : (List T_api_Slot)) (x4 : Int) (a1 : Nat → T_api_Slot → Option Bool) (a1_fid : Go.FuncId)  (a1_hok : ∀ j x0, EV j a1_fid [(enc_T_api_Slot x0)] = (a1 j x0).map fun b => ((V.bool b), [])) : RE k f61v10a6 f61v10o6 false ⟨[(0, (sSlot a0)), (1, (V.fn a1_fid [] [])), (5, (I x4)), (7, (I (a0.length : Int))), (8, (I x4)), (16, (V.bool false))], [], 19⟩ = some ⟨[(0, (sSlot a0)), (1, (V.fn a1_fid [] [])), (7, (I (a0.length : Int))), (8, (I (Go.IntKind.wrap .i64 (x4 + 1))))], [], 19⟩ :=
  rE rfl
theorem slices_IndexFunc_Slot_v10_L1_ok (k : Nat) (a0 : (List T_api_Slot)) (a1 : Nat → T_api_Slot → Option Bool) (a1_fid : Go.FuncId)  (a1_hok : ∀ j x0, EV j a1_fid [(enc_T_api_Slot x0)] = (a1 j x0).map fun b => ((V.bool b), [])) (K0 : Int → Option Int) (Kst : X × St → Option (V × List V)) (hK0 : ∀ (y0 : Int), Kst (X.exit 0, ⟨[(0, (sSlot a0)), (1, (V.fn a1_fid [] [])), (7, (I (a0.length : Int))), (8, (I y0)), (9, (V.bool false))], [], 19⟩) = (K0 y0).map slices_IndexFunc_Slot_v10_fin) (hret : ∀ s, Kst (X.ret, s) = endK prog 19 [(sSlot a0), (V.fn a1_fid [] [])] [] [.tmp 4] (X.ret, s)) :
    ∀ (m : Nat) (x4 : Int), (iter (exec prog (EV k) f61v10n k f61v10b0) m ⟨[(0, (sSlot a0)), (1, (V.fn a1_fid [] [])), (7, (I (a0.length : Int))), (8, (I x4))], [], 19⟩).bind Kst = (slices_IndexFunc_Slot_v10_L1 k a0 a1 K0 m x4).map slices_IndexFunc_Slot_v10_fin := by
  intro m
  induction m with
  | zero => intros; rfl
  | succ m ih =>
    intro x4
    unfold slices_IndexFunc_Slot_v10_L1
    refine Eq.trans k_round ?_
    refine Eq.trans (k_region0 rfl (f61v10r2 k a0 x4 a1 a1_fid a1_hok)) ?_
    refine Eq.trans (k_cond (t := (decide (x4 < (a0.length : Int)))) rfl rfl) ?_
    refine bifE2 (fun hc => ?_) fun hc => ?_
    · rw [hc]
      refine Eq.trans k_skip ?_
      refine Eq.trans (k_block rfl) ?_
      refine Eq.trans (k_region0 rfl (f61v10r3 k a0 x4 a1 a1_fid a1_hok)) ?_
      refine Eq.trans (k_region rfl (f61v10r4 k a0 x4 a1 a1_fid a1_hok)) ?_
      refine bindE (fun o7 => ?_)
      refine Eq.trans (k_lcond (t := o7) rfl rfl) ?_
      refine bifE2 (fun hc => ?_) fun hc => ?_
      · rw [hc]
        refine Eq.trans (k_region0 rfl (f61v10r5 k a0 x4 a1 a1_fid a1_hok)) ?_
        refine Eq.trans k_lret ?_
        refine Eq.trans blk_ret ?_
        refine Eq.trans loop_ret ?_
        refine Eq.trans (hret _) ?_
        rfl
      · rw [hc]
        refine Eq.trans k_lskip ?_
        refine Eq.trans blk_normal ?_
        refine Eq.trans (k_lregion0 rfl (f61v10r6 k a0 x4 a1 a1_fid a1_hok)) ?_
        refine Eq.trans loop_normal ?_
        exact ih (Go.IntKind.wrap .i64 (x4 + 1))
    · rw [hc]
      refine Eq.trans k_exit ?_
      refine Eq.trans loop_exit ?_
      exact hK0 x4
theorem f61v10r7 (k : Nat) (a0 : (List T_api_Slot)) (y8 : Int) (a1 : Nat → T_api_Slot → Option Bool) (a1_fid : Go.FuncId)  (a1_hok : ∀ j x0, EV j a1_fid [(enc_T_api_Slot x0)] = (a1 j x0).map fun b => ((V.bool b), [])) : RE k f61v10a7 f61v10o7 false ⟨[(0, (sSlot a0)), (1, (V.fn a1_fid [] [])), (7, (I (a0.length : Int))), (8, (I y8)), (9, (V.bool false))], [], 19⟩ = some ⟨[(4, (I (-1)))], [], 19⟩ :=
  rE rfl
theorem slices_IndexFunc_Slot_v10_ok (k : Nat) (a0 : (List T_api_Slot)) (a1 : Nat → T_api_Slot → Option Bool) (a1_fid : Go.FuncId)  (a1_hok : ∀ j x0, EV j a1_fid [(enc_T_api_Slot x0)] = (a1 j x0).map fun b => ((V.bool b), [])) : EV k 61 [(sSlot a0), (V.fn a1_fid [] [])] = (slices_IndexFunc_Slot_v10 k a0 a1).map slices_IndexFunc_Slot_v10_fin := by
  cases k with
  | zero => rfl
  | succ k =>
    unfold slices_IndexFunc_Slot_v10
    refine Eq.trans (evF_succ (c := f61v10c) (N := 19) (regs := f61v10n) rfl Go.Proofs.Try.func61 rfl (by decide) rfl rfl rfl) ?_
    refine Eq.trans (k_region0 rfl (f61v10r0 k a0 a1 a1_fid a1_hok)) ?_
    refine Eq.trans k_assoc ?_
    refine Eq.trans (k_region0 rfl (f61v10r1 k a0 a1 a1_fid a1_hok)) ?_
    refine Eq.trans (k_block rfl) ?_
    refine Eq.trans k_loop ?_
    refine slices_IndexFunc_Slot_v10_L1_ok k a0 a1 a1_fid a1_hok _ _ ?h_slices_IndexFunc_Slot_v10_L1_0 ?hr_slices_IndexFunc_Slot_v10_L1 k 0
    · intro y8
      refine Eq.trans blk_exit ?_
      refine Eq.trans (k_region0 rfl (f61v10r7 k a0 y8 a1 a1_fid a1_hok)) ?_
      refine Eq.trans k_lret ?_
      rfl
    · intro s; exact rfl
def screen_Pages_1_fin : Bool → V × List V := fun r => ((V.bool r), [])
theorem f63r0 (k : Nat) (a0 : T_api_Slot) : RE k f63a0 f63o0 false ⟨[(0, (enc_T_api_Slot a0))], [], 6⟩ = some ⟨[(1, (V.ptr 1 0 0))], [(1, ⟨false, 7, [(enc_T_api_Slot a0)]⟩)], 6⟩ :=
  rE rfl
theorem f63r1 (k : Nat) (a0 : T_api_Slot) : RE k f63a1 f63o1 false ⟨[(1, (V.ptr 1 0 0))], [(1, ⟨false, 7, [(enc_T_api_Slot a0)]⟩)], 6⟩ = some ⟨[(2, (V.bool (a0.fOut == 0)))], [], 6⟩ :=
  rE rfl
theorem screen_Pages_1_ok (k : Nat) (a0 : T_api_Slot) : EV k 63 [(enc_T_api_Slot a0)] = (screen_Pages_1 k a0).map screen_Pages_1_fin := by
  cases k with
  | zero => rfl
  | succ k =>
    unfold screen_Pages_1
    refine Eq.trans (evF_succ (c := f63c) (N := 6) (regs := f63n) rfl Go.Proofs.Try.func63 rfl (by decide) rfl rfl rfl) ?_
    refine Eq.trans (k_region0 rfl (f63r0 k a0)) ?_
    refine Eq.trans (k_region0 rfl (f63r1 k a0)) ?_
    refine Eq.trans k_lret ?_
    rfl
def screen_Pages_fin : ((List (List Str)) × Int) → V × List V := fun r => (.tup [(V.sl 0 1 (List.map (fun x => (V.sl 0 1 (List.map V.str x))) r.1)), (I r.2)], [])
theorem f32r0 (k : Nat) (a0 : T_api_Form) (a1 : (List Str)) : RE k f32a0 f32o0 false ⟨[(0, (enc_T_api_Form a0)), (1, (V.sl 0 1 (List.map V.str a1)))], [], 62⟩ = some ⟨[(1, (V.sl 0 1 (List.map V.str a1))), (2, (V.ptr 2 0 0))], [(2, ⟨false, 4, [(enc_T_api_Form a0)]⟩)], 62⟩ :=
  rE rfl
theorem f32r1 (k : Nat) (a0 : T_api_Form) (a1 : (List Str)) : RE k f32a1 f32o1 false ⟨[(1, (V.sl 0 1 (List.map V.str a1))), (2, (V.ptr 2 0 0))], [(2, ⟨false, 4, [(enc_T_api_Form a0)]⟩)], 62⟩ = ((screen_shows k a0 a1)).map (fun (o : Int) => (⟨[(1, (V.sl 0 1 (List.map V.str a1))), (2, (V.ptr 2 0 0)), (6, (I o))], [(2, ⟨false, 4, [(enc_T_api_Form a0)]⟩)], 62⟩ : St)) := by
  refine rg ?_
  refine ra 2 2 ⟨[(1, (V.sl 0 1 (List.map V.str a1))), (2, (V.ptr 2 0 0)), (12, (enc_T_api_Form a0)), (13, (V.sl 0 1 (List.map V.str a1)))], [(2, ⟨false, 4, [(enc_T_api_Form a0)]⟩)], 62⟩ rfl rfl rfl ?_
  refine Eq.trans (reg_pure (x := (screen_shows k a0 a1)) (w := fun v1 => (I v1)) rfl rfl rfl rfl (p_call rfl rfl rfl rfl rfl (screen_shows_ok k a0 a1) (.inl rfl))) ?_
  refine bind_self (fun v1 => ?_)
  exact bind_end rfl
theorem f32r2 (k : Nat) (a0 : T_api_Form) (a1 : (List Str)) (o2 : Int) : RE k f32a2 f32o2 false ⟨[(1, (V.sl 0 1 (List.map V.str a1))), (2, (V.ptr 2 0 0)), (6, (I o2))], [(2, ⟨false, 4, [(enc_T_api_Form a0)]⟩)], 62⟩ = some ⟨[(1, (V.sl 0 1 (List.map V.str a1))), (2, (V.ptr 2 0 0)), (6, (I o2)), (16, (V.bool (o2 != 0)))], [(2, ⟨false, 4, [(enc_T_api_Form a0)]⟩)], 62⟩ :=
  rE rfl
theorem f32r3 (k : Nat) (a0 : T_api_Form) (a1 : (List Str)) (o2 : Int) : RE k f32a3 f32o3 false ⟨[(1, (V.sl 0 1 (List.map V.str a1))), (2, (V.ptr 2 0 0)), (6, (I o2)), (16, (V.bool true))], [(2, ⟨false, 4, [(enc_T_api_Form a0)]⟩)], 62⟩ = some ⟨[(4, (V.sl 0 1 (List.map (fun x => (V.sl 0 1 (List.map V.str x))) ([] : List (List Str))))), (5, (I o2))], [], 62⟩ :=
  rE rfl
theorem f32r4 (k : Nat) (a0 : T_api_Form) (a1 : (List Str)) (o2 : Int) : RE k f32a4 f32o4 false ⟨[(1, (V.sl 0 1 (List.map V.str a1))), (2, (V.ptr 2 0 0)), (6, (I o2)), (16, (V.bool false))], [(2, ⟨false, 4, [(enc_T_api_Form a0)]⟩)], 62⟩ = ((slices_IndexFunc_Slot_v10 k a0.fFields (fun j x0 => (screen_Pages_1 j x0)))).map (fun (o : Int) => (⟨[(1, (V.sl 0 1 (List.map V.str a1))), (2, (V.ptr 2 0 0)), (7, (I o))], [(2, ⟨false, 4, [(enc_T_api_Form a0)]⟩)], 62⟩ : St)) := by
  refine rg ?_
  refine ra 2 2 ⟨[(1, (V.sl 0 1 (List.map V.str a1))), (2, (V.ptr 2 0 0)), (6, (I o2)), (16, (V.bool false)), (18, (V.ptr 2 0 3)), (19, (sSlot (a0.fFields)))], [(2, ⟨false, 4, [(enc_T_api_Form a0)]⟩)], 62⟩ rfl rfl rfl ?_
  refine Eq.trans (reg_pure (x := (slices_IndexFunc_Slot_v10 k a0.fFields (fun j x0 => (screen_Pages_1 j x0)))) (w := fun v3 => (I v3)) rfl rfl rfl rfl (p_call rfl rfl rfl rfl rfl (slices_IndexFunc_Slot_v10_ok k a0.fFields (fun j x0 => (screen_Pages_1 j x0)) 63 (fun j x0 => (screen_Pages_1_ok j x0))) (.inl rfl))) ?_
  refine bind_self (fun v3 => ?_)
  exact bind_end rfl
theorem f32r5 (k : Nat) (a0 : T_api_Form) (a1 : (List Str)) (o4 : Int) : RE k f32a5 f32o5 false ⟨[(1, (V.sl 0 1 (List.map V.str a1))), (2, (V.ptr 2 0 0)), (7, (I o4))], [(2, ⟨false, 4, [(enc_T_api_Form a0)]⟩)], 62⟩ = some ⟨[(1, (V.sl 0 1 (List.map V.str a1))), (2, (V.ptr 2 0 0)), (7, (I o4)), (22, (V.bool (decide (o4 < 0))))], [(2, ⟨false, 4, [(enc_T_api_Form a0)]⟩)], 62⟩ :=
  rE rfl
theorem f32r6 (k : Nat) (a0 : T_api_Form) (a1 : (List Str)) (o4 : Int) : RE k f32a6 f32o6 false ⟨[(1, (V.sl 0 1 (List.map V.str a1))), (2, (V.ptr 2 0 0)), (7, (I o4)), (22, (V.bool true))], [(2, ⟨false, 4, [(enc_T_api_Form a0)]⟩)], 62⟩ = some ⟨[(4, (V.sl 0 1 (List.map (fun x => (V.sl 0 1 (List.map V.str x))) ([] : List (List Str))))), (5, (I 2))], [], 62⟩ :=
  rE rfl
theorem f32r7 (k : Nat) (a0 : T_api_Form) (a1 : (List Str)) (o4 : Int) : RE k f32a7 f32o7 false ⟨[(1, (V.sl 0 1 (List.map V.str a1))), (2, (V.ptr 2 0 0)), (7, (I o4)), (22, (V.bool false))], [(2, ⟨false, 4, [(enc_T_api_Form a0)]⟩)], 62⟩ = (((idx a0.fFields o4).bind fun v5 => (some (v5.fBytes)))).map (fun (o : Int) => (⟨[(1, (V.sl 0 1 (List.map V.str a1))), (2, (V.ptr 2 0 0)), (8, (I o))], [(2, ⟨false, 4, [(enc_T_api_Form a0)]⟩)], 62⟩ : St)) := by
  refine rg ?_
  refine ra 3 3 ⟨[(1, (V.sl 0 1 (List.map V.str a1))), (2, (V.ptr 2 0 0)), (7, (I o4)), (22, (V.bool false)), (23, (V.ptr 2 0 3)), (24, (sSlot (a0.fFields))), (25, (I o4))], [(2, ⟨false, 4, [(enc_T_api_Form a0)]⟩)], 62⟩ rfl rfl rfl ?_
  refine Eq.trans (reg_pure (x := (idx a0.fFields o4)) (w := fun v5 => (V.pro (enc_T_api_Slot v5))) rfl rfl rfl rfl (p_index (e := enc_T_api_Slot) rfl rfl rfl Go.Proofs.Try.underlying23 rfl (by decide))) ?_
  refine bindE (fun v5 => ?_)
  exact bind_end rfl
theorem f32r8 (k : Nat) (a0 : T_api_Form) (a1 : (List Str)) (o6 : Int) : RE k f32a8 f32o8 false ⟨[(1, (V.sl 0 1 (List.map V.str a1))), (2, (V.ptr 2 0 0)), (8, (I o6))], [(2, ⟨false, 4, [(enc_T_api_Form a0)]⟩)], 62⟩ = some ⟨[(1, (V.sl 0 1 (List.map V.str a1))), (2, (V.ptr 2 0 0)), (8, (I o6)), (9, (V.sl 1 1 (List.map (fun x => (V.sl 0 1 (List.map V.str x))) ([] : List (List Str)))))], [(2, ⟨false, 4, [(enc_T_api_Form a0)]⟩)], 62⟩ :=
  rE rfl
theorem f32r9 (k : Nat) (a0 : T_api_Form) (a1 : (List Str)) (o6 : Int) : RE k f32a9 f32o9 false ⟨[(1, (V.sl 0 1 (List.map V.str a1))), (2, (V.ptr 2 0 0)), (8, (I o6)), (9, (V.sl 1 1 (List.map (fun x => (V.sl 0 1 (List.map V.str x))) ([] : List (List Str)))))], [(2, ⟨false, 4, [(enc_T_api_Form a0)]⟩)], 62⟩ = ((idx a1 0)).map (fun (o : Str) => (⟨[(1, (V.sl 0 1 (List.map V.str a1))), (2, (V.ptr 2 0 0)), (8, (I o6)), (9, (V.sl 1 1 (List.map (fun x => (V.sl 0 1 (List.map V.str x))) ([] : List (List Str))))), (10, (V.str o))], [(2, ⟨false, 4, [(enc_T_api_Form a0)]⟩)], 62⟩ : St)) := by
  refine rg ?_
  refine ra 1 1 ⟨[(1, (V.sl 0 1 (List.map V.str a1))), (2, (V.ptr 2 0 0)), (8, (I o6)), (9, (V.sl 1 1 (List.map (fun x => (V.sl 0 1 (List.map V.str x))) ([] : List (List Str))))), (29, (V.sl 0 1 (List.map V.str a1)))], [(2, ⟨false, 4, [(enc_T_api_Form a0)]⟩)], 62⟩ rfl rfl rfl ?_
  refine Eq.trans (reg_pure (x := (idx a1 0)) (w := fun v7 => (V.pro (V.str v7))) rfl rfl rfl rfl (p_index (e := V.str) rfl rfl rfl Go.Proofs.Try.underlying26 rfl (by decide))) ?_
  refine bind_self (fun v7 => ?_)
  exact bind_end rfl
theorem f32r10 (k : Nat) (a0 : T_api_Form) (a1 : (List Str)) (o6 : Int) (x23 : (List (List Str))) (x24 : Str) : RE k f32a10 f32o10 false ⟨[(1, (V.sl 0 1 (List.map V.str a1))), (2, (V.ptr 2 0 0)), (8, (I o6)), (9, (V.sl 1 1 (List.map (fun x => (V.sl 0 1 (List.map V.str x))) x23))), (10, (V.str x24))], [(2, ⟨false, 4, [(enc_T_api_Form a0)]⟩)], 62⟩ = ((bif ((x23.length : Int) == 0) then (some (true)) else (some ((!(x24 == ([] : Str))))))).map (fun (o : Bool) => (⟨[(1, (V.sl 0 1 (List.map V.str a1))), (2, (V.ptr 2 0 0)), (8, (I o6)), (9, (V.sl 1 1 (List.map (fun x => (V.sl 0 1 (List.map V.str x))) x23))), (10, (V.str x24)), (38, (V.bool o))], [(2, ⟨false, 4, [(enc_T_api_Form a0)]⟩)], 62⟩ : St)) := by
  refine rg ?_
  refine ra 1 1 ⟨[(1, (V.sl 0 1 (List.map V.str a1))), (2, (V.ptr 2 0 0)), (8, (I o6)), (9, (V.sl 1 1 (List.map (fun x => (V.sl 0 1 (List.map V.str x))) x23))), (10, (V.str x24)), (32, (V.sl 0 1 (List.map (fun x => (V.sl 0 1 (List.map V.str x))) x23)))], [(2, ⟨false, 4, [(enc_T_api_Form a0)]⟩)], 62⟩ rfl rfl rfl ?_
  refine Eq.trans (reg_pure (x := some ()) (w := fun _ => (I (x23.length : Int))) rfl rfl rfl rfl (p_len (e := (fun x => (V.sl 0 1 (List.map V.str x)))) rfl rfl rfl rfl rfl rfl Go.Proofs.Try.underlying50)) ?_
  refine Eq.trans some_bind ?_
  refine ba 2 4 ⟨[(1, (V.sl 0 1 (List.map V.str a1))), (2, (V.ptr 2 0 0)), (8, (I o6)), (9, (V.sl 1 1 (List.map (fun x => (V.sl 0 1 (List.map V.str x))) x23))), (10, (V.str x24)), (32, (V.sl 0 1 (List.map (fun x => (V.sl 0 1 (List.map V.str x))) x23))), (33, (I (x23.length : Int))), (34, (V.bool ((x23.length : Int) == 0))), (35, (V.bool ((x23.length : Int) == 0)))], [(2, ⟨false, 4, [(enc_T_api_Form a0)]⟩)], 62⟩ rfl rfl rfl ?_
  refine bifE (c := ((x23.length : Int) == 0)) (fun hc => ?_) fun hc => ?_
  · rw [hc]
    exact reg_end rfl
  · rw [hc]
    exact reg_end rfl
theorem f32r11 (k : Nat) (a0 : T_api_Form) (a1 : (List Str)) (o6 : Int) (x23 : (List (List Str))) (x24 : Str) : RE k f32a11 f32o11 false ⟨[(1, (V.sl 0 1 (List.map V.str a1))), (2, (V.ptr 2 0 0)), (8, (I o6)), (9, (V.sl 1 1 (List.map (fun x => (V.sl 0 1 (List.map V.str x))) x23))), (10, (V.str x24)), (38, (V.bool true))], [(2, ⟨false, 4, [(enc_T_api_Form a0)]⟩)], 62⟩ = ((slices_Clone_string k a1)).map (fun (o : (List Str)) => (⟨[(1, (V.sl 0 1 (List.map V.str a1))), (2, (V.ptr 2 0 0)), (8, (I o6)), (9, (V.sl 1 1 (List.map (fun x => (V.sl 0 1 (List.map V.str x))) x23))), (10, (V.str x24)), (11, (V.aref 40 0 (List.map V.str o).length)), (40, (V.aref 40 0 (List.map V.str o).length))], [(2, ⟨false, 4, [(enc_T_api_Form a0)]⟩), (40, ⟨true, 1, List.map V.str o⟩)], 62⟩ : St)) := by
  refine rg ?_
  refine ra 1 1 ⟨[(1, (V.sl 0 1 (List.map V.str a1))), (2, (V.ptr 2 0 0)), (8, (I o6)), (9, (V.sl 1 1 (List.map (fun x => (V.sl 0 1 (List.map V.str x))) x23))), (10, (V.str x24)), (38, (V.bool true)), (39, (V.sl 0 1 (List.map V.str a1)))], [(2, ⟨false, 4, [(enc_T_api_Form a0)]⟩)], 62⟩ rfl rfl rfl ?_
  refine Eq.trans (reg_eff (x := (slices_Clone_string k a1)) (w := fun v26 => ((V.sl 2 1 (List.map V.str v26)), _)) rfl rfl rfl rfl (p_callS rfl rfl rfl rfl rfl rfl (slices_Clone_string_ok k a1))) ?_
  refine bind_self (fun v26 => ?_)
  exact bind_end rfl
theorem f32r12 (k : Nat) (a0 : T_api_Form) (a1 : (List Str)) (o6 : Int) (x23 : (List (List Str))) (x24 : Str) (o27 : (List Str)) : RE k f32a12 f32o12 false ⟨[(1, (V.sl 0 1 (List.map V.str a1))), (2, (V.ptr 2 0 0)), (8, (I o6)), (9, (V.sl 1 1 (List.map (fun x => (V.sl 0 1 (List.map V.str x))) x23))), (10, (V.str x24)), (11, (V.aref 40 0 (List.map V.str o27).length)), (40, (V.aref 40 0 (List.map V.str o27).length))], [(2, ⟨false, 4, [(enc_T_api_Form a0)]⟩), (40, ⟨true, 1, List.map V.str o27⟩)], 62⟩ = (((cut x24 0 (if (x24.length : Int) < o6 then (x24.length : Int) else o6)).bind fun v28 => ((inB o27.length 0).bind fun v29 => ((o27[0 + (0 : Int).toNat]?).bind fun v30 => (some ((o27.set (0 + (0 : Int).toNat) v28))))))).map (fun (o : (List Str)) => (⟨[(1, (V.sl 0 1 (List.map V.str a1))), (2, (V.ptr 2 0 0)), (8, (I o6)), (9, (V.sl 1 1 (List.map (fun x => (V.sl 0 1 (List.map V.str x))) x23))), (10, (V.str x24)), (11, (V.aref 40 0 (List.map V.str o).length)), (40, (V.aref 40 0 (List.map V.str o).length))], [(2, ⟨false, 4, [(enc_T_api_Form a0)]⟩), (40, ⟨true, 1, List.map V.str o⟩)], 62⟩ : St)) := by
  refine rg ?_
  refine ra 6 6 ⟨[(1, (V.sl 0 1 (List.map V.str a1))), (2, (V.ptr 2 0 0)), (8, (I o6)), (9, (V.sl 1 1 (List.map (fun x => (V.sl 0 1 (List.map V.str x))) x23))), (10, (V.str x24)), (11, (V.aref 40 0 (List.map V.str o27).length)), (40, (V.aref 40 0 (List.map V.str o27).length)), (41, (V.aref 40 0 (List.map V.str o27).length)), (42, (V.str x24)), (43, (I o6)), (44, (V.str x24)), (45, (I (x24.length : Int))), (46, (I (if (x24.length : Int) < o6 then (x24.length : Int) else o6)))], [(2, ⟨false, 4, [(enc_T_api_Form a0)]⟩), (40, ⟨true, 1, List.map V.str o27⟩)], 62⟩ rfl rfl rfl ?_
  refine Eq.trans (reg_pure (x := (cut x24 0 (if (x24.length : Int) < o6 then (x24.length : Int) else o6))) (w := fun v28 => (V.str v28)) rfl rfl rfl rfl (p_sliceS rfl rfl rfl rfl rfl rfl Go.Proofs.Try.underlying9)) ?_
  refine bindE (fun v28 => ?_)
  refine ba 0 7 ⟨[(1, (V.sl 0 1 (List.map V.str a1))), (2, (V.ptr 2 0 0)), (8, (I o6)), (9, (V.sl 1 1 (List.map (fun x => (V.sl 0 1 (List.map V.str x))) x23))), (10, (V.str x24)), (11, (V.aref 40 0 (List.map V.str o27).length)), (40, (V.aref 40 0 (List.map V.str o27).length)), (41, (V.aref 40 0 (List.map V.str o27).length)), (42, (V.str x24)), (43, (I o6)), (44, (V.str x24)), (45, (I (x24.length : Int))), (46, (I (if (x24.length : Int) < o6 then (x24.length : Int) else o6))), (47, (V.str v28))], [(2, ⟨false, 4, [(enc_T_api_Form a0)]⟩), (40, ⟨true, 1, List.map V.str o27⟩)], 62⟩ rfl rfl rfl ?_
  refine Eq.trans (reg_pure (x := (inB o27.length 0)) (w := fun v29 => (V.ptr 40 (0 + (0 : Int).toNat) 0)) rfl rfl rfl rfl (p_indexF (e := V.str) rfl rfl rfl Go.Proofs.Try.underlying26 rfl rfl (by decide))) ?_
  refine bindE (fun v29 => ?_)
  refine ba 0 8 ⟨[(1, (V.sl 0 1 (List.map V.str a1))), (2, (V.ptr 2 0 0)), (8, (I o6)), (9, (V.sl 1 1 (List.map (fun x => (V.sl 0 1 (List.map V.str x))) x23))), (10, (V.str x24)), (11, (V.aref 40 0 (List.map V.str o27).length)), (40, (V.aref 40 0 (List.map V.str o27).length)), (41, (V.aref 40 0 (List.map V.str o27).length)), (42, (V.str x24)), (43, (I o6)), (44, (V.str x24)), (45, (I (x24.length : Int))), (46, (I (if (x24.length : Int) < o6 then (x24.length : Int) else o6))), (47, (V.str v28)), (48, (V.ptr 40 (0 + (0 : Int).toNat) 0))], [(2, ⟨false, 4, [(enc_T_api_Form a0)]⟩), (40, ⟨true, 1, List.map V.str o27⟩)], 62⟩ rfl rfl rfl ?_
  refine Eq.trans (reg_eff (x := (o27[0 + (0 : Int).toNat]?)) (w := fun _ => (V.tup [], _)) rfl rfl rfl rfl (p_storeL (S := (fun n_ => ⟨[(1, (V.sl 0 1 (List.map V.str a1))), (2, (V.ptr 2 0 0)), (8, (I o6)), (9, (V.sl 1 1 (List.map (fun x => (V.sl 0 1 (List.map V.str x))) x23))), (10, (V.str x24)), (11, (V.aref 40 0 n_)), (40, (V.aref 40 0 n_)), (41, (V.aref 40 0 n_)), (42, (V.str x24)), (43, (I o6)), (44, (V.str x24)), (45, (I (x24.length : Int))), (46, (I (if (x24.length : Int) < o6 then (x24.length : Int) else o6))), (47, (V.str v28)), (48, (V.ptr 40 (0 + (0 : Int).toNat) 0))], [(2, ⟨false, 4, [(enc_T_api_Form a0)]⟩), (40, ⟨true, 1, List.map V.str o27⟩)], 62⟩)) (e := V.str) (l := o27) (v := v28) rfl rfl rfl rfl rfl rfl rfl rfl rfl rfl (fun _ => rfl))) ?_
  refine bindE (fun v30 => ?_)
  exact bind_end rfl
theorem f32r13 (k : Nat) (a0 : T_api_Form) (a1 : (List Str)) (o6 : Int) (x23 : (List (List Str))) (x24 : Str) (o31 : (List Str)) : RE k f32a13 f32o13 false ⟨[(1, (V.sl 0 1 (List.map V.str a1))), (2, (V.ptr 2 0 0)), (8, (I o6)), (9, (V.sl 1 1 (List.map (fun x => (V.sl 0 1 (List.map V.str x))) x23))), (10, (V.str x24)), (11, (V.aref 40 0 (List.map V.str o31).length)), (40, (V.aref 40 0 (List.map V.str o31).length))], [(2, ⟨false, 4, [(enc_T_api_Form a0)]⟩), (40, ⟨true, 1, List.map V.str o31⟩)], 62⟩ = (((inB o31.length 0).bind fun v32 => ((o31[0 + (0 : Int).toNat]?).bind fun v33 => (cut x24 (v33.length : Int) (x24.length : Int))))).map (fun (o : Str) => (⟨[(1, (V.sl 0 1 (List.map V.str a1))), (2, (V.ptr 2 0 0)), (8, (I o6)), (9, (V.sl 1 1 (List.map (fun x => (V.sl 0 1 (List.map V.str x))) x23))), (10, (V.str o)), (11, (V.aref 40 0 (List.map V.str o31).length)), (40, (V.aref 40 0 (List.map V.str o31).length))], [(2, ⟨false, 4, [(enc_T_api_Form a0)]⟩), (40, ⟨true, 1, List.map V.str o31⟩)], 62⟩ : St)) := by
  refine rg ?_
  refine ra 2 2 ⟨[(1, (V.sl 0 1 (List.map V.str a1))), (2, (V.ptr 2 0 0)), (8, (I o6)), (9, (V.sl 1 1 (List.map (fun x => (V.sl 0 1 (List.map V.str x))) x23))), (10, (V.str x24)), (11, (V.aref 40 0 (List.map V.str o31).length)), (40, (V.aref 40 0 (List.map V.str o31).length)), (49, (V.str x24)), (50, (V.aref 40 0 (List.map V.str o31).length))], [(2, ⟨false, 4, [(enc_T_api_Form a0)]⟩), (40, ⟨true, 1, List.map V.str o31⟩)], 62⟩ rfl rfl rfl ?_
  refine Eq.trans (reg_pure (x := (inB o31.length 0)) (w := fun v32 => (V.ptr 40 (0 + (0 : Int).toNat) 0)) rfl rfl rfl rfl (p_indexF (e := V.str) rfl rfl rfl Go.Proofs.Try.underlying26 rfl rfl (by decide))) ?_
  refine bindE (fun v32 => ?_)
  refine ba 0 3 ⟨[(1, (V.sl 0 1 (List.map V.str a1))), (2, (V.ptr 2 0 0)), (8, (I o6)), (9, (V.sl 1 1 (List.map (fun x => (V.sl 0 1 (List.map V.str x))) x23))), (10, (V.str x24)), (11, (V.aref 40 0 (List.map V.str o31).length)), (40, (V.aref 40 0 (List.map V.str o31).length)), (49, (V.str x24)), (50, (V.aref 40 0 (List.map V.str o31).length)), (51, (V.ptr 40 (0 + (0 : Int).toNat) 0))], [(2, ⟨false, 4, [(enc_T_api_Form a0)]⟩), (40, ⟨true, 1, List.map V.str o31⟩)], 62⟩ rfl rfl rfl ?_
  refine Eq.trans (reg_pure (x := (o31[0 + (0 : Int).toNat]?)) (w := fun v33 => (V.str v33)) rfl rfl rfl rfl (p_loadA (e := V.str) rfl rfl rfl (fun _ => rfl) (fun _ => rfl))) ?_
  refine bindE (fun v33 => ?_)
  refine ba 1 5 ⟨[(1, (V.sl 0 1 (List.map V.str a1))), (2, (V.ptr 2 0 0)), (8, (I o6)), (9, (V.sl 1 1 (List.map (fun x => (V.sl 0 1 (List.map V.str x))) x23))), (10, (V.str x24)), (11, (V.aref 40 0 (List.map V.str o31).length)), (40, (V.aref 40 0 (List.map V.str o31).length)), (49, (V.str x24)), (50, (V.aref 40 0 (List.map V.str o31).length)), (51, (V.ptr 40 (0 + (0 : Int).toNat) 0)), (52, (V.str v33)), (53, (I (v33.length : Int)))], [(2, ⟨false, 4, [(enc_T_api_Form a0)]⟩), (40, ⟨true, 1, List.map V.str o31⟩)], 62⟩ rfl rfl rfl ?_
  refine Eq.trans (reg_pure (x := (cut x24 (v33.length : Int) (x24.length : Int))) (w := fun v34 => (V.str v34)) rfl rfl rfl rfl (p_sliceS rfl rfl rfl rfl rfl rfl Go.Proofs.Try.underlying9)) ?_
  refine bind_self (fun v34 => ?_)
  exact bind_end rfl
theorem f32r14 (k : Nat) (a0 : T_api_Form) (a1 : (List Str)) (o6 : Int) (x23 : (List (List Str))) (o31 : (List Str)) (o35 : Str) : RE k f32a14 f32o14 false ⟨[(1, (V.sl 0 1 (List.map V.str a1))), (2, (V.ptr 2 0 0)), (8, (I o6)), (9, (V.sl 1 1 (List.map (fun x => (V.sl 0 1 (List.map V.str x))) x23))), (10, (V.str o35)), (11, (V.aref 40 0 (List.map V.str o31).length)), (40, (V.aref 40 0 (List.map V.str o31).length))], [(2, ⟨false, 4, [(enc_T_api_Form a0)]⟩), (40, ⟨true, 1, List.map V.str o31⟩)], 62⟩ = (((screen_show k a0 o31).bind fun v36 => (app x23 ([v36] : List (List Str))))).map (fun (o : (List (List Str))) => (⟨[(1, (V.sl 0 1 (List.map V.str a1))), (2, (V.ptr 2 0 0)), (8, (I o6)), (9, (V.sl 1 1 (List.map (fun x => (V.sl 0 1 (List.map V.str x))) o))), (10, (V.str o35))], [(2, ⟨false, 4, [(enc_T_api_Form a0)]⟩)], 62⟩ : St)) := by
  refine rg ?_
  refine ra 2 2 ⟨[(1, (V.sl 0 1 (List.map V.str a1))), (2, (V.ptr 2 0 0)), (8, (I o6)), (9, (V.sl 0 1 (List.map (fun x => (V.sl 0 1 (List.map V.str x))) x23))), (10, (V.str o35)), (11, (V.aref 40 0 (List.map V.str o31).length)), (40, (V.aref 40 0 (List.map V.str o31).length)), (55, (V.sl 1 1 (List.map (fun x => (V.sl 0 1 (List.map V.str x))) x23))), (56, (enc_T_api_Form a0))], [(2, ⟨false, 4, [(enc_T_api_Form a0)]⟩), (40, ⟨true, 1, List.map V.str o31⟩)], 62⟩ rfl rfl rfl ?_
  refine Eq.trans (reg_eff (x := some ()) (w := fun _ => ((V.sl 2 1 (List.map V.str o31)), _)) rfl rfl rfl rfl (p_closeM (e := V.str) rfl rfl rfl rfl rfl (of_decide_eq_true rfl))) ?_
  refine Eq.trans some_bind ?_
  refine ba 0 3 ⟨[(1, (V.sl 0 1 (List.map V.str a1))), (2, (V.ptr 2 0 0)), (8, (I o6)), (9, (V.sl 0 1 (List.map (fun x => (V.sl 0 1 (List.map V.str x))) x23))), (10, (V.str o35)), (11, V.undef), (40, V.undef), (55, (V.sl 1 1 (List.map (fun x => (V.sl 0 1 (List.map V.str x))) x23))), (56, (enc_T_api_Form a0)), (57, (V.sl 0 1 (List.map V.str o31)))], [(2, ⟨false, 4, [(enc_T_api_Form a0)]⟩)], 62⟩ rfl rfl rfl ?_
  refine Eq.trans (reg_pure (x := (screen_show k a0 o31)) (w := fun v36 => (V.sl 0 1 (List.map V.str v36))) rfl rfl rfl rfl (p_call rfl rfl rfl rfl rfl (screen_show_ok k a0 o31) (.inl rfl))) ?_
  refine bindE (fun v36 => ?_)
  refine ba 1 5 ⟨[(1, (V.sl 0 1 (List.map V.str a1))), (2, (V.ptr 2 0 0)), (8, (I o6)), (9, (V.sl 0 1 (List.map (fun x => (V.sl 0 1 (List.map V.str x))) x23))), (10, (V.str o35)), (11, V.undef), (40, V.undef), (55, (V.sl 1 1 (List.map (fun x => (V.sl 0 1 (List.map V.str x))) x23))), (56, (enc_T_api_Form a0)), (57, (V.sl 0 1 (List.map V.str o31))), (58, (V.sl 0 1 (List.map V.str v36))), (59, (V.sl 0 1 (List.map (fun x => (V.sl 0 1 (List.map V.str x))) ([v36] : List (List Str)))))], [(2, ⟨false, 4, [(enc_T_api_Form a0)]⟩)], 62⟩ rfl rfl rfl ?_
  refine Eq.trans (reg_eff (x := (app x23 ([v36] : List (List Str)))) (w := fun v37 => ((V.sl 1 1 (List.map (fun x => (V.sl 0 1 (List.map V.str x))) v37)), _)) rfl rfl rfl rfl (p_app (e := (fun x => (V.sl 0 1 (List.map V.str x)))) rfl rfl rfl rfl rfl rfl rfl rfl rfl rfl (by decide))) ?_
  refine bind_self (fun v37 => ?_)
  exact bind_end rfl
theorem screen_Pages_L1_ok (k : Nat) (a0 : T_api_Form) (a1 : (List Str)) (o6 : Int)  (K0 : (List (List Str)) → Str → Option ((List (List Str)) × Int)) (Kst : X × St → Option (V × List V)) (hK0 : ∀ (y0 : (List (List Str))) (y1 : Str), Kst (X.exit 0, ⟨[(1, (V.sl 0 1 (List.map V.str a1))), (2, (V.ptr 2 0 0)), (8, (I o6)), (9, (V.sl 1 1 (List.map (fun x => (V.sl 0 1 (List.map V.str x))) y0))), (10, (V.str y1)), (38, (V.bool false))], [(2, ⟨false, 4, [(enc_T_api_Form a0)]⟩)], 62⟩) = (K0 y0 y1).map screen_Pages_fin) (hret : ∀ s, Kst (X.ret, s) = endK prog 62 [(enc_T_api_Form a0), (V.sl 0 1 (List.map V.str a1))] [] [.tmp 4, .tmp 5] (X.ret, s)) :
    ∀ (m : Nat) (x23 : (List (List Str))) (x24 : Str), (iter (exec prog (EV k) f32n k f32b0) m ⟨[(1, (V.sl 0 1 (List.map V.str a1))), (2, (V.ptr 2 0 0)), (8, (I o6)), (9, (V.sl 1 1 (List.map (fun x => (V.sl 0 1 (List.map V.str x))) x23))), (10, (V.str x24))], [(2, ⟨false, 4, [(enc_T_api_Form a0)]⟩)], 62⟩).bind Kst = (screen_Pages_L1 k a0 a1 o6 K0 m x23 x24).map screen_Pages_fin := by
  intro m
  induction m with
  | zero => intros; rfl
  | succ m ih =>
    intro x23 x24
    unfold screen_Pages_L1
    refine Eq.trans k_round ?_
    refine Eq.trans k_assoc ?_
    refine Eq.trans (k_region rfl (f32r10 k a0 a1 o6 x23 x24)) ?_
    refine bindE (fun o25 => ?_)
    refine Eq.trans (k_cond (t := o25) rfl rfl) ?_
    refine bifE2 (fun hc => ?_) fun hc => ?_
    · rw [hc]
      refine Eq.trans k_skip ?_
      refine Eq.trans (k_lblock rfl) ?_
      refine Eq.trans (k_region rfl (f32r11 k a0 a1 o6 x23 x24)) ?_
      refine bindE (fun o27 => ?_)
      refine Eq.trans (k_region rfl (f32r12 k a0 a1 o6 x23 x24 o27)) ?_
      refine bindE (fun o31 => ?_)
      refine Eq.trans (k_region rfl (f32r13 k a0 a1 o6 x23 x24 o31)) ?_
      refine bindE (fun o35 => ?_)
      refine Eq.trans (k_lregion rfl (f32r14 k a0 a1 o6 x23 o31 o35)) ?_
      refine bindE (fun o38 => ?_)
      refine Eq.trans blk_normal ?_
      refine Eq.trans k_lskip ?_
      refine Eq.trans loop_normal ?_
      exact ih o38 o35
    · rw [hc]
      refine Eq.trans k_exit ?_
      refine Eq.trans loop_exit ?_
      exact hK0 x23 x24
theorem f32r15 (k : Nat) (a0 : T_api_Form) (a1 : (List Str)) (o6 : Int) (y39 : (List (List Str))) (y40 : Str) : RE k f32a15 f32o15 false ⟨[(1, (V.sl 0 1 (List.map V.str a1))), (2, (V.ptr 2 0 0)), (8, (I o6)), (9, (V.sl 1 1 (List.map (fun x => (V.sl 0 1 (List.map V.str x))) y39))), (10, (V.str y40)), (38, (V.bool false))], [(2, ⟨false, 4, [(enc_T_api_Form a0)]⟩)], 62⟩ = some ⟨[(4, (V.sl 0 1 (List.map (fun x => (V.sl 0 1 (List.map V.str x))) y39))), (5, (I 0))], [], 62⟩ :=
  rE rfl
theorem screen_Pages_ok (k : Nat) (a0 : T_api_Form) (a1 : (List Str)) : EV k 32 [(enc_T_api_Form a0), (V.sl 0 1 (List.map V.str a1))] = (screen_Pages k a0 a1).map screen_Pages_fin := by
  cases k with
  | zero => rfl
  | succ k =>
    unfold screen_Pages
    refine Eq.trans (evF_succ (c := f32c) (N := 62) (regs := f32n) rfl Go.Proofs.Try.func32 rfl (by decide) rfl rfl rfl) ?_
    refine Eq.trans (k_region0 rfl (f32r0 k a0 a1)) ?_
    refine Eq.trans k_assoc ?_
    refine Eq.trans (k_region rfl (f32r1 k a0 a1)) ?_
    refine bindE (fun o2 => ?_)
    refine Eq.trans k_assoc ?_
    refine Eq.trans (k_region0 rfl (f32r2 k a0 a1 o2)) ?_
    refine Eq.trans (k_cond (t := (o2 != 0)) rfl rfl) ?_
    refine bifE2 (fun hc => ?_) fun hc => ?_
    · rw [hc]
      refine Eq.trans k_assoc ?_
      refine Eq.trans (k_region0 rfl (f32r3 k a0 a1 o2)) ?_
      refine Eq.trans k_ret ?_
      rfl
    · rw [hc]
      refine Eq.trans k_skip ?_
      refine Eq.trans (k_region rfl (f32r4 k a0 a1 o2)) ?_
      refine bindE (fun o4 => ?_)
      refine Eq.trans k_assoc ?_
      refine Eq.trans (k_region0 rfl (f32r5 k a0 a1 o4)) ?_
      refine Eq.trans (k_cond (t := (decide (o4 < 0))) rfl rfl) ?_
      refine bifE2 (fun hc => ?_) fun hc => ?_
      · rw [hc]
        refine Eq.trans k_assoc ?_
        refine Eq.trans (k_region0 rfl (f32r6 k a0 a1 o4)) ?_
        refine Eq.trans k_ret ?_
        rfl
      · rw [hc]
        refine Eq.trans k_skip ?_
        refine Eq.trans (k_region rfl (f32r7 k a0 a1 o4)) ?_
        refine bindE (fun o6 => ?_)
        refine Eq.trans (k_region0 rfl (f32r8 k a0 a1 o6)) ?_
        refine Eq.trans k_assoc ?_
        refine Eq.trans (k_region rfl (f32r9 k a0 a1 o6)) ?_
        refine bindE (fun o8 => ?_)
        refine Eq.trans (k_block rfl) ?_
        refine Eq.trans k_loop ?_
        refine screen_Pages_L1_ok k a0 a1 o6 _ _ ?h_screen_Pages_L1_0 ?hr_screen_Pages_L1 k ([] : List (List Str)) o8
        · intro y39 y40
          refine Eq.trans blk_exit ?_
          refine Eq.trans (k_region0 rfl (f32r15 k a0 a1 o6 y39 y40)) ?_
          refine Eq.trans k_lret ?_
          rfl
        · intro s; exact rfl
def ref24_IsText_fin : Bool → V × List V := fun r => ((V.bool r), [])
theorem f50r0 (k : Nat) (a0 : Str) : RE k f50a0 f50o0 false ⟨[(0, (V.str a0))], [], 20⟩ = some ⟨[(0, (V.str a0))], [], 20⟩ :=
  rE rfl
theorem f50r1 (k : Nat) (a0 : Str) : RE k f50a1 f50o1 false ⟨[(0, (V.str a0))], [], 20⟩ = some ⟨[(0, (V.str a0)), (3, (I 0))], [], 20⟩ :=
  rE rfl
theorem f50r2 (k : Nat) (a0 : Str) (x4 : Int) : RE k f50a2 f50o2 false ⟨[(0, (V.str a0)), (3, (I x4))], [], 20⟩ = some ⟨[(0, (V.str a0)), (3, (I x4)), (7, (V.bool (decide (x4 < (a0.length : Int)))))], [], 20⟩ :=
  rE rfl
theorem f50r4 (k : Nat) (a0 : Str) (x4 : Int) : RE k f50a4 f50o4 false ⟨[(0, (V.str a0)), (3, (I x4)), (7, (V.bool true))], [], 20⟩ = (((idxS a0 x4).bind fun v5 => (bif (decide (v5 < 32)) then (some (true)) else ((idxS a0 x4).bind fun v6 => (some ((decide (v6 > 126)))))))).map (fun (o : Bool) => (⟨[(0, (V.str a0)), (3, (I x4)), (19, (V.bool o))], [], 20⟩ : St)) := by
  refine rg ?_
  refine ra 2 2 ⟨[(0, (V.str a0)), (3, (I x4)), (7, (V.bool true)), (10, (V.str a0)), (11, (I x4))], [], 20⟩ rfl rfl rfl ?_
  refine Eq.trans (reg_pure (x := (idxS a0 x4)) (w := fun v5 => (V.int .u8 v5)) rfl rfl rfl rfl (p_indexS rfl rfl rfl Go.Proofs.Try.underlying9)) ?_
  refine bindE (fun v5 => ?_)
  refine ba 2 5 ⟨[(0, (V.str a0)), (3, (I x4)), (7, (V.bool true)), (10, (V.str a0)), (11, (I x4)), (12, (V.int .u8 v5)), (13, (V.bool (decide (v5 < 32)))), (14, (V.bool (decide (v5 < 32))))], [], 20⟩ rfl rfl rfl ?_
  refine bifE (c := (decide (v5 < 32))) (fun hc => ?_) fun hc => ?_
  · rw [hc]
    exact reg_end rfl
  · rw [hc]
    refine ra 2 7 ⟨[(0, (V.str a0)), (3, (I x4)), (7, (V.bool true)), (10, (V.str a0)), (11, (I x4)), (12, (V.int .u8 v5)), (13, (V.bool false)), (14, (V.bool false)), (15, (V.str a0)), (16, (I x4))], [], 20⟩ rfl rfl rfl ?_
    refine Eq.trans (reg_pure (x := (idxS a0 x4)) (w := fun v6 => (V.int .u8 v6)) rfl rfl rfl rfl (p_indexS rfl rfl rfl Go.Proofs.Try.underlying9)) ?_
    refine bindE (fun v6 => ?_)
    exact bind_end rfl
theorem f50r5 (k : Nat) (a0 : Str) (x4 : Int) : RE k f50a5 f50o5 false ⟨[(0, (V.str a0)), (3, (I x4)), (19, (V.bool true))], [], 20⟩ = some ⟨[(2, (V.bool false))], [], 20⟩ :=
  rE rfl
theorem f50r3 (k : Nat) (a0 : Str) (x4 : Int) : RE k f50a3 f50o3 false ⟨[(0, (V.str a0)), (3, (I x4)), (19, (V.bool false))], [], 20⟩ = some ⟨[(0, (V.str a0)), (3, (I (Go.IntKind.wrap .i64 (x4 + 1))))], [], 20⟩ :=
  rE rfl
theorem ref24_IsText_L1_ok (k : Nat) (a0 : Str)  (K0 : Int → Option Bool) (Kst : X × St → Option (V × List V)) (hK0 : ∀ (y0 : Int), Kst (X.exit 0, ⟨[(0, (V.str a0)), (3, (I y0)), (7, (V.bool false))], [], 20⟩) = (K0 y0).map ref24_IsText_fin) (hret : ∀ s, Kst (X.ret, s) = endK prog 20 [(V.str a0)] [] [.tmp 2] (X.ret, s)) :
    ∀ (m : Nat) (x4 : Int), (iter (exec prog (EV k) f50n k f50b0) m ⟨[(0, (V.str a0)), (3, (I x4))], [], 20⟩).bind Kst = (ref24_IsText_L1 a0 K0 m x4).map ref24_IsText_fin := by
  intro m
  induction m with
  | zero => intros; rfl
  | succ m ih =>
    intro x4
    unfold ref24_IsText_L1
    refine Eq.trans k_round ?_
    refine Eq.trans k_assoc ?_
    refine Eq.trans (k_region0 rfl (f50r2 k a0 x4)) ?_
    refine Eq.trans (k_cond (t := (decide (x4 < (a0.length : Int)))) rfl rfl) ?_
    refine bifE2 (fun hc => ?_) fun hc => ?_
    · rw [hc]
      refine Eq.trans k_skip ?_
      refine Eq.trans (k_block rfl) ?_
      refine Eq.trans (k_region rfl (f50r4 k a0 x4)) ?_
      refine bindE (fun o7 => ?_)
      refine Eq.trans (k_lcond (t := o7) rfl rfl) ?_
      refine bifE2 (fun hc => ?_) fun hc => ?_
      · rw [hc]
        refine Eq.trans (k_region0 rfl (f50r5 k a0 x4)) ?_
        refine Eq.trans k_lret ?_
        refine Eq.trans blk_ret ?_
        refine Eq.trans loop_ret ?_
        refine Eq.trans (hret _) ?_
        rfl
      · rw [hc]
        refine Eq.trans k_lskip ?_
        refine Eq.trans blk_normal ?_
        refine Eq.trans (k_lregion0 rfl (f50r3 k a0 x4)) ?_
        refine Eq.trans loop_normal ?_
        exact ih (Go.IntKind.wrap .i64 (x4 + 1))
    · rw [hc]
      refine Eq.trans k_exit ?_
      refine Eq.trans loop_exit ?_
      exact hK0 x4
theorem f50r6 (k : Nat) (a0 : Str) (y8 : Int) : RE k f50a6 f50o6 false ⟨[(0, (V.str a0)), (3, (I y8)), (7, (V.bool false))], [], 20⟩ = some ⟨[(2, (V.bool true))], [], 20⟩ :=
  rE rfl
theorem ref24_IsText_ok (k : Nat) (a0 : Str) : EV k 50 [(V.str a0)] = (ref24_IsText k a0).map ref24_IsText_fin := by
  cases k with
  | zero => rfl
  | succ k =>
    unfold ref24_IsText
    refine Eq.trans (evF_succ (c := f50c) (N := 20) (regs := f50n) rfl Go.Proofs.Try.func50 rfl (by decide) rfl rfl rfl) ?_
    refine Eq.trans (k_region0 rfl (f50r0 k a0)) ?_
    refine Eq.trans k_assoc ?_
    refine Eq.trans (k_region0 rfl (f50r1 k a0)) ?_
    refine Eq.trans (k_block rfl) ?_
    refine Eq.trans k_loop ?_
    refine ref24_IsText_L1_ok k a0 _ _ ?h_ref24_IsText_L1_0 ?hr_ref24_IsText_L1 k 0
    · intro y8
      refine Eq.trans blk_exit ?_
      refine Eq.trans (k_region0 rfl (f50r6 k a0 y8)) ?_
      refine Eq.trans k_lret ?_
      rfl
    · intro s; exact rfl
def ref11_IsName_fin : Bool → V × List V := fun r => ((V.bool r), [])
theorem f77r0 (k : Nat) (a0 : Str) : RE k f77a0 f77o0 false ⟨[(0, (V.str a0))], [], 47⟩ = some ⟨[(0, (V.str a0))], [], 47⟩ :=
  rE rfl
theorem f77r1 (k : Nat) (a0 : Str) : RE k f77a1 f77o1 false ⟨[(0, (V.str a0))], [], 47⟩ = some ⟨[(0, (V.str a0)), (3, (I 0))], [], 47⟩ :=
  rE rfl
theorem f77r2 (k : Nat) (a0 : Str) (x7 : Int) : RE k f77a2 f77o2 false ⟨[(0, (V.str a0)), (3, (I x7))], [], 47⟩ = some ⟨[(0, (V.str a0)), (3, (I x7)), (8, (V.bool (decide (x7 < (a0.length : Int)))))], [], 47⟩ :=
  rE rfl
theorem f77r4 (k : Nat) (a0 : Str) (x7 : Int) : RE k f77a4 f77o4 false ⟨[(0, (V.str a0)), (3, (I x7)), (8, (V.bool true))], [], 47⟩ = (((idxS a0 x7).bind fun v8 => (bif (decide (v8 ≥ 65)) then ((idxS a0 x7).bind fun v9 => (some ((decide (v9 ≤ 90))))) else (some (false))))).map (fun (o : Bool) => (⟨[(0, (V.str a0)), (3, (I x7)), (4, (V.bool o))], [], 47⟩ : St)) := by
  refine rg ?_
  refine ra 2 2 ⟨[(0, (V.str a0)), (3, (I x7)), (8, (V.bool true)), (11, (V.str a0)), (12, (I x7))], [], 47⟩ rfl rfl rfl ?_
  refine Eq.trans (reg_pure (x := (idxS a0 x7)) (w := fun v8 => (V.int .u8 v8)) rfl rfl rfl rfl (p_indexS rfl rfl rfl Go.Proofs.Try.underlying9)) ?_
  refine bindE (fun v8 => ?_)
  refine ba 2 5 ⟨[(0, (V.str a0)), (3, (I x7)), (8, (V.bool true)), (11, (V.str a0)), (12, (I x7)), (13, (V.int .u8 v8)), (14, (V.bool (decide (v8 ≥ 65)))), (15, (V.bool (decide (v8 ≥ 65))))], [], 47⟩ rfl rfl rfl ?_
  refine bifE (c := (decide (v8 ≥ 65))) (fun hc => ?_) fun hc => ?_
  · rw [hc]
    refine ra 2 7 ⟨[(0, (V.str a0)), (3, (I x7)), (8, (V.bool true)), (11, (V.str a0)), (12, (I x7)), (13, (V.int .u8 v8)), (14, (V.bool true)), (15, (V.bool true)), (16, (V.str a0)), (17, (I x7))], [], 47⟩ rfl rfl rfl ?_
    refine Eq.trans (reg_pure (x := (idxS a0 x7)) (w := fun v9 => (V.int .u8 v9)) rfl rfl rfl rfl (p_indexS rfl rfl rfl Go.Proofs.Try.underlying9)) ?_
    refine bindE (fun v9 => ?_)
    exact bind_end rfl
  · rw [hc]
    exact reg_end rfl
theorem f77r5 (k : Nat) (a0 : Str) (x7 : Int) (o10 : Bool) : RE k f77a5 f77o5 false ⟨[(0, (V.str a0)), (3, (I x7)), (4, (V.bool o10))], [], 47⟩ = ((bif (!o10) then (bif (x7 == 0) then (some (true)) else ((idxS a0 x7).bind fun v11 => (bif (decide (v11 < 48)) then (some (true)) else ((idxS a0 x7).bind fun v12 => (some ((decide (v12 > 57)))))))) else (some (false)))).map (fun (o : Bool) => (⟨[(0, (V.str a0)), (3, (I x7)), (38, (V.bool o))], [], 47⟩ : St)) := by
  refine rg ?_
  refine ra 3 3 ⟨[(0, (V.str a0)), (3, (I x7)), (4, (V.bool o10)), (21, (V.bool o10)), (22, (V.bool (!o10))), (23, (V.bool (!o10)))], [], 47⟩ rfl rfl rfl ?_
  refine bifE (c := (!o10)) (fun hc => ?_) fun hc => ?_
  · rw [hc]
    refine ra 3 6 ⟨[(0, (V.str a0)), (3, (I x7)), (4, (V.bool o10)), (21, (V.bool o10)), (22, (V.bool true)), (23, (V.bool true)), (24, (I x7)), (25, (V.bool (x7 == 0))), (26, (V.bool (x7 == 0)))], [], 47⟩ rfl rfl rfl ?_
    refine bifE (c := (x7 == 0)) (fun hc => ?_) fun hc => ?_
    · rw [hc]
      exact reg_end rfl
    · rw [hc]
      refine ra 2 8 ⟨[(0, (V.str a0)), (3, (I x7)), (4, (V.bool o10)), (21, (V.bool o10)), (22, (V.bool true)), (23, (V.bool true)), (24, (I x7)), (25, (V.bool false)), (26, (V.bool false)), (27, (V.str a0)), (28, (I x7))], [], 47⟩ rfl rfl rfl ?_
      refine Eq.trans (reg_pure (x := (idxS a0 x7)) (w := fun v11 => (V.int .u8 v11)) rfl rfl rfl rfl (p_indexS rfl rfl rfl Go.Proofs.Try.underlying9)) ?_
      refine bindE (fun v11 => ?_)
      refine ba 3 12 ⟨[(0, (V.str a0)), (3, (I x7)), (4, (V.bool o10)), (21, (V.bool o10)), (22, (V.bool true)), (23, (V.bool true)), (24, (I x7)), (25, (V.bool false)), (26, (V.bool false)), (27, (V.str a0)), (28, (I x7)), (29, (V.int .u8 v11)), (30, (V.bool (decide (v11 < 48)))), (31, (V.bool (decide (v11 < 48)))), (32, (V.bool (decide (v11 < 48))))], [], 47⟩ rfl rfl rfl ?_
      refine bifE (c := (decide (v11 < 48))) (fun hc => ?_) fun hc => ?_
      · rw [hc]
        exact reg_end rfl
      · rw [hc]
        refine ra 2 14 ⟨[(0, (V.str a0)), (3, (I x7)), (4, (V.bool o10)), (21, (V.bool o10)), (22, (V.bool true)), (23, (V.bool true)), (24, (I x7)), (25, (V.bool false)), (26, (V.bool false)), (27, (V.str a0)), (28, (I x7)), (29, (V.int .u8 v11)), (30, (V.bool false)), (31, (V.bool false)), (32, (V.bool false)), (33, (V.str a0)), (34, (I x7))], [], 47⟩ rfl rfl rfl ?_
        refine Eq.trans (reg_pure (x := (idxS a0 x7)) (w := fun v12 => (V.int .u8 v12)) rfl rfl rfl rfl (p_indexS rfl rfl rfl Go.Proofs.Try.underlying9)) ?_
        refine bindE (fun v12 => ?_)
        exact bind_end rfl
  · rw [hc]
    exact reg_end rfl
theorem f77r6 (k : Nat) (a0 : Str) (x7 : Int) : RE k f77a6 f77o6 false ⟨[(0, (V.str a0)), (3, (I x7)), (38, (V.bool true))], [], 47⟩ = some ⟨[(2, (V.bool false))], [], 47⟩ :=
  rE rfl
theorem f77r3 (k : Nat) (a0 : Str) (x7 : Int) : RE k f77a3 f77o3 false ⟨[(0, (V.str a0)), (3, (I x7)), (38, (V.bool false))], [], 47⟩ = some ⟨[(0, (V.str a0)), (3, (I (Go.IntKind.wrap .i64 (x7 + 1))))], [], 47⟩ :=
  rE rfl
theorem ref11_IsName_L1_ok (k : Nat) (a0 : Str)  (K0 : Int → Option Bool) (Kst : X × St → Option (V × List V)) (hK0 : ∀ (y0 : Int), Kst (X.exit 0, ⟨[(0, (V.str a0)), (3, (I y0)), (8, (V.bool false))], [], 47⟩) = (K0 y0).map ref11_IsName_fin) (hret : ∀ s, Kst (X.ret, s) = endK prog 47 [(V.str a0)] [] [.tmp 2] (X.ret, s)) :
    ∀ (m : Nat) (x7 : Int), (iter (exec prog (EV k) f77n k f77b0) m ⟨[(0, (V.str a0)), (3, (I x7))], [], 47⟩).bind Kst = (ref11_IsName_L1 a0 K0 m x7).map ref11_IsName_fin := by
  intro m
  induction m with
  | zero => intros; rfl
  | succ m ih =>
    intro x7
    unfold ref11_IsName_L1
    refine Eq.trans k_round ?_
    refine Eq.trans k_assoc ?_
    refine Eq.trans (k_region0 rfl (f77r2 k a0 x7)) ?_
    refine Eq.trans (k_cond (t := (decide (x7 < (a0.length : Int)))) rfl rfl) ?_
    refine bifE2 (fun hc => ?_) fun hc => ?_
    · rw [hc]
      refine Eq.trans k_skip ?_
      refine Eq.trans (k_block rfl) ?_
      refine Eq.trans (k_region rfl (f77r4 k a0 x7)) ?_
      refine bindE (fun o10 => ?_)
      refine Eq.trans (k_region rfl (f77r5 k a0 x7 o10)) ?_
      refine bindE (fun o13 => ?_)
      refine Eq.trans (k_lcond (t := o13) rfl rfl) ?_
      refine bifE2 (fun hc => ?_) fun hc => ?_
      · rw [hc]
        refine Eq.trans (k_region0 rfl (f77r6 k a0 x7)) ?_
        refine Eq.trans k_lret ?_
        refine Eq.trans blk_ret ?_
        refine Eq.trans loop_ret ?_
        refine Eq.trans (hret _) ?_
        rfl
      · rw [hc]
        refine Eq.trans k_lskip ?_
        refine Eq.trans blk_normal ?_
        refine Eq.trans (k_lregion0 rfl (f77r3 k a0 x7)) ?_
        refine Eq.trans loop_normal ?_
        exact ih (Go.IntKind.wrap .i64 (x7 + 1))
    · rw [hc]
      refine Eq.trans k_exit ?_
      refine Eq.trans loop_exit ?_
      exact hK0 x7
theorem f77r7 (k : Nat) (a0 : Str) (y14 : Int) : RE k f77a7 f77o7 false ⟨[(0, (V.str a0)), (3, (I y14)), (8, (V.bool false))], [], 47⟩ = ((bif (decide ((a0.length : Int) ≥ 1)) then (some ((decide ((a0.length : Int) ≤ 8)))) else (some (false)))).map (fun (o : Bool) => (⟨[(2, (V.bool o))], [], 47⟩ : St)) := by
  refine rg ?_
  refine ra 4 4 ⟨[(0, (V.str a0)), (3, (I y14)), (8, (V.bool false)), (39, (V.str a0)), (40, (I (a0.length : Int))), (41, (V.bool (decide ((a0.length : Int) ≥ 1)))), (42, (V.bool (decide ((a0.length : Int) ≥ 1))))], [], 47⟩ rfl rfl rfl ?_
  refine bifE (c := (decide ((a0.length : Int) ≥ 1))) (fun hc => ?_) fun hc => ?_
  · rw [hc]
    exact reg_end rfl
  · rw [hc]
    exact reg_end rfl
theorem ref11_IsName_ok (k : Nat) (a0 : Str) : EV k 77 [(V.str a0)] = (ref11_IsName k a0).map ref11_IsName_fin := by
  cases k with
  | zero => rfl
  | succ k =>
    unfold ref11_IsName
    refine Eq.trans (evF_succ (c := f77c) (N := 47) (regs := f77n) rfl Go.Proofs.Try.func77 rfl (by decide) rfl rfl rfl) ?_
    refine Eq.trans (k_region0 rfl (f77r0 k a0)) ?_
    refine Eq.trans k_assoc ?_
    refine Eq.trans (k_region0 rfl (f77r1 k a0)) ?_
    refine Eq.trans (k_block rfl) ?_
    refine Eq.trans k_loop ?_
    refine ref11_IsName_L1_ok k a0 _ _ ?h_ref11_IsName_L1_0 ?hr_ref11_IsName_L1 k 0
    · intro y14
      refine Eq.trans blk_exit ?_
      refine Eq.trans (k_region rfl (f77r7 k a0 y14)) ?_
      refine bindE (fun o15 => ?_)
      refine Eq.trans k_lret ?_
      rfl
    · intro s; exact rfl
def ref24_isField_fin : Bool → V × List V := fun r => ((V.bool r), [])
theorem f57r0 (k : Nat) (a0 : (List T_api_Slot)) (a1 : T_api_Slot) : RE k f57a0 f57o0 false ⟨[(0, (sSlot a0)), (1, (enc_T_api_Slot a1))], [], 84⟩ = some ⟨[(0, (sSlot a0)), (3, (V.ptr 3 0 0))], [(3, ⟨false, 7, [(enc_T_api_Slot a1)]⟩)], 84⟩ :=
  rE rfl
theorem f57r1 (k : Nat) (a0 : (List T_api_Slot)) (a1 : T_api_Slot) : RE k f57a1 f57o1 false ⟨[(0, (sSlot a0)), (3, (V.ptr 3 0 0))], [(3, ⟨false, 7, [(enc_T_api_Slot a1)]⟩)], 84⟩ = (((ref11_IsName k a1.fName).bind fun v1 => (bif (!v1) then (some (true)) else (bif (decide (a1.fIn < (-1))) then (some (true)) else (bif (decide (a1.fIn > 3)) then (some (true)) else (bif (decide (a1.fOut < (-1))) then (some (true)) else (bif (decide (a1.fOut > 3)) then (some (true)) else (bif (decide (a1.fFill < 32)) then (some (true)) else (some ((decide (a1.fFill > 126)))))))))))).map (fun (o : Bool) => (⟨[(0, (sSlot a0)), (3, (V.ptr 3 0 0)), (39, (V.bool o))], [(3, ⟨false, 7, [(enc_T_api_Slot a1)]⟩)], 84⟩ : St)) := by
  refine rg ?_
  refine ra 2 2 ⟨[(0, (sSlot a0)), (3, (V.ptr 3 0 0)), (6, (V.ptr 3 0 0)), (7, (V.str a1.fName))], [(3, ⟨false, 7, [(enc_T_api_Slot a1)]⟩)], 84⟩ rfl rfl rfl ?_
  refine Eq.trans (reg_pure (x := (ref11_IsName k a1.fName)) (w := fun v1 => (V.bool v1)) rfl rfl rfl rfl (p_call rfl rfl rfl rfl rfl (ref11_IsName_ok k a1.fName) (.inl rfl))) ?_
  refine bindE (fun v1 => ?_)
  refine ba 2 5 ⟨[(0, (sSlot a0)), (3, (V.ptr 3 0 0)), (6, (V.ptr 3 0 0)), (7, (V.str a1.fName)), (8, (V.bool v1)), (9, (V.bool (!v1))), (10, (V.bool (!v1)))], [(3, ⟨false, 7, [(enc_T_api_Slot a1)]⟩)], 84⟩ rfl rfl rfl ?_
  refine bifE (c := (!v1)) (fun hc => ?_) fun hc => ?_
  · rw [hc]
    exact reg_end rfl
  · rw [hc]
    refine ra 5 10 ⟨[(0, (sSlot a0)), (3, (V.ptr 3 0 0)), (6, (V.ptr 3 0 0)), (7, (V.str a1.fName)), (8, (V.bool v1)), (9, (V.bool false)), (10, (V.bool false)), (11, (V.ptr 3 0 4)), (12, (I a1.fIn)), (13, (V.bool (decide (a1.fIn < (-1))))), (14, (V.bool (decide (a1.fIn < (-1))))), (15, (V.bool (decide (a1.fIn < (-1)))))], [(3, ⟨false, 7, [(enc_T_api_Slot a1)]⟩)], 84⟩ rfl rfl rfl ?_
    refine bifE (c := (decide (a1.fIn < (-1)))) (fun hc => ?_) fun hc => ?_
    · rw [hc]
      exact reg_end rfl
    · rw [hc]
      refine ra 5 15 ⟨[(0, (sSlot a0)), (3, (V.ptr 3 0 0)), (6, (V.ptr 3 0 0)), (7, (V.str a1.fName)), (8, (V.bool v1)), (9, (V.bool false)), (10, (V.bool false)), (11, (V.ptr 3 0 4)), (12, (I a1.fIn)), (13, (V.bool false)), (14, (V.bool false)), (15, (V.bool false)), (16, (V.ptr 3 0 4)), (17, (I a1.fIn)), (18, (V.bool (decide (a1.fIn > 3)))), (19, (V.bool (decide (a1.fIn > 3)))), (20, (V.bool (decide (a1.fIn > 3))))], [(3, ⟨false, 7, [(enc_T_api_Slot a1)]⟩)], 84⟩ rfl rfl rfl ?_
      refine bifE (c := (decide (a1.fIn > 3))) (fun hc => ?_) fun hc => ?_
      · rw [hc]
        exact reg_end rfl
      · rw [hc]
        refine ra 5 20 ⟨[(0, (sSlot a0)), (3, (V.ptr 3 0 0)), (6, (V.ptr 3 0 0)), (7, (V.str a1.fName)), (8, (V.bool v1)), (9, (V.bool false)), (10, (V.bool false)), (11, (V.ptr 3 0 4)), (12, (I a1.fIn)), (13, (V.bool false)), (14, (V.bool false)), (15, (V.bool false)), (16, (V.ptr 3 0 4)), (17, (I a1.fIn)), (18, (V.bool false)), (19, (V.bool false)), (20, (V.bool false)), (21, (V.ptr 3 0 5)), (22, (I a1.fOut)), (23, (V.bool (decide (a1.fOut < (-1))))), (24, (V.bool (decide (a1.fOut < (-1))))), (25, (V.bool (decide (a1.fOut < (-1)))))], [(3, ⟨false, 7, [(enc_T_api_Slot a1)]⟩)], 84⟩ rfl rfl rfl ?_
        refine bifE (c := (decide (a1.fOut < (-1)))) (fun hc => ?_) fun hc => ?_
        · rw [hc]
          exact reg_end rfl
        · rw [hc]
          refine ra 5 25 ⟨[(0, (sSlot a0)), (3, (V.ptr 3 0 0)), (6, (V.ptr 3 0 0)), (7, (V.str a1.fName)), (8, (V.bool v1)), (9, (V.bool false)), (10, (V.bool false)), (11, (V.ptr 3 0 4)), (12, (I a1.fIn)), (13, (V.bool false)), (14, (V.bool false)), (15, (V.bool false)), (16, (V.ptr 3 0 4)), (17, (I a1.fIn)), (18, (V.bool false)), (19, (V.bool false)), (20, (V.bool false)), (21, (V.ptr 3 0 5)), (22, (I a1.fOut)), (23, (V.bool false)), (24, (V.bool false)), (25, (V.bool false)), (26, (V.ptr 3 0 5)), (27, (I a1.fOut)), (28, (V.bool (decide (a1.fOut > 3)))), (29, (V.bool (decide (a1.fOut > 3)))), (30, (V.bool (decide (a1.fOut > 3))))], [(3, ⟨false, 7, [(enc_T_api_Slot a1)]⟩)], 84⟩ rfl rfl rfl ?_
          refine bifE (c := (decide (a1.fOut > 3))) (fun hc => ?_) fun hc => ?_
          · rw [hc]
            exact reg_end rfl
          · rw [hc]
            refine ra 5 30 ⟨[(0, (sSlot a0)), (3, (V.ptr 3 0 0)), (6, (V.ptr 3 0 0)), (7, (V.str a1.fName)), (8, (V.bool v1)), (9, (V.bool false)), (10, (V.bool false)), (11, (V.ptr 3 0 4)), (12, (I a1.fIn)), (13, (V.bool false)), (14, (V.bool false)), (15, (V.bool false)), (16, (V.ptr 3 0 4)), (17, (I a1.fIn)), (18, (V.bool false)), (19, (V.bool false)), (20, (V.bool false)), (21, (V.ptr 3 0 5)), (22, (I a1.fOut)), (23, (V.bool false)), (24, (V.bool false)), (25, (V.bool false)), (26, (V.ptr 3 0 5)), (27, (I a1.fOut)), (28, (V.bool false)), (29, (V.bool false)), (30, (V.bool false)), (31, (V.ptr 3 0 6)), (32, (V.int .u8 a1.fFill)), (33, (V.bool (decide (a1.fFill < 32)))), (34, (V.bool (decide (a1.fFill < 32)))), (35, (V.bool (decide (a1.fFill < 32))))], [(3, ⟨false, 7, [(enc_T_api_Slot a1)]⟩)], 84⟩ rfl rfl rfl ?_
            refine bifE (c := (decide (a1.fFill < 32))) (fun hc => ?_) fun hc => ?_
            · rw [hc]
              exact reg_end rfl
            · rw [hc]
              exact reg_end rfl
theorem f57r2 (k : Nat) (a0 : (List T_api_Slot)) (a1 : T_api_Slot) : RE k f57a2 f57o2 false ⟨[(0, (sSlot a0)), (3, (V.ptr 3 0 0)), (39, (V.bool true))], [(3, ⟨false, 7, [(enc_T_api_Slot a1)]⟩)], 84⟩ = some ⟨[(4, (V.bool false))], [], 84⟩ :=
  rE rfl
theorem f57r3 (k : Nat) (a0 : (List T_api_Slot)) (a1 : T_api_Slot) : RE k f57a3 f57o3 false ⟨[(0, (sSlot a0)), (3, (V.ptr 3 0 0)), (39, (V.bool false))], [(3, ⟨false, 7, [(enc_T_api_Slot a1)]⟩)], 84⟩ = some ⟨[(0, (sSlot a0)), (3, (V.ptr 3 0 0)), (5, (I 0))], [(3, ⟨false, 7, [(enc_T_api_Slot a1)]⟩)], 84⟩ :=
  rE rfl
theorem f57r4 (k : Nat) (a0 : (List T_api_Slot)) (a1 : T_api_Slot) (x8 : Int) : RE k f57a4 f57o4 false ⟨[(0, (sSlot a0)), (3, (V.ptr 3 0 0)), (5, (I x8))], [(3, ⟨false, 7, [(enc_T_api_Slot a1)]⟩)], 84⟩ = some ⟨[(0, (sSlot a0)), (3, (V.ptr 3 0 0)), (5, (I x8)), (43, (V.bool (decide (x8 < (a0.length : Int)))))], [(3, ⟨false, 7, [(enc_T_api_Slot a1)]⟩)], 84⟩ := by
  refine rg ?_
  refine ra 2 2 ⟨[(0, (sSlot a0)), (3, (V.ptr 3 0 0)), (5, (I x8)), (40, (I x8)), (41, (sSlot a0))], [(3, ⟨false, 7, [(enc_T_api_Slot a1)]⟩)], 84⟩ rfl rfl rfl ?_
  refine Eq.trans (reg_pure (x := some ()) (w := fun _ => (I (a0.length : Int))) rfl rfl rfl rfl (p_len (e := enc_T_api_Slot) rfl rfl rfl rfl rfl rfl Go.Proofs.Try.underlying23)) ?_
  refine Eq.trans some_bind ?_
  exact bind_end rfl
theorem f57r6 (k : Nat) (a0 : (List T_api_Slot)) (a1 : T_api_Slot) (x8 : Int) : RE k f57a6 f57o6 true ⟨[(0, (sSlot a0)), (3, (V.ptr 3 0 0)), (5, (I x8)), (43, (V.bool true))], [(3, ⟨false, 7, [(enc_T_api_Slot a1)]⟩)], 84⟩ = (((idx a0 x8).bind fun v9 => (bif (v9.fName == a1.fName) then (some (true)) else (bif (decide (a1.fIn ≥ 0)) then ((idx a0 x8).bind fun v10 => (bif (v10.fIn == a1.fIn) then (some (true)) else (bif (decide (a1.fOut ≥ 0)) then ((idx a0 x8).bind fun v11 => (some ((v11.fOut == a1.fOut)))) else (some (false))))) else (bif (decide (a1.fOut ≥ 0)) then ((idx a0 x8).bind fun v12 => (some ((v12.fOut == a1.fOut)))) else (some (false))))))).map (fun (o : Bool) => (⟨[(0, (sSlot a0)), (3, (V.ptr 3 0 0)), (5, (I x8)), (83, (V.bool o))], [(3, ⟨false, 7, [(enc_T_api_Slot a1)]⟩)], 84⟩ : St)) := by
  refine Eq.trans (regionE_regp (p := 38) (dk := true) (t := [(0, (sSlot a0)), (3, (V.ptr 3 0 0)), (5, (I x8)), (43, (V.bool true))]) (σ := [(3, ⟨false, 7, [(enc_T_api_Slot a1)]⟩)]) (n := 84) rfl (by decide) (by decide) rfl) ?_
  refine Eq.trans (regp_adv (m := 2) (j := 2) (t' := [(0, (sSlot a0)), (3, (V.ptr 3 0 0)), (5, (I x8)), (43, (V.bool true)), (46, (sSlot a0)), (47, (I x8))]) rfl rfl rfl) ?_
  refine Eq.trans (regp_pure (x := (idx a0 x8)) (w := fun v9 => (V.pro (enc_T_api_Slot v9))) rfl rfl rfl rfl rfl (p_index (e := enc_T_api_Slot) rfl rfl rfl Go.Proofs.Try.underlying23 rfl (by decide))) ?_
  refine bindE (fun v9 => ?_)
  refine Eq.trans (putp_adv (m := 6) (j := 9) (t' := [(0, (sSlot a0)), (3, (V.ptr 3 0 0)), (5, (I x8)), (43, (V.bool true)), (46, (sSlot a0)), (47, (I x8)), (48, (V.pro (enc_T_api_Slot v9))), (49, (V.pro (V.str v9.fName))), (50, (V.str v9.fName)), (51, (V.ptr 3 0 0)), (52, (V.str a1.fName)), (53, (V.bool (v9.fName == a1.fName))), (54, (V.bool (v9.fName == a1.fName)))]) rfl rfl rfl) ?_
  refine bifE (c := (v9.fName == a1.fName)) (fun hc => ?_) fun hc => ?_
  · rw [hc]
    exact regp_end rfl
  · rw [hc]
    refine Eq.trans (regp_adv (m := 4) (j := 13) (t' := [(0, (sSlot a0)), (3, (V.ptr 3 0 0)), (5, (I x8)), (43, (V.bool true)), (46, (sSlot a0)), (47, (I x8)), (48, (V.pro (enc_T_api_Slot v9))), (49, (V.pro (V.str v9.fName))), (50, (V.str v9.fName)), (51, (V.ptr 3 0 0)), (52, (V.str a1.fName)), (53, (V.bool false)), (54, (V.bool false)), (55, (V.ptr 3 0 4)), (56, (I a1.fIn)), (57, (V.bool (decide (a1.fIn ≥ 0)))), (58, (V.bool (decide (a1.fIn ≥ 0))))]) rfl rfl rfl) ?_
    refine bifE (c := (decide (a1.fIn ≥ 0))) (fun hc => ?_) fun hc => ?_
    · rw [hc]
      refine Eq.trans (regp_adv (m := 2) (j := 15) (t' := [(0, (sSlot a0)), (3, (V.ptr 3 0 0)), (5, (I x8)), (43, (V.bool true)), (46, (sSlot a0)), (47, (I x8)), (48, (V.pro (enc_T_api_Slot v9))), (49, (V.pro (V.str v9.fName))), (50, (V.str v9.fName)), (51, (V.ptr 3 0 0)), (52, (V.str a1.fName)), (53, (V.bool false)), (54, (V.bool false)), (55, (V.ptr 3 0 4)), (56, (I a1.fIn)), (57, (V.bool true)), (58, (V.bool true)), (59, (sSlot a0)), (60, (I x8))]) rfl rfl rfl) ?_
      refine Eq.trans (regp_pure (x := (idx a0 x8)) (w := fun v10 => (V.pro (enc_T_api_Slot v10))) rfl rfl rfl rfl rfl (p_index (e := enc_T_api_Slot) rfl rfl rfl Go.Proofs.Try.underlying23 rfl (by decide))) ?_
      refine bindE (fun v10 => ?_)
      refine Eq.trans (putp_adv (m := 8) (j := 24) (t' := [(0, (sSlot a0)), (3, (V.ptr 3 0 0)), (5, (I x8)), (43, (V.bool true)), (46, (sSlot a0)), (47, (I x8)), (48, (V.pro (enc_T_api_Slot v9))), (49, (V.pro (V.str v9.fName))), (50, (V.str v9.fName)), (51, (V.ptr 3 0 0)), (52, (V.str a1.fName)), (53, (V.bool false)), (54, (V.bool false)), (55, (V.ptr 3 0 4)), (56, (I a1.fIn)), (57, (V.bool true)), (58, (V.bool true)), (59, (sSlot a0)), (60, (I x8)), (61, (V.pro (enc_T_api_Slot v10))), (62, (V.pro (I v10.fIn))), (63, (I v10.fIn)), (64, (V.ptr 3 0 4)), (65, (I a1.fIn)), (66, (V.bool (v10.fIn == a1.fIn))), (67, (V.bool (v10.fIn == a1.fIn))), (68, (V.bool (v10.fIn == a1.fIn))), (69, (V.bool (v10.fIn == a1.fIn)))]) rfl rfl rfl) ?_
      refine bifE (c := (v10.fIn == a1.fIn)) (fun hc => ?_) fun hc => ?_
      · rw [hc]
        exact regp_end rfl
      · rw [hc]
        refine Eq.trans (regp_adv (m := 4) (j := 28) (t' := [(0, (sSlot a0)), (3, (V.ptr 3 0 0)), (5, (I x8)), (43, (V.bool true)), (46, (sSlot a0)), (47, (I x8)), (48, (V.pro (enc_T_api_Slot v9))), (49, (V.pro (V.str v9.fName))), (50, (V.str v9.fName)), (51, (V.ptr 3 0 0)), (52, (V.str a1.fName)), (53, (V.bool false)), (54, (V.bool false)), (55, (V.ptr 3 0 4)), (56, (I a1.fIn)), (57, (V.bool true)), (58, (V.bool true)), (59, (sSlot a0)), (60, (I x8)), (61, (V.pro (enc_T_api_Slot v10))), (62, (V.pro (I v10.fIn))), (63, (I v10.fIn)), (64, (V.ptr 3 0 4)), (65, (I a1.fIn)), (66, (V.bool false)), (67, (V.bool false)), (68, (V.bool false)), (69, (V.bool false)), (70, (V.ptr 3 0 5)), (71, (I a1.fOut)), (72, (V.bool (decide (a1.fOut ≥ 0)))), (73, (V.bool (decide (a1.fOut ≥ 0))))]) rfl rfl rfl) ?_
        refine bifE (c := (decide (a1.fOut ≥ 0))) (fun hc => ?_) fun hc => ?_
        · rw [hc]
          refine Eq.trans (regp_adv (m := 2) (j := 30) (t' := [(0, (sSlot a0)), (3, (V.ptr 3 0 0)), (5, (I x8)), (43, (V.bool true)), (46, (sSlot a0)), (47, (I x8)), (48, (V.pro (enc_T_api_Slot v9))), (49, (V.pro (V.str v9.fName))), (50, (V.str v9.fName)), (51, (V.ptr 3 0 0)), (52, (V.str a1.fName)), (53, (V.bool false)), (54, (V.bool false)), (55, (V.ptr 3 0 4)), (56, (I a1.fIn)), (57, (V.bool true)), (58, (V.bool true)), (59, (sSlot a0)), (60, (I x8)), (61, (V.pro (enc_T_api_Slot v10))), (62, (V.pro (I v10.fIn))), (63, (I v10.fIn)), (64, (V.ptr 3 0 4)), (65, (I a1.fIn)), (66, (V.bool false)), (67, (V.bool false)), (68, (V.bool false)), (69, (V.bool false)), (70, (V.ptr 3 0 5)), (71, (I a1.fOut)), (72, (V.bool true)), (73, (V.bool true)), (74, (sSlot a0)), (75, (I x8))]) rfl rfl rfl) ?_
          refine Eq.trans (regp_pure (x := (idx a0 x8)) (w := fun v11 => (V.pro (enc_T_api_Slot v11))) rfl rfl rfl rfl rfl (p_index (e := enc_T_api_Slot) rfl rfl rfl Go.Proofs.Try.underlying23 rfl (by decide))) ?_
          refine bindE (fun v11 => ?_)
          exact regp_end rfl
        · rw [hc]
          exact regp_end rfl
    · rw [hc]
      refine Eq.trans (regp_adv (m := 15) (j := 28) (t' := [(0, (sSlot a0)), (3, (V.ptr 3 0 0)), (5, (I x8)), (43, (V.bool true)), (46, (sSlot a0)), (47, (I x8)), (48, (V.pro (enc_T_api_Slot v9))), (49, (V.pro (V.str v9.fName))), (50, (V.str v9.fName)), (51, (V.ptr 3 0 0)), (52, (V.str a1.fName)), (53, (V.bool false)), (54, (V.bool false)), (55, (V.ptr 3 0 4)), (56, (I a1.fIn)), (57, (V.bool false)), (58, (V.bool false)), (59, (V.tup [])), (60, (V.tup [])), (61, (V.tup [])), (62, (V.tup [])), (63, (V.tup [])), (64, (V.tup [])), (65, (V.tup [])), (66, (V.tup [])), (67, (V.bool false)), (68, (V.bool false)), (69, (V.bool false)), (70, (V.ptr 3 0 5)), (71, (I a1.fOut)), (72, (V.bool (decide (a1.fOut ≥ 0)))), (73, (V.bool (decide (a1.fOut ≥ 0))))]) rfl rfl rfl) ?_
      refine bifE (c := (decide (a1.fOut ≥ 0))) (fun hc => ?_) fun hc => ?_
      · rw [hc]
        refine Eq.trans (regp_adv (m := 2) (j := 30) (t' := [(0, (sSlot a0)), (3, (V.ptr 3 0 0)), (5, (I x8)), (43, (V.bool true)), (46, (sSlot a0)), (47, (I x8)), (48, (V.pro (enc_T_api_Slot v9))), (49, (V.pro (V.str v9.fName))), (50, (V.str v9.fName)), (51, (V.ptr 3 0 0)), (52, (V.str a1.fName)), (53, (V.bool false)), (54, (V.bool false)), (55, (V.ptr 3 0 4)), (56, (I a1.fIn)), (57, (V.bool false)), (58, (V.bool false)), (59, (V.tup [])), (60, (V.tup [])), (61, (V.tup [])), (62, (V.tup [])), (63, (V.tup [])), (64, (V.tup [])), (65, (V.tup [])), (66, (V.tup [])), (67, (V.bool false)), (68, (V.bool false)), (69, (V.bool false)), (70, (V.ptr 3 0 5)), (71, (I a1.fOut)), (72, (V.bool true)), (73, (V.bool true)), (74, (sSlot a0)), (75, (I x8))]) rfl rfl rfl) ?_
        refine Eq.trans (regp_pure (x := (idx a0 x8)) (w := fun v12 => (V.pro (enc_T_api_Slot v12))) rfl rfl rfl rfl rfl (p_index (e := enc_T_api_Slot) rfl rfl rfl Go.Proofs.Try.underlying23 rfl (by decide))) ?_
        refine bindE (fun v12 => ?_)
        exact regp_end rfl
      · rw [hc]
        exact regp_end rfl
theorem f57r7 (k : Nat) (a0 : (List T_api_Slot)) (a1 : T_api_Slot) (x8 : Int) : RE k f57a7 f57o7 false ⟨[(0, (sSlot a0)), (3, (V.ptr 3 0 0)), (5, (I x8)), (83, (V.bool true))], [(3, ⟨false, 7, [(enc_T_api_Slot a1)]⟩)], 84⟩ = some ⟨[(4, (V.bool false))], [], 84⟩ :=
  rE rfl
theorem f57r5 (k : Nat) (a0 : (List T_api_Slot)) (a1 : T_api_Slot) (x8 : Int) : RE k f57a5 f57o5 false ⟨[(0, (sSlot a0)), (3, (V.ptr 3 0 0)), (5, (I x8)), (83, (V.bool false))], [(3, ⟨false, 7, [(enc_T_api_Slot a1)]⟩)], 84⟩ = some ⟨[(0, (sSlot a0)), (3, (V.ptr 3 0 0)), (5, (I (Go.IntKind.wrap .i64 (x8 + 1))))], [(3, ⟨false, 7, [(enc_T_api_Slot a1)]⟩)], 84⟩ :=
  rE rfl
theorem ref24_isField_L1_ok (k : Nat) (a0 : (List T_api_Slot)) (a1 : T_api_Slot)  (K0 : Int → Option Bool) (Kst : X × St → Option (V × List V)) (hK0 : ∀ (y0 : Int), Kst (X.exit 0, ⟨[(0, (sSlot a0)), (3, (V.ptr 3 0 0)), (5, (I y0)), (43, (V.bool false))], [(3, ⟨false, 7, [(enc_T_api_Slot a1)]⟩)], 84⟩) = (K0 y0).map ref24_isField_fin) (hret : ∀ s, Kst (X.ret, s) = endK prog 84 [(sSlot a0), (enc_T_api_Slot a1)] [] [.tmp 4] (X.ret, s)) :
    ∀ (m : Nat) (x8 : Int), (iter (exec prog (EV k) f57n k f57b0) m ⟨[(0, (sSlot a0)), (3, (V.ptr 3 0 0)), (5, (I x8))], [(3, ⟨false, 7, [(enc_T_api_Slot a1)]⟩)], 84⟩).bind Kst = (ref24_isField_L1 a0 a1 K0 m x8).map ref24_isField_fin := by
  intro m
  induction m with
  | zero => intros; rfl
  | succ m ih =>
    intro x8
    unfold ref24_isField_L1
    refine Eq.trans k_round ?_
    refine Eq.trans k_assoc ?_
    refine Eq.trans (k_region0 rfl (f57r4 k a0 a1 x8)) ?_
    refine Eq.trans (k_cond (t := (decide (x8 < (a0.length : Int)))) rfl rfl) ?_
    refine bifE2 (fun hc => ?_) fun hc => ?_
    · rw [hc]
      refine Eq.trans k_skip ?_
      refine Eq.trans (k_block rfl) ?_
      refine Eq.trans (k_region rfl (f57r6 k a0 a1 x8)) ?_
      refine bindE (fun o13 => ?_)
      refine Eq.trans (k_lcond (t := o13) rfl rfl) ?_
      refine bifE2 (fun hc => ?_) fun hc => ?_
      · rw [hc]
        refine Eq.trans (k_region0 rfl (f57r7 k a0 a1 x8)) ?_
        refine Eq.trans k_lret ?_
        refine Eq.trans blk_ret ?_
        refine Eq.trans loop_ret ?_
        refine Eq.trans (hret _) ?_
        rfl
      · rw [hc]
        refine Eq.trans k_lskip ?_
        refine Eq.trans blk_normal ?_
        refine Eq.trans (k_lregion0 rfl (f57r5 k a0 a1 x8)) ?_
        refine Eq.trans loop_normal ?_
        exact ih (Go.IntKind.wrap .i64 (x8 + 1))
    · rw [hc]
      refine Eq.trans k_exit ?_
      refine Eq.trans loop_exit ?_
      exact hK0 x8
theorem f57r8 (k : Nat) (a0 : (List T_api_Slot)) (a1 : T_api_Slot) (y14 : Int) : RE k f57a8 f57o8 false ⟨[(0, (sSlot a0)), (3, (V.ptr 3 0 0)), (5, (I y14)), (43, (V.bool false))], [(3, ⟨false, 7, [(enc_T_api_Slot a1)]⟩)], 84⟩ = some ⟨[(4, (V.bool true))], [], 84⟩ :=
  rE rfl
theorem ref24_isField_ok (k : Nat) (a0 : (List T_api_Slot)) (a1 : T_api_Slot) : EV k 57 [(sSlot a0), (enc_T_api_Slot a1)] = (ref24_isField k a0 a1).map ref24_isField_fin := by
  cases k with
  | zero => rfl
  | succ k =>
    unfold ref24_isField
    refine Eq.trans (evF_succ (c := f57c) (N := 84) (regs := f57n) rfl Go.Proofs.Try.func57 rfl (by decide) rfl rfl rfl) ?_
    refine Eq.trans (k_region0 rfl (f57r0 k a0 a1)) ?_
    refine Eq.trans k_assoc ?_
    refine Eq.trans (k_region rfl (f57r1 k a0 a1)) ?_
    refine bindE (fun o2 => ?_)
    refine Eq.trans (k_cond (t := o2) rfl rfl) ?_
    refine bifE2 (fun hc => ?_) fun hc => ?_
    · rw [hc]
      refine Eq.trans k_assoc ?_
      refine Eq.trans (k_region0 rfl (f57r2 k a0 a1)) ?_
      refine Eq.trans k_ret ?_
      rfl
    · rw [hc]
      refine Eq.trans k_skip ?_
      refine Eq.trans k_assoc ?_
      refine Eq.trans (k_region0 rfl (f57r3 k a0 a1)) ?_
      refine Eq.trans (k_block rfl) ?_
      refine Eq.trans k_loop ?_
      refine ref24_isField_L1_ok k a0 a1 _ _ ?h_ref24_isField_L1_0 ?hr_ref24_isField_L1 k 0
      · intro y14
        refine Eq.trans blk_exit ?_
        refine Eq.trans (k_region0 rfl (f57r8 k a0 a1 y14)) ?_
        refine Eq.trans k_lret ?_
        rfl
      · intro s; exact rfl
def ref24_spans_fin : (List T_progenyref24_span) → V × List V := fun r => ((sspan (r)), [])
theorem f58r0 (k : Nat) (a0 : T_api_Form) : RE k f58a0 f58o0 false ⟨[(0, (enc_T_api_Form a0))], [], 66⟩ = some ⟨[(1, (V.ptr 1 0 0))], [(1, ⟨false, 4, [(enc_T_api_Form a0)]⟩)], 66⟩ :=
  rE rfl
theorem f58r1 (k : Nat) (a0 : T_api_Form) : RE k f58a1 f58o1 false ⟨[(1, (V.ptr 1 0 0))], [(1, ⟨false, 4, [(enc_T_api_Form a0)]⟩)], 66⟩ = some ⟨[(1, (V.ptr 1 0 0)), (3, (V.aref 3 0 (List.map enc_T_progenyref24_span ([] : List T_progenyref24_span)).length))], [(1, ⟨false, 4, [(enc_T_api_Form a0)]⟩), (3, ⟨true, 3, List.map enc_T_progenyref24_span ([] : List T_progenyref24_span)⟩)], 66⟩ :=
  rE rfl
theorem f58r2 (k : Nat) (a0 : T_api_Form) : RE k f58a2 f58o2 false ⟨[(1, (V.ptr 1 0 0)), (3, (V.aref 3 0 (List.map enc_T_progenyref24_span ([] : List T_progenyref24_span)).length))], [(1, ⟨false, 4, [(enc_T_api_Form a0)]⟩), (3, ⟨true, 3, List.map enc_T_progenyref24_span ([] : List T_progenyref24_span)⟩)], 66⟩ = some ⟨[(1, (V.ptr 1 0 0)), (3, (V.aref 3 0 (List.map enc_T_progenyref24_span ([] : List T_progenyref24_span)).length)), (4, (I 0))], [(1, ⟨false, 4, [(enc_T_api_Form a0)]⟩), (3, ⟨true, 3, List.map enc_T_progenyref24_span ([] : List T_progenyref24_span)⟩)], 66⟩ :=
  rE rfl
theorem f58r3 (k : Nat) (a0 : T_api_Form) (x6 : Int) (x7 : (List T_progenyref24_span)) : RE k f58a3 f58o3 false ⟨[(1, (V.ptr 1 0 0)), (3, (V.aref 3 0 (List.map enc_T_progenyref24_span x7).length)), (4, (I x6))], [(1, ⟨false, 4, [(enc_T_api_Form a0)]⟩), (3, ⟨true, 3, List.map enc_T_progenyref24_span x7⟩)], 66⟩ = some ⟨[(1, (V.ptr 1 0 0)), (3, (V.aref 3 0 (List.map enc_T_progenyref24_span x7).length)), (4, (I x6)), (10, (V.bool (decide (x6 < (a0.fMarks.length : Int)))))], [(1, ⟨false, 4, [(enc_T_api_Form a0)]⟩), (3, ⟨true, 3, List.map enc_T_progenyref24_span x7⟩)], 66⟩ := by
  refine rg ?_
  refine ra 3 3 ⟨[(1, (V.ptr 1 0 0)), (3, (V.aref 3 0 (List.map enc_T_progenyref24_span x7).length)), (4, (I x6)), (6, (I x6)), (7, (V.ptr 1 0 2)), (8, (sMark (a0.fMarks)))], [(1, ⟨false, 4, [(enc_T_api_Form a0)]⟩), (3, ⟨true, 3, List.map enc_T_progenyref24_span x7⟩)], 66⟩ rfl rfl rfl ?_
  refine Eq.trans (reg_pure (x := some ()) (w := fun _ => (I (a0.fMarks.length : Int))) rfl rfl rfl rfl (p_len (e := enc_T_api_Mark) rfl rfl rfl rfl rfl rfl Go.Proofs.Try.underlying22)) ?_
  refine Eq.trans some_bind ?_
  exact bind_end rfl
theorem f58r5 (k : Nat) (a0 : T_api_Form) (x6 : Int) (x7 : (List T_progenyref24_span)) : RE k f58a5 f58o5 true ⟨[(1, (V.ptr 1 0 0)), (3, (V.aref 3 0 (List.map enc_T_progenyref24_span x7).length)), (4, (I x6)), (10, (V.bool true))], [(1, ⟨false, 4, [(enc_T_api_Form a0)]⟩), (3, ⟨true, 3, List.map enc_T_progenyref24_span x7⟩)], 66⟩ = (((idx a0.fMarks x6).bind fun v8 => ((idx a0.fMarks x6).bind fun v9 => ((idx a0.fMarks x6).bind fun v10 => (app x7 ([({ frow := v8.fRow, fcolumn := v9.fColumn, fbytes := (v10.fText.length : Int) } : T_progenyref24_span)] : List T_progenyref24_span)))))).map (fun (o : (List T_progenyref24_span)) => (⟨[(1, (V.ptr 1 0 0)), (3, (V.aref 3 0 (List.map enc_T_progenyref24_span o).length)), (4, (I x6))], [(1, ⟨false, 4, [(enc_T_api_Form a0)]⟩), (3, ⟨true, 3, List.map enc_T_progenyref24_span o⟩)], 66⟩ : St)) := by
  refine Eq.trans (regionE_regp (p := 22) (dk := true) (t := [(1, (V.ptr 1 0 0)), (3, (V.aref 3 0 (List.map enc_T_progenyref24_span x7).length)), (4, (I x6)), (10, (V.bool true))]) (σ := [(1, ⟨false, 4, [(enc_T_api_Form a0)]⟩), (3, ⟨true, 3, List.map enc_T_progenyref24_span x7⟩)]) (n := 66) rfl (by decide) (by decide) rfl) ?_
  refine Eq.trans (regp_adv (m := 4) (j := 4) (t' := [(1, (V.ptr 1 0 0)), (3, (V.aref 3 0 (List.map enc_T_progenyref24_span x7).length)), (4, (I x6)), (10, (V.bool true)), (13, (V.aref 3 0 (List.map enc_T_progenyref24_span x7).length)), (14, (V.ptr 1 0 2)), (15, (sMark (a0.fMarks))), (16, (I x6))]) rfl rfl rfl) ?_
  refine Eq.trans (regp_pure (x := (idx a0.fMarks x6)) (w := fun v8 => (V.pro (enc_T_api_Mark v8))) rfl rfl rfl rfl rfl (p_index (e := enc_T_api_Mark) rfl rfl rfl Go.Proofs.Try.underlying22 rfl (by decide))) ?_
  refine bindE (fun v8 => ?_)
  refine Eq.trans (putp_adv (m := 5) (j := 10) (t' := [(1, (V.ptr 1 0 0)), (3, (V.aref 3 0 (List.map enc_T_progenyref24_span x7).length)), (4, (I x6)), (10, (V.bool true)), (13, (V.aref 3 0 (List.map enc_T_progenyref24_span x7).length)), (14, (V.ptr 1 0 2)), (15, (sMark (a0.fMarks))), (16, (I x6)), (17, (V.pro (enc_T_api_Mark v8))), (18, (V.pro (I v8.fRow))), (19, (I v8.fRow)), (20, (V.ptr 1 0 2)), (21, (sMark (a0.fMarks))), (22, (I x6))]) rfl rfl rfl) ?_
  refine Eq.trans (regp_pure (x := (idx a0.fMarks x6)) (w := fun v9 => (V.pro (enc_T_api_Mark v9))) rfl rfl rfl rfl rfl (p_index (e := enc_T_api_Mark) rfl rfl rfl Go.Proofs.Try.underlying22 rfl (by decide))) ?_
  refine bindE (fun v9 => ?_)
  refine Eq.trans (putp_adv (m := 5) (j := 16) (t' := [(1, (V.ptr 1 0 0)), (3, (V.aref 3 0 (List.map enc_T_progenyref24_span x7).length)), (4, (I x6)), (10, (V.bool true)), (13, (V.aref 3 0 (List.map enc_T_progenyref24_span x7).length)), (14, (V.ptr 1 0 2)), (15, (sMark (a0.fMarks))), (16, (I x6)), (17, (V.pro (enc_T_api_Mark v8))), (18, (V.pro (I v8.fRow))), (19, (I v8.fRow)), (20, (V.ptr 1 0 2)), (21, (sMark (a0.fMarks))), (22, (I x6)), (23, (V.pro (enc_T_api_Mark v9))), (24, (V.pro (I v9.fColumn))), (25, (I v9.fColumn)), (26, (V.ptr 1 0 2)), (27, (sMark (a0.fMarks))), (28, (I x6))]) rfl rfl rfl) ?_
  refine Eq.trans (regp_pure (x := (idx a0.fMarks x6)) (w := fun v10 => (V.pro (enc_T_api_Mark v10))) rfl rfl rfl rfl rfl (p_index (e := enc_T_api_Mark) rfl rfl rfl Go.Proofs.Try.underlying22 rfl (by decide))) ?_
  refine bindE (fun v10 => ?_)
  refine Eq.trans (regp_reg (m := 0) (j := 22) (st' := ⟨[(1, (V.ptr 1 0 0)), (3, (V.aref 3 0 (List.map enc_T_progenyref24_span x7).length)), (4, (I x6)), (10, (V.bool true)), (13, (V.aref 3 0 (List.map enc_T_progenyref24_span x7).length)), (14, (V.ptr 1 0 2)), (15, (sMark (a0.fMarks))), (16, (I x6)), (17, (V.pro (enc_T_api_Mark v8))), (18, (V.pro (I v8.fRow))), (19, (I v8.fRow)), (20, (V.ptr 1 0 2)), (21, (sMark (a0.fMarks))), (22, (I x6)), (23, (V.pro (enc_T_api_Mark v9))), (24, (V.pro (I v9.fColumn))), (25, (I v9.fColumn)), (26, (V.ptr 1 0 2)), (27, (sMark (a0.fMarks))), (28, (I x6)), (29, (V.pro (enc_T_api_Mark v10))), (30, (V.pro (V.str v10.fText))), (31, (V.str v10.fText)), (32, (I (v10.fText.length : Int))), (33, (enc_T_progenyref24_span ({ frow := v8.fRow, fcolumn := v9.fColumn, fbytes := (v10.fText.length : Int) } : T_progenyref24_span))), (34, (sspan (([({ frow := v8.fRow, fcolumn := v9.fColumn, fbytes := (v10.fText.length : Int) } : T_progenyref24_span)] : List T_progenyref24_span))))], [(1, ⟨false, 4, [(enc_T_api_Form a0)]⟩), (3, ⟨true, 3, List.map enc_T_progenyref24_span x7⟩)], 66⟩) rfl rfl rfl) ?_
  refine Eq.trans (reg_eff (x := (app x7 ([({ frow := v8.fRow, fcolumn := v9.fColumn, fbytes := (v10.fText.length : Int) } : T_progenyref24_span)] : List T_progenyref24_span))) (w := fun v11 => ((V.aref 3 0 (List.map enc_T_progenyref24_span v11).length), _)) rfl rfl rfl rfl (p_appF (e := enc_T_progenyref24_span) (l := x7) rfl rfl rfl rfl rfl rfl rfl rfl rfl rfl rfl (of_decide_eq_true rfl))) ?_
  refine bind_self (fun v11 => ?_)
  exact bind_end rfl
theorem f58r4 (k : Nat) (a0 : T_api_Form) (x6 : Int) (o12 : (List T_progenyref24_span)) : RE k f58a4 f58o4 false ⟨[(1, (V.ptr 1 0 0)), (3, (V.aref 3 0 (List.map enc_T_progenyref24_span o12).length)), (4, (I x6))], [(1, ⟨false, 4, [(enc_T_api_Form a0)]⟩), (3, ⟨true, 3, List.map enc_T_progenyref24_span o12⟩)], 66⟩ = some ⟨[(1, (V.ptr 1 0 0)), (3, (V.aref 3 0 (List.map enc_T_progenyref24_span o12).length)), (4, (I (Go.IntKind.wrap .i64 (x6 + 1))))], [(1, ⟨false, 4, [(enc_T_api_Form a0)]⟩), (3, ⟨true, 3, List.map enc_T_progenyref24_span o12⟩)], 66⟩ :=
  rE rfl
theorem ref24_spans_L1_ok (k : Nat) (a0 : T_api_Form)  (K0 : Int → (List T_progenyref24_span) → Option (List T_progenyref24_span)) (Kst : X × St → Option (V × List V)) (hK0 : ∀ (y0 : Int) (y1 : (List T_progenyref24_span)), Kst (X.exit 0, ⟨[(1, (V.ptr 1 0 0)), (3, (V.aref 3 0 (List.map enc_T_progenyref24_span y1).length)), (4, (I y0)), (10, (V.bool false))], [(1, ⟨false, 4, [(enc_T_api_Form a0)]⟩), (3, ⟨true, 3, List.map enc_T_progenyref24_span y1⟩)], 66⟩) = (K0 y0 y1).map ref24_spans_fin) (hret : ∀ s, Kst (X.ret, s) = endK prog 66 [(enc_T_api_Form a0)] [] [.tmp 2] (X.ret, s)) :
    ∀ (m : Nat) (x6 : Int) (x7 : (List T_progenyref24_span)), (iter (exec prog (EV k) f58n k f58b0) m ⟨[(1, (V.ptr 1 0 0)), (3, (V.aref 3 0 (List.map enc_T_progenyref24_span x7).length)), (4, (I x6))], [(1, ⟨false, 4, [(enc_T_api_Form a0)]⟩), (3, ⟨true, 3, List.map enc_T_progenyref24_span x7⟩)], 66⟩).bind Kst = (ref24_spans_L1 a0 K0 m x6 x7).map ref24_spans_fin := by
  intro m
  induction m with
  | zero => intros; rfl
  | succ m ih =>
    intro x6 x7
    unfold ref24_spans_L1
    refine Eq.trans k_round ?_
    refine Eq.trans k_assoc ?_
    refine Eq.trans (k_region0 rfl (f58r3 k a0 x6 x7)) ?_
    refine Eq.trans (k_cond (t := (decide (x6 < (a0.fMarks.length : Int)))) rfl rfl) ?_
    refine bifE2 (fun hc => ?_) fun hc => ?_
    · rw [hc]
      refine Eq.trans k_skip ?_
      refine Eq.trans (k_block rfl) ?_
      refine Eq.trans (k_lregion rfl (f58r5 k a0 x6 x7)) ?_
      refine bindE (fun o12 => ?_)
      refine Eq.trans blk_normal ?_
      refine Eq.trans (k_lregion0 rfl (f58r4 k a0 x6 o12)) ?_
      refine Eq.trans loop_normal ?_
      exact ih (Go.IntKind.wrap .i64 (x6 + 1)) o12
    · rw [hc]
      refine Eq.trans k_exit ?_
      refine Eq.trans loop_exit ?_
      exact hK0 x6 x7
theorem f58r6 (k : Nat) (a0 : T_api_Form) (y13 : Int) (y14 : (List T_progenyref24_span)) : RE k f58a6 f58o6 false ⟨[(1, (V.ptr 1 0 0)), (3, (V.aref 3 0 (List.map enc_T_progenyref24_span y14).length)), (4, (I y13)), (10, (V.bool false))], [(1, ⟨false, 4, [(enc_T_api_Form a0)]⟩), (3, ⟨true, 3, List.map enc_T_progenyref24_span y14⟩)], 66⟩ = some ⟨[(1, (V.ptr 1 0 0)), (3, (V.aref 3 0 (List.map enc_T_progenyref24_span y14).length)), (5, (I 0))], [(1, ⟨false, 4, [(enc_T_api_Form a0)]⟩), (3, ⟨true, 3, List.map enc_T_progenyref24_span y14⟩)], 66⟩ :=
  rE rfl
theorem f58r7 (k : Nat) (a0 : T_api_Form) (x20 : Int) (x21 : (List T_progenyref24_span)) : RE k f58a7 f58o7 false ⟨[(1, (V.ptr 1 0 0)), (3, (V.aref 3 0 (List.map enc_T_progenyref24_span x21).length)), (5, (I x20))], [(1, ⟨false, 4, [(enc_T_api_Form a0)]⟩), (3, ⟨true, 3, List.map enc_T_progenyref24_span x21⟩)], 66⟩ = some ⟨[(1, (V.ptr 1 0 0)), (3, (V.aref 3 0 (List.map enc_T_progenyref24_span x21).length)), (5, (I x20)), (40, (V.bool (decide (x20 < (a0.fFields.length : Int)))))], [(1, ⟨false, 4, [(enc_T_api_Form a0)]⟩), (3, ⟨true, 3, List.map enc_T_progenyref24_span x21⟩)], 66⟩ := by
  refine rg ?_
  refine ra 3 3 ⟨[(1, (V.ptr 1 0 0)), (3, (V.aref 3 0 (List.map enc_T_progenyref24_span x21).length)), (5, (I x20)), (36, (I x20)), (37, (V.ptr 1 0 3)), (38, (sSlot (a0.fFields)))], [(1, ⟨false, 4, [(enc_T_api_Form a0)]⟩), (3, ⟨true, 3, List.map enc_T_progenyref24_span x21⟩)], 66⟩ rfl rfl rfl ?_
  refine Eq.trans (reg_pure (x := some ()) (w := fun _ => (I (a0.fFields.length : Int))) rfl rfl rfl rfl (p_len (e := enc_T_api_Slot) rfl rfl rfl rfl rfl rfl Go.Proofs.Try.underlying23)) ?_
  refine Eq.trans some_bind ?_
  exact bind_end rfl
theorem f58r9 (k : Nat) (a0 : T_api_Form) (x20 : Int) (x21 : (List T_progenyref24_span)) : RE k f58a9 f58o9 true ⟨[(1, (V.ptr 1 0 0)), (3, (V.aref 3 0 (List.map enc_T_progenyref24_span x21).length)), (5, (I x20)), (40, (V.bool true))], [(1, ⟨false, 4, [(enc_T_api_Form a0)]⟩), (3, ⟨true, 3, List.map enc_T_progenyref24_span x21⟩)], 66⟩ = (((idx a0.fFields x20).bind fun v22 => ((idx a0.fFields x20).bind fun v23 => ((idx a0.fFields x20).bind fun v24 => (app x21 ([({ frow := v22.fRow, fcolumn := v23.fColumn, fbytes := v24.fBytes } : T_progenyref24_span)] : List T_progenyref24_span)))))).map (fun (o : (List T_progenyref24_span)) => (⟨[(1, (V.ptr 1 0 0)), (3, (V.aref 3 0 (List.map enc_T_progenyref24_span o).length)), (5, (I x20))], [(1, ⟨false, 4, [(enc_T_api_Form a0)]⟩), (3, ⟨true, 3, List.map enc_T_progenyref24_span o⟩)], 66⟩ : St)) := by
  refine Eq.trans (regionE_regp (p := 21) (dk := true) (t := [(1, (V.ptr 1 0 0)), (3, (V.aref 3 0 (List.map enc_T_progenyref24_span x21).length)), (5, (I x20)), (40, (V.bool true))]) (σ := [(1, ⟨false, 4, [(enc_T_api_Form a0)]⟩), (3, ⟨true, 3, List.map enc_T_progenyref24_span x21⟩)]) (n := 66) rfl (by decide) (by decide) rfl) ?_
  refine Eq.trans (regp_adv (m := 4) (j := 4) (t' := [(1, (V.ptr 1 0 0)), (3, (V.aref 3 0 (List.map enc_T_progenyref24_span x21).length)), (5, (I x20)), (40, (V.bool true)), (43, (V.aref 3 0 (List.map enc_T_progenyref24_span x21).length)), (44, (V.ptr 1 0 3)), (45, (sSlot (a0.fFields))), (46, (I x20))]) rfl rfl rfl) ?_
  refine Eq.trans (regp_pure (x := (idx a0.fFields x20)) (w := fun v22 => (V.pro (enc_T_api_Slot v22))) rfl rfl rfl rfl rfl (p_index (e := enc_T_api_Slot) rfl rfl rfl Go.Proofs.Try.underlying23 rfl (by decide))) ?_
  refine bindE (fun v22 => ?_)
  refine Eq.trans (putp_adv (m := 5) (j := 10) (t' := [(1, (V.ptr 1 0 0)), (3, (V.aref 3 0 (List.map enc_T_progenyref24_span x21).length)), (5, (I x20)), (40, (V.bool true)), (43, (V.aref 3 0 (List.map enc_T_progenyref24_span x21).length)), (44, (V.ptr 1 0 3)), (45, (sSlot (a0.fFields))), (46, (I x20)), (47, (V.pro (enc_T_api_Slot v22))), (48, (V.pro (I v22.fRow))), (49, (I v22.fRow)), (50, (V.ptr 1 0 3)), (51, (sSlot (a0.fFields))), (52, (I x20))]) rfl rfl rfl) ?_
  refine Eq.trans (regp_pure (x := (idx a0.fFields x20)) (w := fun v23 => (V.pro (enc_T_api_Slot v23))) rfl rfl rfl rfl rfl (p_index (e := enc_T_api_Slot) rfl rfl rfl Go.Proofs.Try.underlying23 rfl (by decide))) ?_
  refine bindE (fun v23 => ?_)
  refine Eq.trans (putp_adv (m := 5) (j := 16) (t' := [(1, (V.ptr 1 0 0)), (3, (V.aref 3 0 (List.map enc_T_progenyref24_span x21).length)), (5, (I x20)), (40, (V.bool true)), (43, (V.aref 3 0 (List.map enc_T_progenyref24_span x21).length)), (44, (V.ptr 1 0 3)), (45, (sSlot (a0.fFields))), (46, (I x20)), (47, (V.pro (enc_T_api_Slot v22))), (48, (V.pro (I v22.fRow))), (49, (I v22.fRow)), (50, (V.ptr 1 0 3)), (51, (sSlot (a0.fFields))), (52, (I x20)), (53, (V.pro (enc_T_api_Slot v23))), (54, (V.pro (I v23.fColumn))), (55, (I v23.fColumn)), (56, (V.ptr 1 0 3)), (57, (sSlot (a0.fFields))), (58, (I x20))]) rfl rfl rfl) ?_
  refine Eq.trans (regp_pure (x := (idx a0.fFields x20)) (w := fun v24 => (V.pro (enc_T_api_Slot v24))) rfl rfl rfl rfl rfl (p_index (e := enc_T_api_Slot) rfl rfl rfl Go.Proofs.Try.underlying23 rfl (by decide))) ?_
  refine bindE (fun v24 => ?_)
  refine Eq.trans (regp_reg (m := 0) (j := 21) (st' := ⟨[(1, (V.ptr 1 0 0)), (3, (V.aref 3 0 (List.map enc_T_progenyref24_span x21).length)), (5, (I x20)), (40, (V.bool true)), (43, (V.aref 3 0 (List.map enc_T_progenyref24_span x21).length)), (44, (V.ptr 1 0 3)), (45, (sSlot (a0.fFields))), (46, (I x20)), (47, (V.pro (enc_T_api_Slot v22))), (48, (V.pro (I v22.fRow))), (49, (I v22.fRow)), (50, (V.ptr 1 0 3)), (51, (sSlot (a0.fFields))), (52, (I x20)), (53, (V.pro (enc_T_api_Slot v23))), (54, (V.pro (I v23.fColumn))), (55, (I v23.fColumn)), (56, (V.ptr 1 0 3)), (57, (sSlot (a0.fFields))), (58, (I x20)), (59, (V.pro (enc_T_api_Slot v24))), (60, (V.pro (I v24.fBytes))), (61, (I v24.fBytes)), (62, (enc_T_progenyref24_span ({ frow := v22.fRow, fcolumn := v23.fColumn, fbytes := v24.fBytes } : T_progenyref24_span))), (63, (sspan (([({ frow := v22.fRow, fcolumn := v23.fColumn, fbytes := v24.fBytes } : T_progenyref24_span)] : List T_progenyref24_span))))], [(1, ⟨false, 4, [(enc_T_api_Form a0)]⟩), (3, ⟨true, 3, List.map enc_T_progenyref24_span x21⟩)], 66⟩) rfl rfl rfl) ?_
  refine Eq.trans (reg_eff (x := (app x21 ([({ frow := v22.fRow, fcolumn := v23.fColumn, fbytes := v24.fBytes } : T_progenyref24_span)] : List T_progenyref24_span))) (w := fun v25 => ((V.aref 3 0 (List.map enc_T_progenyref24_span v25).length), _)) rfl rfl rfl rfl (p_appF (e := enc_T_progenyref24_span) (l := x21) rfl rfl rfl rfl rfl rfl rfl rfl rfl rfl rfl (of_decide_eq_true rfl))) ?_
  refine bind_self (fun v25 => ?_)
  exact bind_end rfl
theorem f58r8 (k : Nat) (a0 : T_api_Form) (x20 : Int) (o26 : (List T_progenyref24_span)) : RE k f58a8 f58o8 false ⟨[(1, (V.ptr 1 0 0)), (3, (V.aref 3 0 (List.map enc_T_progenyref24_span o26).length)), (5, (I x20))], [(1, ⟨false, 4, [(enc_T_api_Form a0)]⟩), (3, ⟨true, 3, List.map enc_T_progenyref24_span o26⟩)], 66⟩ = some ⟨[(1, (V.ptr 1 0 0)), (3, (V.aref 3 0 (List.map enc_T_progenyref24_span o26).length)), (5, (I (Go.IntKind.wrap .i64 (x20 + 1))))], [(1, ⟨false, 4, [(enc_T_api_Form a0)]⟩), (3, ⟨true, 3, List.map enc_T_progenyref24_span o26⟩)], 66⟩ :=
  rE rfl
theorem ref24_spans_L2_ok (k : Nat) (a0 : T_api_Form)  (K0 : Int → (List T_progenyref24_span) → Option (List T_progenyref24_span)) (Kst : X × St → Option (V × List V)) (hK0 : ∀ (y0 : Int) (y1 : (List T_progenyref24_span)), Kst (X.exit 2, ⟨[(1, (V.ptr 1 0 0)), (3, (V.aref 3 0 (List.map enc_T_progenyref24_span y1).length)), (5, (I y0)), (40, (V.bool false))], [(1, ⟨false, 4, [(enc_T_api_Form a0)]⟩), (3, ⟨true, 3, List.map enc_T_progenyref24_span y1⟩)], 66⟩) = (K0 y0 y1).map ref24_spans_fin) (hret : ∀ s, Kst (X.ret, s) = endK prog 66 [(enc_T_api_Form a0)] [] [.tmp 2] (X.ret, s)) :
    ∀ (m : Nat) (x20 : Int) (x21 : (List T_progenyref24_span)), (iter (exec prog (EV k) f58n k f58b1) m ⟨[(1, (V.ptr 1 0 0)), (3, (V.aref 3 0 (List.map enc_T_progenyref24_span x21).length)), (5, (I x20))], [(1, ⟨false, 4, [(enc_T_api_Form a0)]⟩), (3, ⟨true, 3, List.map enc_T_progenyref24_span x21⟩)], 66⟩).bind Kst = (ref24_spans_L2 a0 K0 m x20 x21).map ref24_spans_fin := by
  intro m
  induction m with
  | zero => intros; rfl
  | succ m ih =>
    intro x20 x21
    unfold ref24_spans_L2
    refine Eq.trans k_round ?_
    refine Eq.trans k_assoc ?_
    refine Eq.trans (k_region0 rfl (f58r7 k a0 x20 x21)) ?_
    refine Eq.trans (k_cond (t := (decide (x20 < (a0.fFields.length : Int)))) rfl rfl) ?_
    refine bifE2 (fun hc => ?_) fun hc => ?_
    · rw [hc]
      refine Eq.trans k_skip ?_
      refine Eq.trans (k_block rfl) ?_
      refine Eq.trans (k_lregion rfl (f58r9 k a0 x20 x21)) ?_
      refine bindE (fun o26 => ?_)
      refine Eq.trans blk_normal ?_
      refine Eq.trans (k_lregion0 rfl (f58r8 k a0 x20 o26)) ?_
      refine Eq.trans loop_normal ?_
      exact ih (Go.IntKind.wrap .i64 (x20 + 1)) o26
    · rw [hc]
      refine Eq.trans k_exit ?_
      refine Eq.trans loop_exit ?_
      exact hK0 x20 x21
theorem f58r10 (k : Nat) (a0 : T_api_Form) (y27 : Int) (y28 : (List T_progenyref24_span)) : RE k f58a10 f58o10 false ⟨[(1, (V.ptr 1 0 0)), (3, (V.aref 3 0 (List.map enc_T_progenyref24_span y28).length)), (5, (I y27)), (40, (V.bool false))], [(1, ⟨false, 4, [(enc_T_api_Form a0)]⟩), (3, ⟨true, 3, List.map enc_T_progenyref24_span y28⟩)], 66⟩ = some ⟨[(2, (sspan (y28)))], [], 66⟩ := by
  refine rg ?_
  refine ra 1 1 ⟨[(1, (V.ptr 1 0 0)), (3, (V.aref 3 0 (List.map enc_T_progenyref24_span y28).length)), (5, (I y27)), (40, (V.bool false)), (65, (V.aref 3 0 (List.map enc_T_progenyref24_span y28).length))], [(1, ⟨false, 4, [(enc_T_api_Form a0)]⟩), (3, ⟨true, 3, List.map enc_T_progenyref24_span y28⟩)], 66⟩ rfl rfl rfl ?_
  refine Eq.trans (reg_eff (x := some ()) (w := fun _ => ((V.sl 2 3 (List.map enc_T_progenyref24_span y28)), _)) rfl rfl rfl rfl (p_close (e := enc_T_progenyref24_span) rfl rfl rfl rfl rfl (of_decide_eq_true rfl))) ?_
  refine Eq.trans some_bind ?_
  exact bind_end rfl
theorem ref24_spans_ok (k : Nat) (a0 : T_api_Form) : EV k 58 [(enc_T_api_Form a0)] = (ref24_spans k a0).map ref24_spans_fin := by
  cases k with
  | zero => rfl
  | succ k =>
    unfold ref24_spans
    refine Eq.trans (evF_succ (c := f58c) (N := 66) (regs := f58n) rfl Go.Proofs.Try.func58 rfl (by decide) rfl rfl rfl) ?_
    refine Eq.trans (k_region0 rfl (f58r0 k a0)) ?_
    refine Eq.trans (k_region0 rfl (f58r1 k a0)) ?_
    refine Eq.trans k_assoc ?_
    refine Eq.trans (k_region0 rfl (f58r2 k a0)) ?_
    refine Eq.trans (k_block rfl) ?_
    refine Eq.trans k_loop ?_
    refine ref24_spans_L1_ok k a0 _ _ ?h_ref24_spans_L1_0 ?hr_ref24_spans_L1 k 0 ([] : List T_progenyref24_span)
    · intro y13 y14
      refine Eq.trans blk_exit ?_
      refine Eq.trans k_assoc ?_
      refine Eq.trans (k_region0 rfl (f58r6 k a0 y13 y14)) ?_
      refine Eq.trans (k_block rfl) ?_
      refine Eq.trans k_loop ?_
      refine ref24_spans_L2_ok k a0 _ _ ?h_ref24_spans_L2_0 ?hr_ref24_spans_L2 k 0 y14
      · intro y27 y28
        refine Eq.trans blk_exit ?_
        refine Eq.trans (k_region0 rfl (f58r10 k a0 y27 y28)) ?_
        refine Eq.trans k_lret ?_
        rfl
      · intro s; exact rfl
    · intro s; exact rfl
def ref24_Valid_fin : Bool → V × List V := fun r => ((V.bool r), [])
theorem f25r0 (k : Nat) (a0 : T_api_Form) : RE k f25a0 f25o0 false ⟨[(0, (enc_T_api_Form a0))], [], 191⟩ = some ⟨[(1, (V.ptr 1 0 0))], [(1, ⟨false, 4, [(enc_T_api_Form a0)]⟩)], 191⟩ :=
  rE rfl
theorem f25r1 (k : Nat) (a0 : T_api_Form) : RE k f25a1 f25o1 false ⟨[(1, (V.ptr 1 0 0))], [(1, ⟨false, 4, [(enc_T_api_Form a0)]⟩)], 191⟩ = ((bif (decide (a0.fRows < 1)) then (some (true)) else (bif (decide (a0.fRows > 12)) then (some (true)) else (bif (decide (a0.fColumns < 10)) then (some (true)) else (bif (decide (a0.fColumns > 40)) then (some (true)) else (bif (decide ((a0.fMarks.length : Int) > 8)) then (some (true)) else (some ((decide ((a0.fFields.length : Int) > 10)))))))))).map (fun (o : Bool) => (⟨[(1, (V.ptr 1 0 0)), (37, (V.bool o))], [(1, ⟨false, 4, [(enc_T_api_Form a0)]⟩)], 191⟩ : St)) := by
  refine rg ?_
  refine ra 4 4 ⟨[(1, (V.ptr 1 0 0)), (8, (V.ptr 1 0 0)), (9, (I a0.fRows)), (10, (V.bool (decide (a0.fRows < 1)))), (11, (V.bool (decide (a0.fRows < 1))))], [(1, ⟨false, 4, [(enc_T_api_Form a0)]⟩)], 191⟩ rfl rfl rfl ?_
  refine bifE (c := (decide (a0.fRows < 1))) (fun hc => ?_) fun hc => ?_
  · rw [hc]
    exact reg_end rfl
  · rw [hc]
    refine ra 5 9 ⟨[(1, (V.ptr 1 0 0)), (8, (V.ptr 1 0 0)), (9, (I a0.fRows)), (10, (V.bool false)), (11, (V.bool false)), (12, (V.ptr 1 0 0)), (13, (I a0.fRows)), (14, (V.bool (decide (a0.fRows > 12)))), (15, (V.bool (decide (a0.fRows > 12)))), (16, (V.bool (decide (a0.fRows > 12))))], [(1, ⟨false, 4, [(enc_T_api_Form a0)]⟩)], 191⟩ rfl rfl rfl ?_
    refine bifE (c := (decide (a0.fRows > 12))) (fun hc => ?_) fun hc => ?_
    · rw [hc]
      exact reg_end rfl
    · rw [hc]
      refine ra 5 14 ⟨[(1, (V.ptr 1 0 0)), (8, (V.ptr 1 0 0)), (9, (I a0.fRows)), (10, (V.bool false)), (11, (V.bool false)), (12, (V.ptr 1 0 0)), (13, (I a0.fRows)), (14, (V.bool false)), (15, (V.bool false)), (16, (V.bool false)), (17, (V.ptr 1 0 1)), (18, (I a0.fColumns)), (19, (V.bool (decide (a0.fColumns < 10)))), (20, (V.bool (decide (a0.fColumns < 10)))), (21, (V.bool (decide (a0.fColumns < 10))))], [(1, ⟨false, 4, [(enc_T_api_Form a0)]⟩)], 191⟩ rfl rfl rfl ?_
      refine bifE (c := (decide (a0.fColumns < 10))) (fun hc => ?_) fun hc => ?_
      · rw [hc]
        exact reg_end rfl
      · rw [hc]
        refine ra 5 19 ⟨[(1, (V.ptr 1 0 0)), (8, (V.ptr 1 0 0)), (9, (I a0.fRows)), (10, (V.bool false)), (11, (V.bool false)), (12, (V.ptr 1 0 0)), (13, (I a0.fRows)), (14, (V.bool false)), (15, (V.bool false)), (16, (V.bool false)), (17, (V.ptr 1 0 1)), (18, (I a0.fColumns)), (19, (V.bool false)), (20, (V.bool false)), (21, (V.bool false)), (22, (V.ptr 1 0 1)), (23, (I a0.fColumns)), (24, (V.bool (decide (a0.fColumns > 40)))), (25, (V.bool (decide (a0.fColumns > 40)))), (26, (V.bool (decide (a0.fColumns > 40))))], [(1, ⟨false, 4, [(enc_T_api_Form a0)]⟩)], 191⟩ rfl rfl rfl ?_
        refine bifE (c := (decide (a0.fColumns > 40))) (fun hc => ?_) fun hc => ?_
        · rw [hc]
          exact reg_end rfl
        · rw [hc]
          refine ra 2 21 ⟨[(1, (V.ptr 1 0 0)), (8, (V.ptr 1 0 0)), (9, (I a0.fRows)), (10, (V.bool false)), (11, (V.bool false)), (12, (V.ptr 1 0 0)), (13, (I a0.fRows)), (14, (V.bool false)), (15, (V.bool false)), (16, (V.bool false)), (17, (V.ptr 1 0 1)), (18, (I a0.fColumns)), (19, (V.bool false)), (20, (V.bool false)), (21, (V.bool false)), (22, (V.ptr 1 0 1)), (23, (I a0.fColumns)), (24, (V.bool false)), (25, (V.bool false)), (26, (V.bool false)), (27, (V.ptr 1 0 2)), (28, (sMark (a0.fMarks)))], [(1, ⟨false, 4, [(enc_T_api_Form a0)]⟩)], 191⟩ rfl rfl rfl ?_
          refine Eq.trans (reg_pure (x := some ()) (w := fun _ => (I (a0.fMarks.length : Int))) rfl rfl rfl rfl (p_len (e := enc_T_api_Mark) rfl rfl rfl rfl rfl rfl Go.Proofs.Try.underlying22)) ?_
          refine Eq.trans some_bind ?_
          refine ba 3 25 ⟨[(1, (V.ptr 1 0 0)), (8, (V.ptr 1 0 0)), (9, (I a0.fRows)), (10, (V.bool false)), (11, (V.bool false)), (12, (V.ptr 1 0 0)), (13, (I a0.fRows)), (14, (V.bool false)), (15, (V.bool false)), (16, (V.bool false)), (17, (V.ptr 1 0 1)), (18, (I a0.fColumns)), (19, (V.bool false)), (20, (V.bool false)), (21, (V.bool false)), (22, (V.ptr 1 0 1)), (23, (I a0.fColumns)), (24, (V.bool false)), (25, (V.bool false)), (26, (V.bool false)), (27, (V.ptr 1 0 2)), (28, (sMark (a0.fMarks))), (29, (I (a0.fMarks.length : Int))), (30, (V.bool (decide ((a0.fMarks.length : Int) > 8)))), (31, (V.bool (decide ((a0.fMarks.length : Int) > 8)))), (32, (V.bool (decide ((a0.fMarks.length : Int) > 8))))], [(1, ⟨false, 4, [(enc_T_api_Form a0)]⟩)], 191⟩ rfl rfl rfl ?_
          refine bifE (c := (decide ((a0.fMarks.length : Int) > 8))) (fun hc => ?_) fun hc => ?_
          · rw [hc]
            exact reg_end rfl
          · rw [hc]
            refine ra 2 27 ⟨[(1, (V.ptr 1 0 0)), (8, (V.ptr 1 0 0)), (9, (I a0.fRows)), (10, (V.bool false)), (11, (V.bool false)), (12, (V.ptr 1 0 0)), (13, (I a0.fRows)), (14, (V.bool false)), (15, (V.bool false)), (16, (V.bool false)), (17, (V.ptr 1 0 1)), (18, (I a0.fColumns)), (19, (V.bool false)), (20, (V.bool false)), (21, (V.bool false)), (22, (V.ptr 1 0 1)), (23, (I a0.fColumns)), (24, (V.bool false)), (25, (V.bool false)), (26, (V.bool false)), (27, (V.ptr 1 0 2)), (28, (sMark (a0.fMarks))), (29, (I (a0.fMarks.length : Int))), (30, (V.bool false)), (31, (V.bool false)), (32, (V.bool false)), (33, (V.ptr 1 0 3)), (34, (sSlot (a0.fFields)))], [(1, ⟨false, 4, [(enc_T_api_Form a0)]⟩)], 191⟩ rfl rfl rfl ?_
            refine Eq.trans (reg_pure (x := some ()) (w := fun _ => (I (a0.fFields.length : Int))) rfl rfl rfl rfl (p_len (e := enc_T_api_Slot) rfl rfl rfl rfl rfl rfl Go.Proofs.Try.underlying23)) ?_
            refine Eq.trans some_bind ?_
            exact bind_end rfl
theorem f25r2 (k : Nat) (a0 : T_api_Form) : RE k f25a2 f25o2 false ⟨[(1, (V.ptr 1 0 0)), (37, (V.bool true))], [(1, ⟨false, 4, [(enc_T_api_Form a0)]⟩)], 191⟩ = some ⟨[(2, (V.bool false))], [], 191⟩ :=
  rE rfl
theorem f25r3 (k : Nat) (a0 : T_api_Form) : RE k f25a3 f25o3 false ⟨[(1, (V.ptr 1 0 0)), (37, (V.bool false))], [(1, ⟨false, 4, [(enc_T_api_Form a0)]⟩)], 191⟩ = some ⟨[(1, (V.ptr 1 0 0)), (3, (I 0))], [(1, ⟨false, 4, [(enc_T_api_Form a0)]⟩)], 191⟩ :=
  rE rfl
theorem f25r4 (k : Nat) (a0 : T_api_Form) (x5 : Int) : RE k f25a4 f25o4 false ⟨[(1, (V.ptr 1 0 0)), (3, (I x5))], [(1, ⟨false, 4, [(enc_T_api_Form a0)]⟩)], 191⟩ = some ⟨[(1, (V.ptr 1 0 0)), (3, (I x5)), (42, (V.bool (decide (x5 < (a0.fMarks.length : Int)))))], [(1, ⟨false, 4, [(enc_T_api_Form a0)]⟩)], 191⟩ := by
  refine rg ?_
  refine ra 3 3 ⟨[(1, (V.ptr 1 0 0)), (3, (I x5)), (38, (I x5)), (39, (V.ptr 1 0 2)), (40, (sMark (a0.fMarks)))], [(1, ⟨false, 4, [(enc_T_api_Form a0)]⟩)], 191⟩ rfl rfl rfl ?_
  refine Eq.trans (reg_pure (x := some ()) (w := fun _ => (I (a0.fMarks.length : Int))) rfl rfl rfl rfl (p_len (e := enc_T_api_Mark) rfl rfl rfl rfl rfl rfl Go.Proofs.Try.underlying22)) ?_
  refine Eq.trans some_bind ?_
  exact bind_end rfl
theorem f25r6 (k : Nat) (a0 : T_api_Form) (x5 : Int) : RE k f25a6 f25o6 false ⟨[(1, (V.ptr 1 0 0)), (3, (I x5)), (42, (V.bool true))], [(1, ⟨false, 4, [(enc_T_api_Form a0)]⟩)], 191⟩ = (((idx a0.fMarks x5).bind fun v6 => ((ref24_IsText k v6.fText).bind fun v7 => (some ((!v7)))))).map (fun (o : Bool) => (⟨[(1, (V.ptr 1 0 0)), (3, (I x5)), (52, (V.bool o))], [(1, ⟨false, 4, [(enc_T_api_Form a0)]⟩)], 191⟩ : St)) := by
  refine rg ?_
  refine ra 3 3 ⟨[(1, (V.ptr 1 0 0)), (3, (I x5)), (42, (V.bool true)), (45, (V.ptr 1 0 2)), (46, (sMark (a0.fMarks))), (47, (I x5))], [(1, ⟨false, 4, [(enc_T_api_Form a0)]⟩)], 191⟩ rfl rfl rfl ?_
  refine Eq.trans (reg_pure (x := (idx a0.fMarks x5)) (w := fun v6 => (V.pro (enc_T_api_Mark v6))) rfl rfl rfl rfl (p_index (e := enc_T_api_Mark) rfl rfl rfl Go.Proofs.Try.underlying22 rfl (by decide))) ?_
  refine bindE (fun v6 => ?_)
  refine ba 2 6 ⟨[(1, (V.ptr 1 0 0)), (3, (I x5)), (42, (V.bool true)), (45, (V.ptr 1 0 2)), (46, (sMark (a0.fMarks))), (47, (I x5)), (48, (V.pro (enc_T_api_Mark v6))), (49, (V.pro (V.str v6.fText))), (50, (V.str v6.fText))], [(1, ⟨false, 4, [(enc_T_api_Form a0)]⟩)], 191⟩ rfl rfl rfl ?_
  refine Eq.trans (reg_pure (x := (ref24_IsText k v6.fText)) (w := fun v7 => (V.bool v7)) rfl rfl rfl rfl (p_call rfl rfl rfl rfl rfl (ref24_IsText_ok k v6.fText) (.inl rfl))) ?_
  refine bindE (fun v7 => ?_)
  exact bind_end rfl
theorem f25r7 (k : Nat) (a0 : T_api_Form) (x5 : Int) : RE k f25a7 f25o7 false ⟨[(1, (V.ptr 1 0 0)), (3, (I x5)), (52, (V.bool true))], [(1, ⟨false, 4, [(enc_T_api_Form a0)]⟩)], 191⟩ = some ⟨[(2, (V.bool false))], [], 191⟩ :=
  rE rfl
theorem f25r5 (k : Nat) (a0 : T_api_Form) (x5 : Int) : RE k f25a5 f25o5 false ⟨[(1, (V.ptr 1 0 0)), (3, (I x5)), (52, (V.bool false))], [(1, ⟨false, 4, [(enc_T_api_Form a0)]⟩)], 191⟩ = some ⟨[(1, (V.ptr 1 0 0)), (3, (I (Go.IntKind.wrap .i64 (x5 + 1))))], [(1, ⟨false, 4, [(enc_T_api_Form a0)]⟩)], 191⟩ :=
  rE rfl
theorem ref24_Valid_L1_ok (k : Nat) (a0 : T_api_Form)  (K0 : Int → Option Bool) (Kst : X × St → Option (V × List V)) (hK0 : ∀ (y0 : Int), Kst (X.exit 0, ⟨[(1, (V.ptr 1 0 0)), (3, (I y0)), (42, (V.bool false))], [(1, ⟨false, 4, [(enc_T_api_Form a0)]⟩)], 191⟩) = (K0 y0).map ref24_Valid_fin) (hret : ∀ s, Kst (X.ret, s) = endK prog 191 [(enc_T_api_Form a0)] [] [.tmp 2] (X.ret, s)) :
    ∀ (m : Nat) (x5 : Int), (iter (exec prog (EV k) f25n k f25b0) m ⟨[(1, (V.ptr 1 0 0)), (3, (I x5))], [(1, ⟨false, 4, [(enc_T_api_Form a0)]⟩)], 191⟩).bind Kst = (ref24_Valid_L1 k a0 K0 m x5).map ref24_Valid_fin := by
  intro m
  induction m with
  | zero => intros; rfl
  | succ m ih =>
    intro x5
    unfold ref24_Valid_L1
    refine Eq.trans k_round ?_
    refine Eq.trans k_assoc ?_
    refine Eq.trans (k_region0 rfl (f25r4 k a0 x5)) ?_
    refine Eq.trans (k_cond (t := (decide (x5 < (a0.fMarks.length : Int)))) rfl rfl) ?_
    refine bifE2 (fun hc => ?_) fun hc => ?_
    · rw [hc]
      refine Eq.trans k_skip ?_
      refine Eq.trans (k_block rfl) ?_
      refine Eq.trans (k_region rfl (f25r6 k a0 x5)) ?_
      refine bindE (fun o8 => ?_)
      refine Eq.trans (k_lcond (t := o8) rfl rfl) ?_
      refine bifE2 (fun hc => ?_) fun hc => ?_
      · rw [hc]
        refine Eq.trans (k_region0 rfl (f25r7 k a0 x5)) ?_
        refine Eq.trans k_lret ?_
        refine Eq.trans blk_ret ?_
        refine Eq.trans loop_ret ?_
        refine Eq.trans (hret _) ?_
        rfl
      · rw [hc]
        refine Eq.trans k_lskip ?_
        refine Eq.trans blk_normal ?_
        refine Eq.trans (k_lregion0 rfl (f25r5 k a0 x5)) ?_
        refine Eq.trans loop_normal ?_
        exact ih (Go.IntKind.wrap .i64 (x5 + 1))
    · rw [hc]
      refine Eq.trans k_exit ?_
      refine Eq.trans loop_exit ?_
      exact hK0 x5
theorem f25r8 (k : Nat) (a0 : T_api_Form) (y9 : Int) : RE k f25a8 f25o8 false ⟨[(1, (V.ptr 1 0 0)), (3, (I y9)), (42, (V.bool false))], [(1, ⟨false, 4, [(enc_T_api_Form a0)]⟩)], 191⟩ = some ⟨[(1, (V.ptr 1 0 0)), (4, (I 0))], [(1, ⟨false, 4, [(enc_T_api_Form a0)]⟩)], 191⟩ :=
  rE rfl
theorem f25r9 (k : Nat) (a0 : T_api_Form) (x14 : Int) : RE k f25a9 f25o9 false ⟨[(1, (V.ptr 1 0 0)), (4, (I x14))], [(1, ⟨false, 4, [(enc_T_api_Form a0)]⟩)], 191⟩ = some ⟨[(1, (V.ptr 1 0 0)), (4, (I x14)), (57, (V.bool (decide (x14 < (a0.fFields.length : Int)))))], [(1, ⟨false, 4, [(enc_T_api_Form a0)]⟩)], 191⟩ := by
  refine rg ?_
  refine ra 3 3 ⟨[(1, (V.ptr 1 0 0)), (4, (I x14)), (53, (I x14)), (54, (V.ptr 1 0 3)), (55, (sSlot (a0.fFields)))], [(1, ⟨false, 4, [(enc_T_api_Form a0)]⟩)], 191⟩ rfl rfl rfl ?_
  refine Eq.trans (reg_pure (x := some ()) (w := fun _ => (I (a0.fFields.length : Int))) rfl rfl rfl rfl (p_len (e := enc_T_api_Slot) rfl rfl rfl rfl rfl rfl Go.Proofs.Try.underlying23)) ?_
  refine Eq.trans some_bind ?_
  exact bind_end rfl
theorem f25r11 (k : Nat) (a0 : T_api_Form) (x14 : Int) : RE k f25a11 f25o11 true ⟨[(1, (V.ptr 1 0 0)), (4, (I x14)), (57, (V.bool true))], [(1, ⟨false, 4, [(enc_T_api_Form a0)]⟩)], 191⟩ = (((cut a0.fFields 0 x14).bind fun v15 => ((idx a0.fFields x14).bind fun v16 => ((ref24_isField k v15 v16).bind fun v17 => (some ((!v17))))))).map (fun (o : Bool) => (⟨[(1, (V.ptr 1 0 0)), (4, (I x14)), (70, (V.bool o))], [(1, ⟨false, 4, [(enc_T_api_Form a0)]⟩)], 191⟩ : St)) := by
  refine Eq.trans (regionE_regp (p := 11) (dk := true) (t := [(1, (V.ptr 1 0 0)), (4, (I x14)), (57, (V.bool true))]) (σ := [(1, ⟨false, 4, [(enc_T_api_Form a0)]⟩)]) (n := 191) rfl (by decide) (by decide) rfl) ?_
  refine Eq.trans (regp_adv (m := 3) (j := 3) (t' := [(1, (V.ptr 1 0 0)), (4, (I x14)), (57, (V.bool true)), (60, (V.ptr 1 0 3)), (61, (sSlot (a0.fFields))), (62, (I x14))]) rfl rfl rfl) ?_
  refine Eq.trans (regp_pure (x := (cut a0.fFields 0 x14)) (w := fun v15 => (sSlot v15)) rfl rfl rfl rfl rfl (p_slice (e := enc_T_api_Slot) rfl rfl rfl rfl rfl rfl Go.Proofs.Try.underlying23 rfl (by decide))) ?_
  refine bindE (fun v15 => ?_)
  refine Eq.trans (putp_adv (m := 3) (j := 7) (t' := [(1, (V.ptr 1 0 0)), (4, (I x14)), (57, (V.bool true)), (60, (V.ptr 1 0 3)), (61, (sSlot (a0.fFields))), (62, (I x14)), (63, (sSlot v15)), (64, (V.ptr 1 0 3)), (65, (sSlot (a0.fFields))), (66, (I x14))]) rfl rfl rfl) ?_
  refine Eq.trans (regp_pure (x := (idx a0.fFields x14)) (w := fun v16 => (V.pro (enc_T_api_Slot v16))) rfl rfl rfl rfl rfl (p_index (e := enc_T_api_Slot) rfl rfl rfl Go.Proofs.Try.underlying23 rfl (by decide))) ?_
  refine bindE (fun v16 => ?_)
  refine Eq.trans (putp_adv (m := 1) (j := 9) (t' := [(1, (V.ptr 1 0 0)), (4, (I x14)), (57, (V.bool true)), (60, (V.ptr 1 0 3)), (61, (sSlot (a0.fFields))), (62, (I x14)), (63, (sSlot v15)), (64, (V.ptr 1 0 3)), (65, (sSlot (a0.fFields))), (66, (I x14)), (67, (V.pro (enc_T_api_Slot v16))), (68, (enc_T_api_Slot v16))]) rfl rfl rfl) ?_
  refine Eq.trans (regp_pure (x := (ref24_isField k v15 v16)) (w := fun v17 => (V.bool v17)) rfl rfl rfl rfl rfl (p_call rfl rfl rfl rfl rfl (ref24_isField_ok k v15 v16) (.inl rfl))) ?_
  refine bindE (fun v17 => ?_)
  exact regp_end rfl
theorem f25r12 (k : Nat) (a0 : T_api_Form) (x14 : Int) : RE k f25a12 f25o12 false ⟨[(1, (V.ptr 1 0 0)), (4, (I x14)), (70, (V.bool true))], [(1, ⟨false, 4, [(enc_T_api_Form a0)]⟩)], 191⟩ = some ⟨[(2, (V.bool false))], [], 191⟩ :=
  rE rfl
theorem f25r10 (k : Nat) (a0 : T_api_Form) (x14 : Int) : RE k f25a10 f25o10 false ⟨[(1, (V.ptr 1 0 0)), (4, (I x14)), (70, (V.bool false))], [(1, ⟨false, 4, [(enc_T_api_Form a0)]⟩)], 191⟩ = some ⟨[(1, (V.ptr 1 0 0)), (4, (I (Go.IntKind.wrap .i64 (x14 + 1))))], [(1, ⟨false, 4, [(enc_T_api_Form a0)]⟩)], 191⟩ :=
  rE rfl
theorem ref24_Valid_L2_ok (k : Nat) (a0 : T_api_Form)  (K0 : Int → Option Bool) (Kst : X × St → Option (V × List V)) (hK0 : ∀ (y0 : Int), Kst (X.exit 2, ⟨[(1, (V.ptr 1 0 0)), (4, (I y0)), (57, (V.bool false))], [(1, ⟨false, 4, [(enc_T_api_Form a0)]⟩)], 191⟩) = (K0 y0).map ref24_Valid_fin) (hret : ∀ s, Kst (X.ret, s) = endK prog 191 [(enc_T_api_Form a0)] [] [.tmp 2] (X.ret, s)) :
    ∀ (m : Nat) (x14 : Int), (iter (exec prog (EV k) f25n k f25b1) m ⟨[(1, (V.ptr 1 0 0)), (4, (I x14))], [(1, ⟨false, 4, [(enc_T_api_Form a0)]⟩)], 191⟩).bind Kst = (ref24_Valid_L2 k a0 K0 m x14).map ref24_Valid_fin := by
  intro m
  induction m with
  | zero => intros; rfl
  | succ m ih =>
    intro x14
    unfold ref24_Valid_L2
    refine Eq.trans k_round ?_
    refine Eq.trans k_assoc ?_
    refine Eq.trans (k_region0 rfl (f25r9 k a0 x14)) ?_
    refine Eq.trans (k_cond (t := (decide (x14 < (a0.fFields.length : Int)))) rfl rfl) ?_
    refine bifE2 (fun hc => ?_) fun hc => ?_
    · rw [hc]
      refine Eq.trans k_skip ?_
      refine Eq.trans (k_block rfl) ?_
      refine Eq.trans (k_region rfl (f25r11 k a0 x14)) ?_
      refine bindE (fun o18 => ?_)
      refine Eq.trans (k_lcond (t := o18) rfl rfl) ?_
      refine bifE2 (fun hc => ?_) fun hc => ?_
      · rw [hc]
        refine Eq.trans (k_region0 rfl (f25r12 k a0 x14)) ?_
        refine Eq.trans k_lret ?_
        refine Eq.trans blk_ret ?_
        refine Eq.trans loop_ret ?_
        refine Eq.trans (hret _) ?_
        rfl
      · rw [hc]
        refine Eq.trans k_lskip ?_
        refine Eq.trans blk_normal ?_
        refine Eq.trans (k_lregion0 rfl (f25r10 k a0 x14)) ?_
        refine Eq.trans loop_normal ?_
        exact ih (Go.IntKind.wrap .i64 (x14 + 1))
    · rw [hc]
      refine Eq.trans k_exit ?_
      refine Eq.trans loop_exit ?_
      exact hK0 x14
theorem f25r13 (k : Nat) (a0 : T_api_Form) (y19 : Int) : RE k f25a13 f25o13 false ⟨[(1, (V.ptr 1 0 0)), (4, (I y19)), (57, (V.bool false))], [(1, ⟨false, 4, [(enc_T_api_Form a0)]⟩)], 191⟩ = ((ref24_spans k a0)).map (fun (o : (List T_progenyref24_span)) => (⟨[(1, (V.ptr 1 0 0)), (5, (sspan (o)))], [(1, ⟨false, 4, [(enc_T_api_Form a0)]⟩)], 191⟩ : St)) := by
  refine rg ?_
  refine ra 1 1 ⟨[(1, (V.ptr 1 0 0)), (4, (I y19)), (57, (V.bool false)), (71, (enc_T_api_Form a0))], [(1, ⟨false, 4, [(enc_T_api_Form a0)]⟩)], 191⟩ rfl rfl rfl ?_
  refine Eq.trans (reg_pure (x := (ref24_spans k a0)) (w := fun v20 => (sspan (v20))) rfl rfl rfl rfl (p_call rfl rfl rfl rfl rfl (ref24_spans_ok k a0) (.inl rfl))) ?_
  refine bind_self (fun v20 => ?_)
  exact bind_end rfl
theorem f25r14 (k : Nat) (a0 : T_api_Form) (o21 : (List T_progenyref24_span)) : RE k f25a14 f25o14 false ⟨[(1, (V.ptr 1 0 0)), (5, (sspan (o21)))], [(1, ⟨false, 4, [(enc_T_api_Form a0)]⟩)], 191⟩ = some ⟨[(1, (V.ptr 1 0 0)), (5, (sspan (o21))), (6, (I 0))], [(1, ⟨false, 4, [(enc_T_api_Form a0)]⟩)], 191⟩ :=
  rE rfl
theorem f25r15 (k : Nat) (a0 : T_api_Form) (o21 : (List T_progenyref24_span)) (x50 : Int) : RE k f25a15 f25o15 false ⟨[(1, (V.ptr 1 0 0)), (5, (sspan (o21))), (6, (I x50))], [(1, ⟨false, 4, [(enc_T_api_Form a0)]⟩)], 191⟩ = some ⟨[(1, (V.ptr 1 0 0)), (5, (sspan (o21))), (6, (I x50)), (76, (V.bool (decide (x50 < (o21.length : Int)))))], [(1, ⟨false, 4, [(enc_T_api_Form a0)]⟩)], 191⟩ := by
  refine rg ?_
  refine ra 2 2 ⟨[(1, (V.ptr 1 0 0)), (5, (sspan (o21))), (6, (I x50)), (73, (I x50)), (74, (sspan (o21)))], [(1, ⟨false, 4, [(enc_T_api_Form a0)]⟩)], 191⟩ rfl rfl rfl ?_
  refine Eq.trans (reg_pure (x := some ()) (w := fun _ => (I (o21.length : Int))) rfl rfl rfl rfl (p_len (e := enc_T_progenyref24_span) rfl rfl rfl rfl rfl rfl Go.Proofs.Try.underlying79)) ?_
  refine Eq.trans some_bind ?_
  exact bind_end rfl
theorem f25r17 (k : Nat) (a0 : T_api_Form) (o21 : (List T_progenyref24_span)) (x50 : Int) : RE k f25a17 f25o17 true ⟨[(1, (V.ptr 1 0 0)), (5, (sspan (o21))), (6, (I x50)), (76, (V.bool true))], [(1, ⟨false, 4, [(enc_T_api_Form a0)]⟩)], 191⟩ = (((idx o21 x50).bind fun v51 => (bif (decide (v51.frow < 0)) then (some (true)) else ((idx o21 x50).bind fun v52 => (bif (decide (v52.frow ≥ a0.fRows)) then (some (true)) else ((idx o21 x50).bind fun v53 => (bif (decide (v53.fcolumn < 0)) then (some (true)) else ((idx o21 x50).bind fun v54 => (bif (decide (v54.fcolumn ≥ a0.fColumns)) then (some (true)) else ((idx o21 x50).bind fun v55 => (bif (decide (v55.fbytes < 1)) then (some (true)) else ((idx o21 x50).bind fun v56 => ((idx o21 x50).bind fun v57 => (some ((decide (v56.fbytes > (Go.IntKind.wrap .i64 (a0.fColumns - v57.fcolumn))))))))))))))))))).map (fun (o : Bool) => (⟨[(1, (V.ptr 1 0 0)), (5, (sspan (o21))), (6, (I x50)), (136, (V.bool o))], [(1, ⟨false, 4, [(enc_T_api_Form a0)]⟩)], 191⟩ : St)) := by
  refine Eq.trans (regionE_regp (p := 58) (dk := true) (t := [(1, (V.ptr 1 0 0)), (5, (sspan (o21))), (6, (I x50)), (76, (V.bool true))]) (σ := [(1, ⟨false, 4, [(enc_T_api_Form a0)]⟩)]) (n := 191) rfl (by decide) (by decide) rfl) ?_
  refine Eq.trans (regp_adv (m := 2) (j := 2) (t' := [(1, (V.ptr 1 0 0)), (5, (sspan (o21))), (6, (I x50)), (76, (V.bool true)), (79, (sspan (o21))), (80, (I x50))]) rfl rfl rfl) ?_
  refine Eq.trans (regp_pure (x := (idx o21 x50)) (w := fun v51 => (V.pro (enc_T_progenyref24_span v51))) rfl rfl rfl rfl rfl (p_index (e := enc_T_progenyref24_span) rfl rfl rfl Go.Proofs.Try.underlying79 rfl (by decide))) ?_
  refine bindE (fun v51 => ?_)
  refine Eq.trans (putp_adv (m := 4) (j := 7) (t' := [(1, (V.ptr 1 0 0)), (5, (sspan (o21))), (6, (I x50)), (76, (V.bool true)), (79, (sspan (o21))), (80, (I x50)), (81, (V.pro (enc_T_progenyref24_span v51))), (82, (V.pro (I v51.frow))), (83, (I v51.frow)), (84, (V.bool (decide (v51.frow < 0)))), (85, (V.bool (decide (v51.frow < 0))))]) rfl rfl rfl) ?_
  refine bifE (c := (decide (v51.frow < 0))) (fun hc => ?_) fun hc => ?_
  · rw [hc]
    exact regp_end rfl
  · rw [hc]
    refine Eq.trans (regp_adv (m := 2) (j := 9) (t' := [(1, (V.ptr 1 0 0)), (5, (sspan (o21))), (6, (I x50)), (76, (V.bool true)), (79, (sspan (o21))), (80, (I x50)), (81, (V.pro (enc_T_progenyref24_span v51))), (82, (V.pro (I v51.frow))), (83, (I v51.frow)), (84, (V.bool false)), (85, (V.bool false)), (86, (sspan (o21))), (87, (I x50))]) rfl rfl rfl) ?_
    refine Eq.trans (regp_pure (x := (idx o21 x50)) (w := fun v52 => (V.pro (enc_T_progenyref24_span v52))) rfl rfl rfl rfl rfl (p_index (e := enc_T_progenyref24_span) rfl rfl rfl Go.Proofs.Try.underlying79 rfl (by decide))) ?_
    refine bindE (fun v52 => ?_)
    refine Eq.trans (putp_adv (m := 7) (j := 17) (t' := [(1, (V.ptr 1 0 0)), (5, (sspan (o21))), (6, (I x50)), (76, (V.bool true)), (79, (sspan (o21))), (80, (I x50)), (81, (V.pro (enc_T_progenyref24_span v51))), (82, (V.pro (I v51.frow))), (83, (I v51.frow)), (84, (V.bool false)), (85, (V.bool false)), (86, (sspan (o21))), (87, (I x50)), (88, (V.pro (enc_T_progenyref24_span v52))), (89, (V.pro (I v52.frow))), (90, (I v52.frow)), (91, (V.ptr 1 0 0)), (92, (I a0.fRows)), (93, (V.bool (decide (v52.frow ≥ a0.fRows)))), (94, (V.bool (decide (v52.frow ≥ a0.fRows)))), (95, (V.bool (decide (v52.frow ≥ a0.fRows))))]) rfl rfl rfl) ?_
    refine bifE (c := (decide (v52.frow ≥ a0.fRows))) (fun hc => ?_) fun hc => ?_
    · rw [hc]
      exact regp_end rfl
    · rw [hc]
      refine Eq.trans (regp_adv (m := 2) (j := 19) (t' := [(1, (V.ptr 1 0 0)), (5, (sspan (o21))), (6, (I x50)), (76, (V.bool true)), (79, (sspan (o21))), (80, (I x50)), (81, (V.pro (enc_T_progenyref24_span v51))), (82, (V.pro (I v51.frow))), (83, (I v51.frow)), (84, (V.bool false)), (85, (V.bool false)), (86, (sspan (o21))), (87, (I x50)), (88, (V.pro (enc_T_progenyref24_span v52))), (89, (V.pro (I v52.frow))), (90, (I v52.frow)), (91, (V.ptr 1 0 0)), (92, (I a0.fRows)), (93, (V.bool false)), (94, (V.bool false)), (95, (V.bool false)), (96, (sspan (o21))), (97, (I x50))]) rfl rfl rfl) ?_
      refine Eq.trans (regp_pure (x := (idx o21 x50)) (w := fun v53 => (V.pro (enc_T_progenyref24_span v53))) rfl rfl rfl rfl rfl (p_index (e := enc_T_progenyref24_span) rfl rfl rfl Go.Proofs.Try.underlying79 rfl (by decide))) ?_
      refine bindE (fun v53 => ?_)
      refine Eq.trans (putp_adv (m := 5) (j := 25) (t' := [(1, (V.ptr 1 0 0)), (5, (sspan (o21))), (6, (I x50)), (76, (V.bool true)), (79, (sspan (o21))), (80, (I x50)), (81, (V.pro (enc_T_progenyref24_span v51))), (82, (V.pro (I v51.frow))), (83, (I v51.frow)), (84, (V.bool false)), (85, (V.bool false)), (86, (sspan (o21))), (87, (I x50)), (88, (V.pro (enc_T_progenyref24_span v52))), (89, (V.pro (I v52.frow))), (90, (I v52.frow)), (91, (V.ptr 1 0 0)), (92, (I a0.fRows)), (93, (V.bool false)), (94, (V.bool false)), (95, (V.bool false)), (96, (sspan (o21))), (97, (I x50)), (98, (V.pro (enc_T_progenyref24_span v53))), (99, (V.pro (I v53.fcolumn))), (100, (I v53.fcolumn)), (101, (V.bool (decide (v53.fcolumn < 0)))), (102, (V.bool (decide (v53.fcolumn < 0)))), (103, (V.bool (decide (v53.fcolumn < 0))))]) rfl rfl rfl) ?_
      refine bifE (c := (decide (v53.fcolumn < 0))) (fun hc => ?_) fun hc => ?_
      · rw [hc]
        exact regp_end rfl
      · rw [hc]
        refine Eq.trans (regp_adv (m := 2) (j := 27) (t' := [(1, (V.ptr 1 0 0)), (5, (sspan (o21))), (6, (I x50)), (76, (V.bool true)), (79, (sspan (o21))), (80, (I x50)), (81, (V.pro (enc_T_progenyref24_span v51))), (82, (V.pro (I v51.frow))), (83, (I v51.frow)), (84, (V.bool false)), (85, (V.bool false)), (86, (sspan (o21))), (87, (I x50)), (88, (V.pro (enc_T_progenyref24_span v52))), (89, (V.pro (I v52.frow))), (90, (I v52.frow)), (91, (V.ptr 1 0 0)), (92, (I a0.fRows)), (93, (V.bool false)), (94, (V.bool false)), (95, (V.bool false)), (96, (sspan (o21))), (97, (I x50)), (98, (V.pro (enc_T_progenyref24_span v53))), (99, (V.pro (I v53.fcolumn))), (100, (I v53.fcolumn)), (101, (V.bool false)), (102, (V.bool false)), (103, (V.bool false)), (104, (sspan (o21))), (105, (I x50))]) rfl rfl rfl) ?_
        refine Eq.trans (regp_pure (x := (idx o21 x50)) (w := fun v54 => (V.pro (enc_T_progenyref24_span v54))) rfl rfl rfl rfl rfl (p_index (e := enc_T_progenyref24_span) rfl rfl rfl Go.Proofs.Try.underlying79 rfl (by decide))) ?_
        refine bindE (fun v54 => ?_)
        refine Eq.trans (putp_adv (m := 7) (j := 35) (t' := [(1, (V.ptr 1 0 0)), (5, (sspan (o21))), (6, (I x50)), (76, (V.bool true)), (79, (sspan (o21))), (80, (I x50)), (81, (V.pro (enc_T_progenyref24_span v51))), (82, (V.pro (I v51.frow))), (83, (I v51.frow)), (84, (V.bool false)), (85, (V.bool false)), (86, (sspan (o21))), (87, (I x50)), (88, (V.pro (enc_T_progenyref24_span v52))), (89, (V.pro (I v52.frow))), (90, (I v52.frow)), (91, (V.ptr 1 0 0)), (92, (I a0.fRows)), (93, (V.bool false)), (94, (V.bool false)), (95, (V.bool false)), (96, (sspan (o21))), (97, (I x50)), (98, (V.pro (enc_T_progenyref24_span v53))), (99, (V.pro (I v53.fcolumn))), (100, (I v53.fcolumn)), (101, (V.bool false)), (102, (V.bool false)), (103, (V.bool false)), (104, (sspan (o21))), (105, (I x50)), (106, (V.pro (enc_T_progenyref24_span v54))), (107, (V.pro (I v54.fcolumn))), (108, (I v54.fcolumn)), (109, (V.ptr 1 0 1)), (110, (I a0.fColumns)), (111, (V.bool (decide (v54.fcolumn ≥ a0.fColumns)))), (112, (V.bool (decide (v54.fcolumn ≥ a0.fColumns)))), (113, (V.bool (decide (v54.fcolumn ≥ a0.fColumns))))]) rfl rfl rfl) ?_
        refine bifE (c := (decide (v54.fcolumn ≥ a0.fColumns))) (fun hc => ?_) fun hc => ?_
        · rw [hc]
          exact regp_end rfl
        · rw [hc]
          refine Eq.trans (regp_adv (m := 2) (j := 37) (t' := [(1, (V.ptr 1 0 0)), (5, (sspan (o21))), (6, (I x50)), (76, (V.bool true)), (79, (sspan (o21))), (80, (I x50)), (81, (V.pro (enc_T_progenyref24_span v51))), (82, (V.pro (I v51.frow))), (83, (I v51.frow)), (84, (V.bool false)), (85, (V.bool false)), (86, (sspan (o21))), (87, (I x50)), (88, (V.pro (enc_T_progenyref24_span v52))), (89, (V.pro (I v52.frow))), (90, (I v52.frow)), (91, (V.ptr 1 0 0)), (92, (I a0.fRows)), (93, (V.bool false)), (94, (V.bool false)), (95, (V.bool false)), (96, (sspan (o21))), (97, (I x50)), (98, (V.pro (enc_T_progenyref24_span v53))), (99, (V.pro (I v53.fcolumn))), (100, (I v53.fcolumn)), (101, (V.bool false)), (102, (V.bool false)), (103, (V.bool false)), (104, (sspan (o21))), (105, (I x50)), (106, (V.pro (enc_T_progenyref24_span v54))), (107, (V.pro (I v54.fcolumn))), (108, (I v54.fcolumn)), (109, (V.ptr 1 0 1)), (110, (I a0.fColumns)), (111, (V.bool false)), (112, (V.bool false)), (113, (V.bool false)), (114, (sspan (o21))), (115, (I x50))]) rfl rfl rfl) ?_
          refine Eq.trans (regp_pure (x := (idx o21 x50)) (w := fun v55 => (V.pro (enc_T_progenyref24_span v55))) rfl rfl rfl rfl rfl (p_index (e := enc_T_progenyref24_span) rfl rfl rfl Go.Proofs.Try.underlying79 rfl (by decide))) ?_
          refine bindE (fun v55 => ?_)
          refine Eq.trans (putp_adv (m := 5) (j := 43) (t' := [(1, (V.ptr 1 0 0)), (5, (sspan (o21))), (6, (I x50)), (76, (V.bool true)), (79, (sspan (o21))), (80, (I x50)), (81, (V.pro (enc_T_progenyref24_span v51))), (82, (V.pro (I v51.frow))), (83, (I v51.frow)), (84, (V.bool false)), (85, (V.bool false)), (86, (sspan (o21))), (87, (I x50)), (88, (V.pro (enc_T_progenyref24_span v52))), (89, (V.pro (I v52.frow))), (90, (I v52.frow)), (91, (V.ptr 1 0 0)), (92, (I a0.fRows)), (93, (V.bool false)), (94, (V.bool false)), (95, (V.bool false)), (96, (sspan (o21))), (97, (I x50)), (98, (V.pro (enc_T_progenyref24_span v53))), (99, (V.pro (I v53.fcolumn))), (100, (I v53.fcolumn)), (101, (V.bool false)), (102, (V.bool false)), (103, (V.bool false)), (104, (sspan (o21))), (105, (I x50)), (106, (V.pro (enc_T_progenyref24_span v54))), (107, (V.pro (I v54.fcolumn))), (108, (I v54.fcolumn)), (109, (V.ptr 1 0 1)), (110, (I a0.fColumns)), (111, (V.bool false)), (112, (V.bool false)), (113, (V.bool false)), (114, (sspan (o21))), (115, (I x50)), (116, (V.pro (enc_T_progenyref24_span v55))), (117, (V.pro (I v55.fbytes))), (118, (I v55.fbytes)), (119, (V.bool (decide (v55.fbytes < 1)))), (120, (V.bool (decide (v55.fbytes < 1)))), (121, (V.bool (decide (v55.fbytes < 1))))]) rfl rfl rfl) ?_
          refine bifE (c := (decide (v55.fbytes < 1))) (fun hc => ?_) fun hc => ?_
          · rw [hc]
            exact regp_end rfl
          · rw [hc]
            refine Eq.trans (regp_adv (m := 2) (j := 45) (t' := [(1, (V.ptr 1 0 0)), (5, (sspan (o21))), (6, (I x50)), (76, (V.bool true)), (79, (sspan (o21))), (80, (I x50)), (81, (V.pro (enc_T_progenyref24_span v51))), (82, (V.pro (I v51.frow))), (83, (I v51.frow)), (84, (V.bool false)), (85, (V.bool false)), (86, (sspan (o21))), (87, (I x50)), (88, (V.pro (enc_T_progenyref24_span v52))), (89, (V.pro (I v52.frow))), (90, (I v52.frow)), (91, (V.ptr 1 0 0)), (92, (I a0.fRows)), (93, (V.bool false)), (94, (V.bool false)), (95, (V.bool false)), (96, (sspan (o21))), (97, (I x50)), (98, (V.pro (enc_T_progenyref24_span v53))), (99, (V.pro (I v53.fcolumn))), (100, (I v53.fcolumn)), (101, (V.bool false)), (102, (V.bool false)), (103, (V.bool false)), (104, (sspan (o21))), (105, (I x50)), (106, (V.pro (enc_T_progenyref24_span v54))), (107, (V.pro (I v54.fcolumn))), (108, (I v54.fcolumn)), (109, (V.ptr 1 0 1)), (110, (I a0.fColumns)), (111, (V.bool false)), (112, (V.bool false)), (113, (V.bool false)), (114, (sspan (o21))), (115, (I x50)), (116, (V.pro (enc_T_progenyref24_span v55))), (117, (V.pro (I v55.fbytes))), (118, (I v55.fbytes)), (119, (V.bool false)), (120, (V.bool false)), (121, (V.bool false)), (122, (sspan (o21))), (123, (I x50))]) rfl rfl rfl) ?_
            refine Eq.trans (regp_pure (x := (idx o21 x50)) (w := fun v56 => (V.pro (enc_T_progenyref24_span v56))) rfl rfl rfl rfl rfl (p_index (e := enc_T_progenyref24_span) rfl rfl rfl Go.Proofs.Try.underlying79 rfl (by decide))) ?_
            refine bindE (fun v56 => ?_)
            refine Eq.trans (putp_adv (m := 6) (j := 52) (t' := [(1, (V.ptr 1 0 0)), (5, (sspan (o21))), (6, (I x50)), (76, (V.bool true)), (79, (sspan (o21))), (80, (I x50)), (81, (V.pro (enc_T_progenyref24_span v51))), (82, (V.pro (I v51.frow))), (83, (I v51.frow)), (84, (V.bool false)), (85, (V.bool false)), (86, (sspan (o21))), (87, (I x50)), (88, (V.pro (enc_T_progenyref24_span v52))), (89, (V.pro (I v52.frow))), (90, (I v52.frow)), (91, (V.ptr 1 0 0)), (92, (I a0.fRows)), (93, (V.bool false)), (94, (V.bool false)), (95, (V.bool false)), (96, (sspan (o21))), (97, (I x50)), (98, (V.pro (enc_T_progenyref24_span v53))), (99, (V.pro (I v53.fcolumn))), (100, (I v53.fcolumn)), (101, (V.bool false)), (102, (V.bool false)), (103, (V.bool false)), (104, (sspan (o21))), (105, (I x50)), (106, (V.pro (enc_T_progenyref24_span v54))), (107, (V.pro (I v54.fcolumn))), (108, (I v54.fcolumn)), (109, (V.ptr 1 0 1)), (110, (I a0.fColumns)), (111, (V.bool false)), (112, (V.bool false)), (113, (V.bool false)), (114, (sspan (o21))), (115, (I x50)), (116, (V.pro (enc_T_progenyref24_span v55))), (117, (V.pro (I v55.fbytes))), (118, (I v55.fbytes)), (119, (V.bool false)), (120, (V.bool false)), (121, (V.bool false)), (122, (sspan (o21))), (123, (I x50)), (124, (V.pro (enc_T_progenyref24_span v56))), (125, (V.pro (I v56.fbytes))), (126, (I v56.fbytes)), (127, (V.ptr 1 0 1)), (128, (I a0.fColumns)), (129, (sspan (o21))), (130, (I x50))]) rfl rfl rfl) ?_
            refine Eq.trans (regp_pure (x := (idx o21 x50)) (w := fun v57 => (V.pro (enc_T_progenyref24_span v57))) rfl rfl rfl rfl rfl (p_index (e := enc_T_progenyref24_span) rfl rfl rfl Go.Proofs.Try.underlying79 rfl (by decide))) ?_
            refine bindE (fun v57 => ?_)
            exact regp_end rfl
theorem f25r18 (k : Nat) (a0 : T_api_Form) (o21 : (List T_progenyref24_span)) (x50 : Int) : RE k f25a18 f25o18 false ⟨[(1, (V.ptr 1 0 0)), (5, (sspan (o21))), (6, (I x50)), (136, (V.bool true))], [(1, ⟨false, 4, [(enc_T_api_Form a0)]⟩)], 191⟩ = some ⟨[(2, (V.bool false))], [], 191⟩ :=
  rE rfl
theorem f25r19 (k : Nat) (a0 : T_api_Form) (o21 : (List T_progenyref24_span)) (x50 : Int) : RE k f25a19 f25o19 false ⟨[(1, (V.ptr 1 0 0)), (5, (sspan (o21))), (6, (I x50)), (136, (V.bool false))], [(1, ⟨false, 4, [(enc_T_api_Form a0)]⟩)], 191⟩ = some ⟨[(1, (V.ptr 1 0 0)), (5, (sspan (o21))), (6, (I x50)), (7, (I 0))], [(1, ⟨false, 4, [(enc_T_api_Form a0)]⟩)], 191⟩ :=
  rE rfl
theorem f25r20 (k : Nat) (a0 : T_api_Form) (o21 : (List T_progenyref24_span)) (x50 : Int) (x68 : Int) : RE k f25a20 f25o20 false ⟨[(1, (V.ptr 1 0 0)), (5, (sspan (o21))), (6, (I x50)), (7, (I x68))], [(1, ⟨false, 4, [(enc_T_api_Form a0)]⟩)], 191⟩ = some ⟨[(1, (V.ptr 1 0 0)), (5, (sspan (o21))), (6, (I x50)), (7, (I x68)), (139, (V.bool (decide (x68 < x50))))], [(1, ⟨false, 4, [(enc_T_api_Form a0)]⟩)], 191⟩ :=
  rE rfl
theorem f25r22 (k : Nat) (a0 : T_api_Form) (o21 : (List T_progenyref24_span)) (x50 : Int) (x68 : Int) : RE k f25a22 f25o22 true ⟨[(1, (V.ptr 1 0 0)), (5, (sspan (o21))), (6, (I x50)), (7, (I x68)), (139, (V.bool true))], [(1, ⟨false, 4, [(enc_T_api_Form a0)]⟩)], 191⟩ = (((idx o21 x68).bind fun v69 => ((idx o21 x50).bind fun v70 => (bif (v69.frow == v70.frow) then ((idx o21 x68).bind fun v71 => ((idx o21 x50).bind fun v72 => ((idx o21 x50).bind fun v73 => (bif (decide (v71.fcolumn < (Go.IntKind.wrap .i64 (v72.fcolumn + v73.fbytes)))) then ((idx o21 x50).bind fun v74 => ((idx o21 x68).bind fun v75 => ((idx o21 x68).bind fun v76 => (some ((decide (v74.fcolumn < (Go.IntKind.wrap .i64 (v75.fcolumn + v76.fbytes))))))))) else (some (false)))))) else (some (false)))))).map (fun (o : Bool) => (⟨[(1, (V.ptr 1 0 0)), (5, (sspan (o21))), (6, (I x50)), (7, (I x68)), (190, (V.bool o))], [(1, ⟨false, 4, [(enc_T_api_Form a0)]⟩)], 191⟩ : St)) := by
  refine Eq.trans (regionE_regp (p := 49) (dk := true) (t := [(1, (V.ptr 1 0 0)), (5, (sspan (o21))), (6, (I x50)), (7, (I x68)), (139, (V.bool true))]) (σ := [(1, ⟨false, 4, [(enc_T_api_Form a0)]⟩)]) (n := 191) rfl (by decide) (by decide) rfl) ?_
  refine Eq.trans (regp_adv (m := 2) (j := 2) (t' := [(1, (V.ptr 1 0 0)), (5, (sspan (o21))), (6, (I x50)), (7, (I x68)), (139, (V.bool true)), (142, (sspan (o21))), (143, (I x68))]) rfl rfl rfl) ?_
  refine Eq.trans (regp_pure (x := (idx o21 x68)) (w := fun v69 => (V.pro (enc_T_progenyref24_span v69))) rfl rfl rfl rfl rfl (p_index (e := enc_T_progenyref24_span) rfl rfl rfl Go.Proofs.Try.underlying79 rfl (by decide))) ?_
  refine bindE (fun v69 => ?_)
  refine Eq.trans (putp_adv (m := 4) (j := 7) (t' := [(1, (V.ptr 1 0 0)), (5, (sspan (o21))), (6, (I x50)), (7, (I x68)), (139, (V.bool true)), (142, (sspan (o21))), (143, (I x68)), (144, (V.pro (enc_T_progenyref24_span v69))), (145, (V.pro (I v69.frow))), (146, (I v69.frow)), (147, (sspan (o21))), (148, (I x50))]) rfl rfl rfl) ?_
  refine Eq.trans (regp_pure (x := (idx o21 x50)) (w := fun v70 => (V.pro (enc_T_progenyref24_span v70))) rfl rfl rfl rfl rfl (p_index (e := enc_T_progenyref24_span) rfl rfl rfl Go.Proofs.Try.underlying79 rfl (by decide))) ?_
  refine bindE (fun v70 => ?_)
  refine Eq.trans (putp_adv (m := 4) (j := 12) (t' := [(1, (V.ptr 1 0 0)), (5, (sspan (o21))), (6, (I x50)), (7, (I x68)), (139, (V.bool true)), (142, (sspan (o21))), (143, (I x68)), (144, (V.pro (enc_T_progenyref24_span v69))), (145, (V.pro (I v69.frow))), (146, (I v69.frow)), (147, (sspan (o21))), (148, (I x50)), (149, (V.pro (enc_T_progenyref24_span v70))), (150, (V.pro (I v70.frow))), (151, (I v70.frow)), (152, (V.bool (v69.frow == v70.frow))), (153, (V.bool (v69.frow == v70.frow)))]) rfl rfl rfl) ?_
  refine bifE (c := (v69.frow == v70.frow)) (fun hc => ?_) fun hc => ?_
  · rw [hc]
    refine Eq.trans (regp_adv (m := 2) (j := 14) (t' := [(1, (V.ptr 1 0 0)), (5, (sspan (o21))), (6, (I x50)), (7, (I x68)), (139, (V.bool true)), (142, (sspan (o21))), (143, (I x68)), (144, (V.pro (enc_T_progenyref24_span v69))), (145, (V.pro (I v69.frow))), (146, (I v69.frow)), (147, (sspan (o21))), (148, (I x50)), (149, (V.pro (enc_T_progenyref24_span v70))), (150, (V.pro (I v70.frow))), (151, (I v70.frow)), (152, (V.bool true)), (153, (V.bool true)), (154, (sspan (o21))), (155, (I x68))]) rfl rfl rfl) ?_
    refine Eq.trans (regp_pure (x := (idx o21 x68)) (w := fun v71 => (V.pro (enc_T_progenyref24_span v71))) rfl rfl rfl rfl rfl (p_index (e := enc_T_progenyref24_span) rfl rfl rfl Go.Proofs.Try.underlying79 rfl (by decide))) ?_
    refine bindE (fun v71 => ?_)
    refine Eq.trans (putp_adv (m := 4) (j := 19) (t' := [(1, (V.ptr 1 0 0)), (5, (sspan (o21))), (6, (I x50)), (7, (I x68)), (139, (V.bool true)), (142, (sspan (o21))), (143, (I x68)), (144, (V.pro (enc_T_progenyref24_span v69))), (145, (V.pro (I v69.frow))), (146, (I v69.frow)), (147, (sspan (o21))), (148, (I x50)), (149, (V.pro (enc_T_progenyref24_span v70))), (150, (V.pro (I v70.frow))), (151, (I v70.frow)), (152, (V.bool true)), (153, (V.bool true)), (154, (sspan (o21))), (155, (I x68)), (156, (V.pro (enc_T_progenyref24_span v71))), (157, (V.pro (I v71.fcolumn))), (158, (I v71.fcolumn)), (159, (sspan (o21))), (160, (I x50))]) rfl rfl rfl) ?_
    refine Eq.trans (regp_pure (x := (idx o21 x50)) (w := fun v72 => (V.pro (enc_T_progenyref24_span v72))) rfl rfl rfl rfl rfl (p_index (e := enc_T_progenyref24_span) rfl rfl rfl Go.Proofs.Try.underlying79 rfl (by decide))) ?_
    refine bindE (fun v72 => ?_)
    refine Eq.trans (putp_adv (m := 4) (j := 24) (t' := [(1, (V.ptr 1 0 0)), (5, (sspan (o21))), (6, (I x50)), (7, (I x68)), (139, (V.bool true)), (142, (sspan (o21))), (143, (I x68)), (144, (V.pro (enc_T_progenyref24_span v69))), (145, (V.pro (I v69.frow))), (146, (I v69.frow)), (147, (sspan (o21))), (148, (I x50)), (149, (V.pro (enc_T_progenyref24_span v70))), (150, (V.pro (I v70.frow))), (151, (I v70.frow)), (152, (V.bool true)), (153, (V.bool true)), (154, (sspan (o21))), (155, (I x68)), (156, (V.pro (enc_T_progenyref24_span v71))), (157, (V.pro (I v71.fcolumn))), (158, (I v71.fcolumn)), (159, (sspan (o21))), (160, (I x50)), (161, (V.pro (enc_T_progenyref24_span v72))), (162, (V.pro (I v72.fcolumn))), (163, (I v72.fcolumn)), (164, (sspan (o21))), (165, (I x50))]) rfl rfl rfl) ?_
    refine Eq.trans (regp_pure (x := (idx o21 x50)) (w := fun v73 => (V.pro (enc_T_progenyref24_span v73))) rfl rfl rfl rfl rfl (p_index (e := enc_T_progenyref24_span) rfl rfl rfl Go.Proofs.Try.underlying79 rfl (by decide))) ?_
    refine bindE (fun v73 => ?_)
    refine Eq.trans (putp_adv (m := 6) (j := 31) (t' := [(1, (V.ptr 1 0 0)), (5, (sspan (o21))), (6, (I x50)), (7, (I x68)), (139, (V.bool true)), (142, (sspan (o21))), (143, (I x68)), (144, (V.pro (enc_T_progenyref24_span v69))), (145, (V.pro (I v69.frow))), (146, (I v69.frow)), (147, (sspan (o21))), (148, (I x50)), (149, (V.pro (enc_T_progenyref24_span v70))), (150, (V.pro (I v70.frow))), (151, (I v70.frow)), (152, (V.bool true)), (153, (V.bool true)), (154, (sspan (o21))), (155, (I x68)), (156, (V.pro (enc_T_progenyref24_span v71))), (157, (V.pro (I v71.fcolumn))), (158, (I v71.fcolumn)), (159, (sspan (o21))), (160, (I x50)), (161, (V.pro (enc_T_progenyref24_span v72))), (162, (V.pro (I v72.fcolumn))), (163, (I v72.fcolumn)), (164, (sspan (o21))), (165, (I x50)), (166, (V.pro (enc_T_progenyref24_span v73))), (167, (V.pro (I v73.fbytes))), (168, (I v73.fbytes)), (169, (I (Go.IntKind.wrap .i64 (v72.fcolumn + v73.fbytes)))), (170, (V.bool (decide (v71.fcolumn < (Go.IntKind.wrap .i64 (v72.fcolumn + v73.fbytes)))))), (171, (V.bool (decide (v71.fcolumn < (Go.IntKind.wrap .i64 (v72.fcolumn + v73.fbytes)))))), (172, (V.bool (decide (v71.fcolumn < (Go.IntKind.wrap .i64 (v72.fcolumn + v73.fbytes))))))]) rfl rfl rfl) ?_
    refine bifE (c := (decide (v71.fcolumn < (Go.IntKind.wrap .i64 (v72.fcolumn + v73.fbytes))))) (fun hc => ?_) fun hc => ?_
    · rw [hc]
      refine Eq.trans (regp_adv (m := 2) (j := 33) (t' := [(1, (V.ptr 1 0 0)), (5, (sspan (o21))), (6, (I x50)), (7, (I x68)), (139, (V.bool true)), (142, (sspan (o21))), (143, (I x68)), (144, (V.pro (enc_T_progenyref24_span v69))), (145, (V.pro (I v69.frow))), (146, (I v69.frow)), (147, (sspan (o21))), (148, (I x50)), (149, (V.pro (enc_T_progenyref24_span v70))), (150, (V.pro (I v70.frow))), (151, (I v70.frow)), (152, (V.bool true)), (153, (V.bool true)), (154, (sspan (o21))), (155, (I x68)), (156, (V.pro (enc_T_progenyref24_span v71))), (157, (V.pro (I v71.fcolumn))), (158, (I v71.fcolumn)), (159, (sspan (o21))), (160, (I x50)), (161, (V.pro (enc_T_progenyref24_span v72))), (162, (V.pro (I v72.fcolumn))), (163, (I v72.fcolumn)), (164, (sspan (o21))), (165, (I x50)), (166, (V.pro (enc_T_progenyref24_span v73))), (167, (V.pro (I v73.fbytes))), (168, (I v73.fbytes)), (169, (I (Go.IntKind.wrap .i64 (v72.fcolumn + v73.fbytes)))), (170, (V.bool true)), (171, (V.bool true)), (172, (V.bool true)), (173, (sspan (o21))), (174, (I x50))]) rfl rfl rfl) ?_
      refine Eq.trans (regp_pure (x := (idx o21 x50)) (w := fun v74 => (V.pro (enc_T_progenyref24_span v74))) rfl rfl rfl rfl rfl (p_index (e := enc_T_progenyref24_span) rfl rfl rfl Go.Proofs.Try.underlying79 rfl (by decide))) ?_
      refine bindE (fun v74 => ?_)
      refine Eq.trans (putp_adv (m := 4) (j := 38) (t' := [(1, (V.ptr 1 0 0)), (5, (sspan (o21))), (6, (I x50)), (7, (I x68)), (139, (V.bool true)), (142, (sspan (o21))), (143, (I x68)), (144, (V.pro (enc_T_progenyref24_span v69))), (145, (V.pro (I v69.frow))), (146, (I v69.frow)), (147, (sspan (o21))), (148, (I x50)), (149, (V.pro (enc_T_progenyref24_span v70))), (150, (V.pro (I v70.frow))), (151, (I v70.frow)), (152, (V.bool true)), (153, (V.bool true)), (154, (sspan (o21))), (155, (I x68)), (156, (V.pro (enc_T_progenyref24_span v71))), (157, (V.pro (I v71.fcolumn))), (158, (I v71.fcolumn)), (159, (sspan (o21))), (160, (I x50)), (161, (V.pro (enc_T_progenyref24_span v72))), (162, (V.pro (I v72.fcolumn))), (163, (I v72.fcolumn)), (164, (sspan (o21))), (165, (I x50)), (166, (V.pro (enc_T_progenyref24_span v73))), (167, (V.pro (I v73.fbytes))), (168, (I v73.fbytes)), (169, (I (Go.IntKind.wrap .i64 (v72.fcolumn + v73.fbytes)))), (170, (V.bool true)), (171, (V.bool true)), (172, (V.bool true)), (173, (sspan (o21))), (174, (I x50)), (175, (V.pro (enc_T_progenyref24_span v74))), (176, (V.pro (I v74.fcolumn))), (177, (I v74.fcolumn)), (178, (sspan (o21))), (179, (I x68))]) rfl rfl rfl) ?_
      refine Eq.trans (regp_pure (x := (idx o21 x68)) (w := fun v75 => (V.pro (enc_T_progenyref24_span v75))) rfl rfl rfl rfl rfl (p_index (e := enc_T_progenyref24_span) rfl rfl rfl Go.Proofs.Try.underlying79 rfl (by decide))) ?_
      refine bindE (fun v75 => ?_)
      refine Eq.trans (putp_adv (m := 4) (j := 43) (t' := [(1, (V.ptr 1 0 0)), (5, (sspan (o21))), (6, (I x50)), (7, (I x68)), (139, (V.bool true)), (142, (sspan (o21))), (143, (I x68)), (144, (V.pro (enc_T_progenyref24_span v69))), (145, (V.pro (I v69.frow))), (146, (I v69.frow)), (147, (sspan (o21))), (148, (I x50)), (149, (V.pro (enc_T_progenyref24_span v70))), (150, (V.pro (I v70.frow))), (151, (I v70.frow)), (152, (V.bool true)), (153, (V.bool true)), (154, (sspan (o21))), (155, (I x68)), (156, (V.pro (enc_T_progenyref24_span v71))), (157, (V.pro (I v71.fcolumn))), (158, (I v71.fcolumn)), (159, (sspan (o21))), (160, (I x50)), (161, (V.pro (enc_T_progenyref24_span v72))), (162, (V.pro (I v72.fcolumn))), (163, (I v72.fcolumn)), (164, (sspan (o21))), (165, (I x50)), (166, (V.pro (enc_T_progenyref24_span v73))), (167, (V.pro (I v73.fbytes))), (168, (I v73.fbytes)), (169, (I (Go.IntKind.wrap .i64 (v72.fcolumn + v73.fbytes)))), (170, (V.bool true)), (171, (V.bool true)), (172, (V.bool true)), (173, (sspan (o21))), (174, (I x50)), (175, (V.pro (enc_T_progenyref24_span v74))), (176, (V.pro (I v74.fcolumn))), (177, (I v74.fcolumn)), (178, (sspan (o21))), (179, (I x68)), (180, (V.pro (enc_T_progenyref24_span v75))), (181, (V.pro (I v75.fcolumn))), (182, (I v75.fcolumn)), (183, (sspan (o21))), (184, (I x68))]) rfl rfl rfl) ?_
      refine Eq.trans (regp_pure (x := (idx o21 x68)) (w := fun v76 => (V.pro (enc_T_progenyref24_span v76))) rfl rfl rfl rfl rfl (p_index (e := enc_T_progenyref24_span) rfl rfl rfl Go.Proofs.Try.underlying79 rfl (by decide))) ?_
      refine bindE (fun v76 => ?_)
      exact regp_end rfl
    · rw [hc]
      exact regp_end rfl
  · rw [hc]
    exact regp_end rfl
theorem f25r23 (k : Nat) (a0 : T_api_Form) (o21 : (List T_progenyref24_span)) (x50 : Int) (x68 : Int) : RE k f25a23 f25o23 false ⟨[(1, (V.ptr 1 0 0)), (5, (sspan (o21))), (6, (I x50)), (7, (I x68)), (190, (V.bool true))], [(1, ⟨false, 4, [(enc_T_api_Form a0)]⟩)], 191⟩ = some ⟨[(2, (V.bool false))], [], 191⟩ :=
  rE rfl
theorem f25r21 (k : Nat) (a0 : T_api_Form) (o21 : (List T_progenyref24_span)) (x50 : Int) (x68 : Int) : RE k f25a21 f25o21 false ⟨[(1, (V.ptr 1 0 0)), (5, (sspan (o21))), (6, (I x50)), (7, (I x68)), (190, (V.bool false))], [(1, ⟨false, 4, [(enc_T_api_Form a0)]⟩)], 191⟩ = some ⟨[(1, (V.ptr 1 0 0)), (5, (sspan (o21))), (6, (I x50)), (7, (I (Go.IntKind.wrap .i64 (x68 + 1))))], [(1, ⟨false, 4, [(enc_T_api_Form a0)]⟩)], 191⟩ :=
  rE rfl
theorem ref24_Valid_L4_ok (k : Nat) (a0 : T_api_Form) (o21 : (List T_progenyref24_span)) (x50 : Int)  (K0 : Int → Option Bool) (Kst : X × St → Option (V × List V)) (hK0 : ∀ (y0 : Int), Kst (X.exit 6, ⟨[(1, (V.ptr 1 0 0)), (5, (sspan (o21))), (6, (I x50)), (7, (I y0)), (139, (V.bool false))], [(1, ⟨false, 4, [(enc_T_api_Form a0)]⟩)], 191⟩) = (K0 y0).map ref24_Valid_fin) (hret : ∀ s, Kst (X.ret, s) = endK prog 191 [(enc_T_api_Form a0)] [] [.tmp 2] (X.ret, s)) :
    ∀ (m : Nat) (x68 : Int), (iter (exec prog (EV k) f25n k f25b2) m ⟨[(1, (V.ptr 1 0 0)), (5, (sspan (o21))), (6, (I x50)), (7, (I x68))], [(1, ⟨false, 4, [(enc_T_api_Form a0)]⟩)], 191⟩).bind Kst = (ref24_Valid_L4 o21 x50 K0 m x68).map ref24_Valid_fin := by
  intro m
  induction m with
  | zero => intros; rfl
  | succ m ih =>
    intro x68
    unfold ref24_Valid_L4
    refine Eq.trans k_round ?_
    refine Eq.trans k_assoc ?_
    refine Eq.trans (k_region0 rfl (f25r20 k a0 o21 x50 x68)) ?_
    refine Eq.trans (k_cond (t := (decide (x68 < x50))) rfl rfl) ?_
    refine bifE2 (fun hc => ?_) fun hc => ?_
    · rw [hc]
      refine Eq.trans k_skip ?_
      refine Eq.trans (k_block rfl) ?_
      refine Eq.trans (k_region rfl (f25r22 k a0 o21 x50 x68)) ?_
      refine bindE (fun o77 => ?_)
      refine Eq.trans (k_lcond (t := o77) rfl rfl) ?_
      refine bifE2 (fun hc => ?_) fun hc => ?_
      · rw [hc]
        refine Eq.trans (k_region0 rfl (f25r23 k a0 o21 x50 x68)) ?_
        refine Eq.trans k_lret ?_
        refine Eq.trans blk_ret ?_
        refine Eq.trans loop_ret ?_
        refine Eq.trans (hret _) ?_
        rfl
      · rw [hc]
        refine Eq.trans k_lskip ?_
        refine Eq.trans blk_normal ?_
        refine Eq.trans (k_lregion0 rfl (f25r21 k a0 o21 x50 x68)) ?_
        refine Eq.trans loop_normal ?_
        exact ih (Go.IntKind.wrap .i64 (x68 + 1))
    · rw [hc]
      refine Eq.trans k_exit ?_
      refine Eq.trans loop_exit ?_
      exact hK0 x68
theorem f25r16 (k : Nat) (a0 : T_api_Form) (o21 : (List T_progenyref24_span)) (x50 : Int) (y78 : Int) : RE k f25a16 f25o16 false ⟨[(1, (V.ptr 1 0 0)), (5, (sspan (o21))), (6, (I x50)), (7, (I y78)), (139, (V.bool false))], [(1, ⟨false, 4, [(enc_T_api_Form a0)]⟩)], 191⟩ = some ⟨[(1, (V.ptr 1 0 0)), (5, (sspan (o21))), (6, (I (Go.IntKind.wrap .i64 (x50 + 1))))], [(1, ⟨false, 4, [(enc_T_api_Form a0)]⟩)], 191⟩ :=
  rE rfl
theorem ref24_Valid_L3_ok (k : Nat) (a0 : T_api_Form) (o21 : (List T_progenyref24_span))  (K0 : Int → Option Bool) (Kst : X × St → Option (V × List V)) (hK0 : ∀ (y0 : Int), Kst (X.exit 4, ⟨[(1, (V.ptr 1 0 0)), (5, (sspan (o21))), (6, (I y0)), (76, (V.bool false))], [(1, ⟨false, 4, [(enc_T_api_Form a0)]⟩)], 191⟩) = (K0 y0).map ref24_Valid_fin) (hret : ∀ s, Kst (X.ret, s) = endK prog 191 [(enc_T_api_Form a0)] [] [.tmp 2] (X.ret, s)) :
    ∀ (m : Nat) (x50 : Int), (iter (exec prog (EV k) f25n k f25b3) m ⟨[(1, (V.ptr 1 0 0)), (5, (sspan (o21))), (6, (I x50))], [(1, ⟨false, 4, [(enc_T_api_Form a0)]⟩)], 191⟩).bind Kst = (ref24_Valid_L3 k a0 o21 K0 m x50).map ref24_Valid_fin := by
  intro m
  induction m with
  | zero => intros; rfl
  | succ m ih =>
    intro x50
    unfold ref24_Valid_L3
    refine Eq.trans k_round ?_
    refine Eq.trans k_assoc ?_
    refine Eq.trans (k_region0 rfl (f25r15 k a0 o21 x50)) ?_
    refine Eq.trans (k_cond (t := (decide (x50 < (o21.length : Int)))) rfl rfl) ?_
    refine bifE2 (fun hc => ?_) fun hc => ?_
    · rw [hc]
      refine Eq.trans k_skip ?_
      refine Eq.trans (k_block rfl) ?_
      refine Eq.trans k_assoc ?_
      refine Eq.trans (k_region rfl (f25r17 k a0 o21 x50)) ?_
      refine bindE (fun o58 => ?_)
      refine Eq.trans (k_cond (t := o58) rfl rfl) ?_
      refine bifE2 (fun hc => ?_) fun hc => ?_
      · rw [hc]
        refine Eq.trans k_assoc ?_
        refine Eq.trans (k_region0 rfl (f25r18 k a0 o21 x50)) ?_
        refine Eq.trans k_ret ?_
        refine Eq.trans blk_ret ?_
        refine Eq.trans loop_ret ?_
        refine Eq.trans (hret _) ?_
        rfl
      · rw [hc]
        refine Eq.trans k_skip ?_
        refine Eq.trans (k_region0 rfl (f25r19 k a0 o21 x50)) ?_
        refine Eq.trans (k_lblock rfl) ?_
        refine Eq.trans k_loop ?_
        refine ref24_Valid_L4_ok k a0 o21 x50 _ _ ?h_ref24_Valid_L4_0 ?hr_ref24_Valid_L4 k 0
        · intro y78
          refine Eq.trans blk_exit ?_
          refine Eq.trans k_lskip ?_
          refine Eq.trans blk_normal ?_
          refine Eq.trans (k_lregion0 rfl (f25r16 k a0 o21 x50 y78)) ?_
          refine Eq.trans loop_normal ?_
          exact ih (Go.IntKind.wrap .i64 (x50 + 1))
        · intro s; exact hret s
    · rw [hc]
      refine Eq.trans k_exit ?_
      refine Eq.trans loop_exit ?_
      exact hK0 x50
theorem f25r24 (k : Nat) (a0 : T_api_Form) (o21 : (List T_progenyref24_span)) (y79 : Int) : RE k f25a24 f25o24 false ⟨[(1, (V.ptr 1 0 0)), (5, (sspan (o21))), (6, (I y79)), (76, (V.bool false))], [(1, ⟨false, 4, [(enc_T_api_Form a0)]⟩)], 191⟩ = some ⟨[(2, (V.bool true))], [], 191⟩ :=
  rE rfl
theorem ref24_Valid_ok (k : Nat) (a0 : T_api_Form) : EV k 25 [(enc_T_api_Form a0)] = (ref24_Valid k a0).map ref24_Valid_fin := by
  cases k with
  | zero => rfl
  | succ k =>
    unfold ref24_Valid
    refine Eq.trans (evF_succ (c := f25c) (N := 191) (regs := f25n) rfl Go.Proofs.Try.func25 rfl (by decide) rfl rfl rfl) ?_
    refine Eq.trans (k_region0 rfl (f25r0 k a0)) ?_
    refine Eq.trans k_assoc ?_
    refine Eq.trans (k_region rfl (f25r1 k a0)) ?_
    refine bindE (fun o1 => ?_)
    refine Eq.trans (k_cond (t := o1) rfl rfl) ?_
    refine bifE2 (fun hc => ?_) fun hc => ?_
    · rw [hc]
      refine Eq.trans k_assoc ?_
      refine Eq.trans (k_region0 rfl (f25r2 k a0)) ?_
      refine Eq.trans k_ret ?_
      rfl
    · rw [hc]
      refine Eq.trans k_skip ?_
      refine Eq.trans k_assoc ?_
      refine Eq.trans (k_region0 rfl (f25r3 k a0)) ?_
      refine Eq.trans (k_block rfl) ?_
      refine Eq.trans k_loop ?_
      refine ref24_Valid_L1_ok k a0 _ _ ?h_ref24_Valid_L1_0 ?hr_ref24_Valid_L1 k 0
      · intro y9
        refine Eq.trans blk_exit ?_
        refine Eq.trans k_assoc ?_
        refine Eq.trans (k_region0 rfl (f25r8 k a0 y9)) ?_
        refine Eq.trans (k_block rfl) ?_
        refine Eq.trans k_loop ?_
        refine ref24_Valid_L2_ok k a0 _ _ ?h_ref24_Valid_L2_0 ?hr_ref24_Valid_L2 k 0
        · intro y19
          refine Eq.trans blk_exit ?_
          refine Eq.trans (k_region rfl (f25r13 k a0 y19)) ?_
          refine bindE (fun o21 => ?_)
          refine Eq.trans k_assoc ?_
          refine Eq.trans (k_region0 rfl (f25r14 k a0 o21)) ?_
          refine Eq.trans (k_block rfl) ?_
          refine Eq.trans k_loop ?_
          refine ref24_Valid_L3_ok k a0 o21 _ _ ?h_ref24_Valid_L3_0 ?hr_ref24_Valid_L3 k 0
          · intro y79
            refine Eq.trans blk_exit ?_
            refine Eq.trans (k_region0 rfl (f25r24 k a0 o21 y79)) ?_
            refine Eq.trans k_lret ?_
            rfl
          · intro s; exact rfl
        · intro s; exact rfl
      · intro s; exact rfl
def ref24_lengths_fin : (Int × Int) → V × List V := fun r => (.tup [(I r.1), (I r.2)], [])
theorem f41r0 (k : Nat) (a0 : T_api_Form) : RE k f41a0 f41o0 false ⟨[(0, (enc_T_api_Form a0))], [], 34⟩ = some ⟨[(1, (V.ptr 1 0 0))], [(1, ⟨false, 4, [(enc_T_api_Form a0)]⟩)], 34⟩ :=
  rE rfl
theorem f41r1 (k : Nat) (a0 : T_api_Form) : RE k f41a1 f41o1 false ⟨[(1, (V.ptr 1 0 0))], [(1, ⟨false, 4, [(enc_T_api_Form a0)]⟩)], 34⟩ = some ⟨[(1, (V.ptr 1 0 0)), (4, (I 0)), (5, (I 0))], [(1, ⟨false, 4, [(enc_T_api_Form a0)]⟩)], 34⟩ :=
  rE rfl
theorem f41r2 (k : Nat) (a0 : T_api_Form) : RE k f41a2 f41o2 false ⟨[(1, (V.ptr 1 0 0)), (4, (I 0)), (5, (I 0))], [(1, ⟨false, 4, [(enc_T_api_Form a0)]⟩)], 34⟩ = some ⟨[(1, (V.ptr 1 0 0)), (4, (I 0)), (5, (I 0)), (6, (I 0))], [(1, ⟨false, 4, [(enc_T_api_Form a0)]⟩)], 34⟩ :=
  rE rfl
theorem f41r3 (k : Nat) (a0 : T_api_Form) (x4 : Int) (x5 : Int) (x6 : Int) : RE k f41a3 f41o3 false ⟨[(1, (V.ptr 1 0 0)), (4, (I x4)), (5, (I x5)), (6, (I x6))], [(1, ⟨false, 4, [(enc_T_api_Form a0)]⟩)], 34⟩ = some ⟨[(1, (V.ptr 1 0 0)), (4, (I x4)), (5, (I x5)), (6, (I x6)), (11, (V.bool (decide (x6 < (a0.fFields.length : Int)))))], [(1, ⟨false, 4, [(enc_T_api_Form a0)]⟩)], 34⟩ := by
  refine rg ?_
  refine ra 3 3 ⟨[(1, (V.ptr 1 0 0)), (4, (I x4)), (5, (I x5)), (6, (I x6)), (7, (I x6)), (8, (V.ptr 1 0 3)), (9, (sSlot (a0.fFields)))], [(1, ⟨false, 4, [(enc_T_api_Form a0)]⟩)], 34⟩ rfl rfl rfl ?_
  refine Eq.trans (reg_pure (x := some ()) (w := fun _ => (I (a0.fFields.length : Int))) rfl rfl rfl rfl (p_len (e := enc_T_api_Slot) rfl rfl rfl rfl rfl rfl Go.Proofs.Try.underlying23)) ?_
  refine Eq.trans some_bind ?_
  exact bind_end rfl
theorem f41r5 (k : Nat) (a0 : T_api_Form) (x4 : Int) (x5 : Int) (x6 : Int) : RE k f41a5 f41o5 true ⟨[(1, (V.ptr 1 0 0)), (4, (I x4)), (5, (I x5)), (6, (I x6)), (11, (V.bool true))], [(1, ⟨false, 4, [(enc_T_api_Form a0)]⟩)], 34⟩ = (((idx a0.fFields x6).bind fun v7 => ((idx a0.fFields x6).bind fun v8 => (some ((if (Go.IntKind.wrap .i64 (v7.fIn + 1)) > x4 then (Go.IntKind.wrap .i64 (v7.fIn + 1)) else x4), (if (Go.IntKind.wrap .i64 (v8.fOut + 1)) > x5 then (Go.IntKind.wrap .i64 (v8.fOut + 1)) else x5)))))).map (fun (o : Int × Int) => (⟨[(1, (V.ptr 1 0 0)), (4, (I o.1)), (5, (I o.2)), (6, (I x6))], [(1, ⟨false, 4, [(enc_T_api_Form a0)]⟩)], 34⟩ : St)) := by
  refine Eq.trans (regionE_regp (p := 18) (dk := false) (t := [(1, (V.ptr 1 0 0)), (4, (I x4)), (5, (I x5)), (6, (I x6)), (11, (V.bool true))]) (σ := [(1, ⟨false, 4, [(enc_T_api_Form a0)]⟩)]) (n := 34) rfl (by decide) (by decide) rfl) ?_
  refine Eq.trans (regp_adv (m := 4) (j := 4) (t' := [(1, (V.ptr 1 0 0)), (4, (I x4)), (5, (I x5)), (6, (I x6)), (11, (V.bool true)), (14, (I x4)), (15, (V.ptr 1 0 3)), (16, (sSlot (a0.fFields))), (17, (I x6))]) rfl rfl rfl) ?_
  refine Eq.trans (regp_pure (x := (idx a0.fFields x6)) (w := fun v7 => (V.pro (enc_T_api_Slot v7))) rfl rfl rfl rfl rfl (p_index (e := enc_T_api_Slot) rfl rfl rfl Go.Proofs.Try.underlying23 rfl (by decide))) ?_
  refine bindE (fun v7 => ?_)
  refine Eq.trans (putp_adv (m := 8) (j := 13) (t' := [(1, (V.ptr 1 0 0)), (4, (I x4)), (5, (I x5)), (6, (I x6)), (11, (V.bool true)), (14, (I x4)), (15, (V.ptr 1 0 3)), (16, (sSlot (a0.fFields))), (17, (I x6)), (18, (V.pro (enc_T_api_Slot v7))), (19, (V.pro (I v7.fIn))), (20, (I v7.fIn)), (21, (I (Go.IntKind.wrap .i64 (v7.fIn + 1)))), (22, (I (if (Go.IntKind.wrap .i64 (v7.fIn + 1)) > x4 then (Go.IntKind.wrap .i64 (v7.fIn + 1)) else x4))), (23, (I x5)), (24, (V.ptr 1 0 3)), (25, (sSlot (a0.fFields))), (26, (I x6))]) rfl rfl rfl) ?_
  refine Eq.trans (regp_pure (x := (idx a0.fFields x6)) (w := fun v8 => (V.pro (enc_T_api_Slot v8))) rfl rfl rfl rfl rfl (p_index (e := enc_T_api_Slot) rfl rfl rfl Go.Proofs.Try.underlying23 rfl (by decide))) ?_
  refine bindE (fun v8 => ?_)
  exact regp_end rfl
theorem f41r4 (k : Nat) (a0 : T_api_Form) (x6 : Int) (o9 : Int × Int) : RE k f41a4 f41o4 false ⟨[(1, (V.ptr 1 0 0)), (4, (I o9.1)), (5, (I o9.2)), (6, (I x6))], [(1, ⟨false, 4, [(enc_T_api_Form a0)]⟩)], 34⟩ = some ⟨[(1, (V.ptr 1 0 0)), (4, (I o9.1)), (5, (I o9.2)), (6, (I (Go.IntKind.wrap .i64 (x6 + 1))))], [(1, ⟨false, 4, [(enc_T_api_Form a0)]⟩)], 34⟩ :=
  rE rfl
theorem ref24_lengths_L1_ok (k : Nat) (a0 : T_api_Form)  (K0 : Int → Int → Int → Option (Int × Int)) (Kst : X × St → Option (V × List V)) (hK0 : ∀ (y0 : Int) (y1 : Int) (y2 : Int), Kst (X.exit 0, ⟨[(1, (V.ptr 1 0 0)), (4, (I y0)), (5, (I y1)), (6, (I y2)), (11, (V.bool false))], [(1, ⟨false, 4, [(enc_T_api_Form a0)]⟩)], 34⟩) = (K0 y0 y1 y2).map ref24_lengths_fin) (hret : ∀ s, Kst (X.ret, s) = endK prog 34 [(enc_T_api_Form a0)] [] [.tmp 2, .tmp 3] (X.ret, s)) :
    ∀ (m : Nat) (x4 : Int) (x5 : Int) (x6 : Int), (iter (exec prog (EV k) f41n k f41b0) m ⟨[(1, (V.ptr 1 0 0)), (4, (I x4)), (5, (I x5)), (6, (I x6))], [(1, ⟨false, 4, [(enc_T_api_Form a0)]⟩)], 34⟩).bind Kst = (ref24_lengths_L1 a0 K0 m x4 x5 x6).map ref24_lengths_fin := by
  intro m
  induction m with
  | zero => intros; rfl
  | succ m ih =>
    intro x4 x5 x6
    unfold ref24_lengths_L1
    refine Eq.trans k_round ?_
    refine Eq.trans k_assoc ?_
    refine Eq.trans (k_region0 rfl (f41r3 k a0 x4 x5 x6)) ?_
    refine Eq.trans (k_cond (t := (decide (x6 < (a0.fFields.length : Int)))) rfl rfl) ?_
    refine bifE2 (fun hc => ?_) fun hc => ?_
    · rw [hc]
      refine Eq.trans k_skip ?_
      refine Eq.trans (k_block rfl) ?_
      refine Eq.trans (k_lregion rfl (f41r5 k a0 x4 x5 x6)) ?_
      refine bindE (fun o9 => ?_)
      refine Eq.trans blk_normal ?_
      refine Eq.trans (k_lregion0 rfl (f41r4 k a0 x6 o9)) ?_
      refine Eq.trans loop_normal ?_
      exact ih o9.1 o9.2 (Go.IntKind.wrap .i64 (x6 + 1))
    · rw [hc]
      refine Eq.trans k_exit ?_
      refine Eq.trans loop_exit ?_
      exact hK0 x4 x5 x6
theorem f41r6 (k : Nat) (a0 : T_api_Form) (y10 : Int) (y11 : Int) (y12 : Int) : RE k f41a6 f41o6 false ⟨[(1, (V.ptr 1 0 0)), (4, (I y10)), (5, (I y11)), (6, (I y12)), (11, (V.bool false))], [(1, ⟨false, 4, [(enc_T_api_Form a0)]⟩)], 34⟩ = some ⟨[(2, (I y10)), (3, (I y11))], [], 34⟩ :=
  rE rfl
theorem ref24_lengths_ok (k : Nat) (a0 : T_api_Form) : EV k 41 [(enc_T_api_Form a0)] = (ref24_lengths k a0).map ref24_lengths_fin := by
  cases k with
  | zero => rfl
  | succ k =>
    unfold ref24_lengths
    refine Eq.trans (evF_succ (c := f41c) (N := 34) (regs := f41n) rfl Go.Proofs.Try.func41 rfl (by decide) rfl rfl rfl) ?_
    refine Eq.trans (k_region0 rfl (f41r0 k a0)) ?_
    refine Eq.trans (k_region0 rfl (f41r1 k a0)) ?_
    refine Eq.trans k_assoc ?_
    refine Eq.trans (k_region0 rfl (f41r2 k a0)) ?_
    refine Eq.trans (k_block rfl) ?_
    refine Eq.trans k_loop ?_
    refine ref24_lengths_L1_ok k a0 _ _ ?h_ref24_lengths_L1_0 ?hr_ref24_lengths_L1 k 0 0 0
    · intro y10 y11 y12
      refine Eq.trans blk_exit ?_
      refine Eq.trans (k_region0 rfl (f41r6 k a0 y10 y11 y12)) ?_
      refine Eq.trans k_lret ?_
      rfl
    · intro s; exact rfl
def ref24_isMessage_fin : Bool → V × List V := fun r => ((V.bool r), [])
theorem f36r0 (k : Nat) (a0 : T_api_Form) (a1 : (List Str)) : RE k f36a0 f36o0 false ⟨[(0, (enc_T_api_Form a0)), (1, (V.sl 0 1 (List.map V.str a1)))], [], 37⟩ = some ⟨[(1, (V.sl 0 1 (List.map V.str a1))), (2, (V.ptr 2 0 0))], [(2, ⟨false, 4, [(enc_T_api_Form a0)]⟩)], 37⟩ :=
  rE rfl
theorem f36r1 (k : Nat) (a0 : T_api_Form) (a1 : (List Str)) : RE k f36a1 f36o1 false ⟨[(1, (V.sl 0 1 (List.map V.str a1))), (2, (V.ptr 2 0 0))], [(2, ⟨false, 4, [(enc_T_api_Form a0)]⟩)], 37⟩ = some ⟨[(1, (V.sl 0 1 (List.map V.str a1))), (2, (V.ptr 2 0 0)), (5, (I 0))], [(2, ⟨false, 4, [(enc_T_api_Form a0)]⟩)], 37⟩ :=
  rE rfl
theorem f36r2 (k : Nat) (a0 : T_api_Form) (a1 : (List Str)) (x5 : Int) : RE k f36a2 f36o2 false ⟨[(1, (V.sl 0 1 (List.map V.str a1))), (2, (V.ptr 2 0 0)), (5, (I x5))], [(2, ⟨false, 4, [(enc_T_api_Form a0)]⟩)], 37⟩ = some ⟨[(1, (V.sl 0 1 (List.map V.str a1))), (2, (V.ptr 2 0 0)), (5, (I x5)), (11, (V.bool (decide (x5 < (a1.length : Int)))))], [(2, ⟨false, 4, [(enc_T_api_Form a0)]⟩)], 37⟩ := by
  refine rg ?_
  refine ra 2 2 ⟨[(1, (V.sl 0 1 (List.map V.str a1))), (2, (V.ptr 2 0 0)), (5, (I x5)), (8, (I x5)), (9, (V.sl 0 1 (List.map V.str a1)))], [(2, ⟨false, 4, [(enc_T_api_Form a0)]⟩)], 37⟩ rfl rfl rfl ?_
  refine Eq.trans (reg_pure (x := some ()) (w := fun _ => (I (a1.length : Int))) rfl rfl rfl rfl (p_len (e := V.str) rfl rfl rfl rfl rfl rfl Go.Proofs.Try.underlying26)) ?_
  refine Eq.trans some_bind ?_
  exact bind_end rfl
theorem f36r4 (k : Nat) (a0 : T_api_Form) (a1 : (List Str)) (x5 : Int) : RE k f36a4 f36o4 false ⟨[(1, (V.sl 0 1 (List.map V.str a1))), (2, (V.ptr 2 0 0)), (5, (I x5)), (11, (V.bool true))], [(2, ⟨false, 4, [(enc_T_api_Form a0)]⟩)], 37⟩ = (((idx a1 x5).bind fun v6 => (bif (decide ((v6.length : Int) > 200)) then (some (true)) else ((idx a1 x5).bind fun v7 => ((ref24_IsText k v7).bind fun v8 => (some ((!v8)))))))).map (fun (o : Bool) => (⟨[(1, (V.sl 0 1 (List.map V.str a1))), (2, (V.ptr 2 0 0)), (5, (I x5)), (27, (V.bool o))], [(2, ⟨false, 4, [(enc_T_api_Form a0)]⟩)], 37⟩ : St)) := by
  refine rg ?_
  refine ra 2 2 ⟨[(1, (V.sl 0 1 (List.map V.str a1))), (2, (V.ptr 2 0 0)), (5, (I x5)), (11, (V.bool true)), (14, (V.sl 0 1 (List.map V.str a1))), (15, (I x5))], [(2, ⟨false, 4, [(enc_T_api_Form a0)]⟩)], 37⟩ rfl rfl rfl ?_
  refine Eq.trans (reg_pure (x := (idx a1 x5)) (w := fun v6 => (V.pro (V.str v6))) rfl rfl rfl rfl (p_index (e := V.str) rfl rfl rfl Go.Proofs.Try.underlying26 rfl (by decide))) ?_
  refine bindE (fun v6 => ?_)
  refine ba 4 7 ⟨[(1, (V.sl 0 1 (List.map V.str a1))), (2, (V.ptr 2 0 0)), (5, (I x5)), (11, (V.bool true)), (14, (V.sl 0 1 (List.map V.str a1))), (15, (I x5)), (16, (V.pro (V.str v6))), (17, (V.str v6)), (18, (I (v6.length : Int))), (19, (V.bool (decide ((v6.length : Int) > 200)))), (20, (V.bool (decide ((v6.length : Int) > 200))))], [(2, ⟨false, 4, [(enc_T_api_Form a0)]⟩)], 37⟩ rfl rfl rfl ?_
  refine bifE (c := (decide ((v6.length : Int) > 200))) (fun hc => ?_) fun hc => ?_
  · rw [hc]
    exact reg_end rfl
  · rw [hc]
    refine ra 2 9 ⟨[(1, (V.sl 0 1 (List.map V.str a1))), (2, (V.ptr 2 0 0)), (5, (I x5)), (11, (V.bool true)), (14, (V.sl 0 1 (List.map V.str a1))), (15, (I x5)), (16, (V.pro (V.str v6))), (17, (V.str v6)), (18, (I (v6.length : Int))), (19, (V.bool false)), (20, (V.bool false)), (21, (V.sl 0 1 (List.map V.str a1))), (22, (I x5))], [(2, ⟨false, 4, [(enc_T_api_Form a0)]⟩)], 37⟩ rfl rfl rfl ?_
    refine Eq.trans (reg_pure (x := (idx a1 x5)) (w := fun v7 => (V.pro (V.str v7))) rfl rfl rfl rfl (p_index (e := V.str) rfl rfl rfl Go.Proofs.Try.underlying26 rfl (by decide))) ?_
    refine bindE (fun v7 => ?_)
    refine ba 1 11 ⟨[(1, (V.sl 0 1 (List.map V.str a1))), (2, (V.ptr 2 0 0)), (5, (I x5)), (11, (V.bool true)), (14, (V.sl 0 1 (List.map V.str a1))), (15, (I x5)), (16, (V.pro (V.str v6))), (17, (V.str v6)), (18, (I (v6.length : Int))), (19, (V.bool false)), (20, (V.bool false)), (21, (V.sl 0 1 (List.map V.str a1))), (22, (I x5)), (23, (V.pro (V.str v7))), (24, (V.str v7))], [(2, ⟨false, 4, [(enc_T_api_Form a0)]⟩)], 37⟩ rfl rfl rfl ?_
    refine Eq.trans (reg_pure (x := (ref24_IsText k v7)) (w := fun v8 => (V.bool v8)) rfl rfl rfl rfl (p_call rfl rfl rfl rfl rfl (ref24_IsText_ok k v7) (.inl rfl))) ?_
    refine bindE (fun v8 => ?_)
    exact bind_end rfl
theorem f36r5 (k : Nat) (a0 : T_api_Form) (a1 : (List Str)) (x5 : Int) : RE k f36a5 f36o5 false ⟨[(1, (V.sl 0 1 (List.map V.str a1))), (2, (V.ptr 2 0 0)), (5, (I x5)), (27, (V.bool true))], [(2, ⟨false, 4, [(enc_T_api_Form a0)]⟩)], 37⟩ = some ⟨[(4, (V.bool false))], [], 37⟩ :=
  rE rfl
theorem f36r3 (k : Nat) (a0 : T_api_Form) (a1 : (List Str)) (x5 : Int) : RE k f36a3 f36o3 false ⟨[(1, (V.sl 0 1 (List.map V.str a1))), (2, (V.ptr 2 0 0)), (5, (I x5)), (27, (V.bool false))], [(2, ⟨false, 4, [(enc_T_api_Form a0)]⟩)], 37⟩ = some ⟨[(1, (V.sl 0 1 (List.map V.str a1))), (2, (V.ptr 2 0 0)), (5, (I (Go.IntKind.wrap .i64 (x5 + 1))))], [(2, ⟨false, 4, [(enc_T_api_Form a0)]⟩)], 37⟩ :=
  rE rfl
theorem ref24_isMessage_L1_ok (k : Nat) (a0 : T_api_Form) (a1 : (List Str))  (K0 : Int → Option Bool) (Kst : X × St → Option (V × List V)) (hK0 : ∀ (y0 : Int), Kst (X.exit 0, ⟨[(1, (V.sl 0 1 (List.map V.str a1))), (2, (V.ptr 2 0 0)), (5, (I y0)), (11, (V.bool false))], [(2, ⟨false, 4, [(enc_T_api_Form a0)]⟩)], 37⟩) = (K0 y0).map ref24_isMessage_fin) (hret : ∀ s, Kst (X.ret, s) = endK prog 37 [(enc_T_api_Form a0), (V.sl 0 1 (List.map V.str a1))] [] [.tmp 4] (X.ret, s)) :
    ∀ (m : Nat) (x5 : Int), (iter (exec prog (EV k) f36n k f36b0) m ⟨[(1, (V.sl 0 1 (List.map V.str a1))), (2, (V.ptr 2 0 0)), (5, (I x5))], [(2, ⟨false, 4, [(enc_T_api_Form a0)]⟩)], 37⟩).bind Kst = (ref24_isMessage_L1 k a1 K0 m x5).map ref24_isMessage_fin := by
  intro m
  induction m with
  | zero => intros; rfl
  | succ m ih =>
    intro x5
    unfold ref24_isMessage_L1
    refine Eq.trans k_round ?_
    refine Eq.trans k_assoc ?_
    refine Eq.trans (k_region0 rfl (f36r2 k a0 a1 x5)) ?_
    refine Eq.trans (k_cond (t := (decide (x5 < (a1.length : Int)))) rfl rfl) ?_
    refine bifE2 (fun hc => ?_) fun hc => ?_
    · rw [hc]
      refine Eq.trans k_skip ?_
      refine Eq.trans (k_block rfl) ?_
      refine Eq.trans (k_region rfl (f36r4 k a0 a1 x5)) ?_
      refine bindE (fun o9 => ?_)
      refine Eq.trans (k_lcond (t := o9) rfl rfl) ?_
      refine bifE2 (fun hc => ?_) fun hc => ?_
      · rw [hc]
        refine Eq.trans (k_region0 rfl (f36r5 k a0 a1 x5)) ?_
        refine Eq.trans k_lret ?_
        refine Eq.trans blk_ret ?_
        refine Eq.trans loop_ret ?_
        refine Eq.trans (hret _) ?_
        rfl
      · rw [hc]
        refine Eq.trans k_lskip ?_
        refine Eq.trans blk_normal ?_
        refine Eq.trans (k_lregion0 rfl (f36r3 k a0 a1 x5)) ?_
        refine Eq.trans loop_normal ?_
        exact ih (Go.IntKind.wrap .i64 (x5 + 1))
    · rw [hc]
      refine Eq.trans k_exit ?_
      refine Eq.trans loop_exit ?_
      exact hK0 x5
theorem f36r6 (k : Nat) (a0 : T_api_Form) (a1 : (List Str)) (y10 : Int) : RE k f36a6 f36o6 false ⟨[(1, (V.sl 0 1 (List.map V.str a1))), (2, (V.ptr 2 0 0)), (5, (I y10)), (11, (V.bool false))], [(2, ⟨false, 4, [(enc_T_api_Form a0)]⟩)], 37⟩ = (((ref24_lengths k a0).bind fun v11 => (some (v11.2)))).map (fun (o : Int) => (⟨[(1, (V.sl 0 1 (List.map V.str a1))), (7, (I o))], [], 37⟩ : St)) := by
  refine rg ?_
  refine ra 1 1 ⟨[(1, (V.sl 0 1 (List.map V.str a1))), (2, (V.ptr 2 0 0)), (5, (I y10)), (11, (V.bool false)), (29, (enc_T_api_Form a0))], [(2, ⟨false, 4, [(enc_T_api_Form a0)]⟩)], 37⟩ rfl rfl rfl ?_
  refine Eq.trans (reg_pure (x := (ref24_lengths k a0)) (w := fun v11 => (V.tup [(I v11.1), (I v11.2)])) rfl rfl rfl rfl (p_call rfl rfl rfl rfl rfl (ref24_lengths_ok k a0) (.inl rfl))) ?_
  refine bindE (fun v11 => ?_)
  exact bind_end rfl
theorem f36r7 (k : Nat) (a1 : (List Str)) (o12 : Int) : RE k f36a7 f36o7 false ⟨[(1, (V.sl 0 1 (List.map V.str a1))), (7, (I o12))], [], 37⟩ = some ⟨[(4, (V.bool ((a1.length : Int) == o12)))], [], 37⟩ := by
  refine rg ?_
  refine ra 1 1 ⟨[(1, (V.sl 0 1 (List.map V.str a1))), (7, (I o12)), (33, (V.sl 0 1 (List.map V.str a1)))], [], 37⟩ rfl rfl rfl ?_
  refine Eq.trans (reg_pure (x := some ()) (w := fun _ => (I (a1.length : Int))) rfl rfl rfl rfl (p_len (e := V.str) rfl rfl rfl rfl rfl rfl Go.Proofs.Try.underlying26)) ?_
  refine Eq.trans some_bind ?_
  exact bind_end rfl
theorem ref24_isMessage_ok (k : Nat) (a0 : T_api_Form) (a1 : (List Str)) : EV k 36 [(enc_T_api_Form a0), (V.sl 0 1 (List.map V.str a1))] = (ref24_isMessage k a0 a1).map ref24_isMessage_fin := by
  cases k with
  | zero => rfl
  | succ k =>
    unfold ref24_isMessage
    refine Eq.trans (evF_succ (c := f36c) (N := 37) (regs := f36n) rfl Go.Proofs.Try.func36 rfl (by decide) rfl rfl rfl) ?_
    refine Eq.trans (k_region0 rfl (f36r0 k a0 a1)) ?_
    refine Eq.trans k_assoc ?_
    refine Eq.trans (k_region0 rfl (f36r1 k a0 a1)) ?_
    refine Eq.trans (k_block rfl) ?_
    refine Eq.trans k_loop ?_
    refine ref24_isMessage_L1_ok k a0 a1 _ _ ?h_ref24_isMessage_L1_0 ?hr_ref24_isMessage_L1 k 0
    · intro y10
      refine Eq.trans blk_exit ?_
      refine Eq.trans (k_region rfl (f36r6 k a0 a1 y10)) ?_
      refine bindE (fun o12 => ?_)
      refine Eq.trans (k_region0 rfl (f36r7 k a1 o12)) ?_
      refine Eq.trans k_lret ?_
      rfl
    · intro s; exact rfl
def ref24_filled_fin : Str → V × List V := fun r => ((V.str r), [])
theorem f52r0 (k : Nat) (a0 : Str) (a1 : Int) (a2 : Int) : RE k f52a0 f52o0 false ⟨[(0, (V.str a0)), (1, (I a1)), (2, (V.int .u8 a2))], [], 19⟩ = some ⟨[(0, (V.str a0)), (1, (I a1)), (2, (V.int .u8 a2))], [], 19⟩ :=
  rE rfl
theorem f52r1 (k : Nat) (a1 : Int) (a2 : Int) (x3 : Str) : RE k f52a1 f52o1 false ⟨[(0, (V.str x3)), (1, (I a1)), (2, (V.int .u8 a2))], [], 19⟩ = some ⟨[(0, (V.str x3)), (1, (I a1)), (2, (V.int .u8 a2)), (10, (V.bool (decide ((x3.length : Int) < a1))))], [], 19⟩ :=
  rE rfl
theorem f52r2 (k : Nat) (a1 : Int) (a2 : Int) (x3 : Str) : RE k f52a2 f52o2 false ⟨[(0, (V.str x3)), (1, (I a1)), (2, (V.int .u8 a2)), (10, (V.bool true))], [], 19⟩ = ((cat x3 (Go.AE.strB ([a2] : List Int)))).map (fun (o : Str) => (⟨[(0, (V.str o)), (1, (I a1)), (2, (V.int .u8 a2))], [], 19⟩ : St)) := by
  refine rg ?_
  refine ra 3 3 ⟨[(0, (V.str x3)), (1, (I a1)), (2, (V.int .u8 a2)), (10, (V.bool true)), (11, (V.str x3)), (12, (V.int .u8 a2)), (13, (V.sl 0 1 (List.map (V.int .u8) ([a2] : List Int))))], [], 19⟩ rfl rfl rfl ?_
  refine Eq.trans (reg_pure (x := some ()) (w := fun _ => (V.str (Go.AE.strB ([a2] : List Int)))) rfl rfl rfl rfl (p_convBS (l := ([a2] : List Int)) rfl rfl Go.Proofs.Try.underlying92 Go.Proofs.Try.underlying9 Go.Proofs.Try.underlying5)) ?_
  refine Eq.trans some_bind ?_
  refine ba 0 4 ⟨[(0, (V.str x3)), (1, (I a1)), (2, (V.int .u8 a2)), (10, (V.bool true)), (11, (V.str x3)), (12, (V.int .u8 a2)), (13, (V.sl 0 1 (List.map (V.int .u8) ([a2] : List Int)))), (14, (V.str (Go.AE.strB ([a2] : List Int))))], [], 19⟩ rfl rfl rfl ?_
  refine Eq.trans (reg_pure (x := (cat x3 (Go.AE.strB ([a2] : List Int)))) (w := fun v4 => (V.str v4)) rfl rfl rfl rfl (p_cat rfl rfl rfl)) ?_
  refine bind_self (fun v4 => ?_)
  exact bind_end rfl
theorem ref24_filled_L1_ok (k : Nat) (a0 : Str) (a1 : Int) (a2 : Int)  (K0 : Str → Option Str) (Kst : X × St → Option (V × List V)) (hK0 : ∀ (y0 : Str), Kst (X.exit 0, ⟨[(0, (V.str y0)), (1, (I a1)), (2, (V.int .u8 a2)), (10, (V.bool false))], [], 19⟩) = (K0 y0).map ref24_filled_fin) (hret : ∀ s, Kst (X.ret, s) = endK prog 19 [(V.str a0), (I a1), (V.int .u8 a2)] [] [.tmp 6] (X.ret, s)) :
    ∀ (m : Nat) (x3 : Str), (iter (exec prog (EV k) f52n k f52b0) m ⟨[(0, (V.str x3)), (1, (I a1)), (2, (V.int .u8 a2))], [], 19⟩).bind Kst = (ref24_filled_L1 a1 a2 K0 m x3).map ref24_filled_fin := by
  intro m
  induction m with
  | zero => intros; rfl
  | succ m ih =>
    intro x3
    unfold ref24_filled_L1
    refine Eq.trans k_round ?_
    refine Eq.trans k_assoc ?_
    refine Eq.trans (k_region0 rfl (f52r1 k a1 a2 x3)) ?_
    refine Eq.trans (k_cond (t := (decide ((x3.length : Int) < a1))) rfl rfl) ?_
    refine bifE2 (fun hc => ?_) fun hc => ?_
    · rw [hc]
      refine Eq.trans k_skip ?_
      refine Eq.trans (k_lblock rfl) ?_
      refine Eq.trans (k_lregion rfl (f52r2 k a1 a2 x3)) ?_
      refine bindE (fun o5 => ?_)
      refine Eq.trans blk_normal ?_
      refine Eq.trans k_lskip ?_
      refine Eq.trans loop_normal ?_
      exact ih o5
    · rw [hc]
      refine Eq.trans k_exit ?_
      refine Eq.trans loop_exit ?_
      exact hK0 x3
theorem f52r3 (k : Nat) (a1 : Int) (a2 : Int) (y6 : Str) : RE k f52a3 f52o3 false ⟨[(0, (V.str y6)), (1, (I a1)), (2, (V.int .u8 a2)), (10, (V.bool false))], [], 19⟩ = ((cut y6 0 a1)).map (fun (o : Str) => (⟨[(6, (V.str o))], [], 19⟩ : St)) := by
  refine rg ?_
  refine ra 2 2 ⟨[(0, (V.str y6)), (1, (I a1)), (2, (V.int .u8 a2)), (10, (V.bool false)), (16, (V.str y6)), (17, (I a1))], [], 19⟩ rfl rfl rfl ?_
  refine Eq.trans (reg_pure (x := (cut y6 0 a1)) (w := fun v7 => (V.str v7)) rfl rfl rfl rfl (p_sliceS rfl rfl rfl rfl rfl rfl Go.Proofs.Try.underlying9)) ?_
  refine bind_self (fun v7 => ?_)
  exact bind_end rfl
theorem ref24_filled_ok (k : Nat) (a0 : Str) (a1 : Int) (a2 : Int) : EV k 52 [(V.str a0), (I a1), (V.int .u8 a2)] = (ref24_filled k a0 a1 a2).map ref24_filled_fin := by
  cases k with
  | zero => rfl
  | succ k =>
    unfold ref24_filled
    refine Eq.trans (evF_succ (c := f52c) (N := 19) (regs := f52n) rfl Go.Proofs.Try.func52 rfl (by decide) rfl rfl rfl) ?_
    refine Eq.trans (k_region0 rfl (f52r0 k a0 a1 a2)) ?_
    refine Eq.trans (k_block rfl) ?_
    refine Eq.trans k_loop ?_
    refine ref24_filled_L1_ok k a0 a1 a2 _ _ ?h_ref24_filled_L1_0 ?hr_ref24_filled_L1 k a0
    · intro y6
      refine Eq.trans blk_exit ?_
      refine Eq.trans (k_region rfl (f52r3 k a1 a2 y6)) ?_
      refine bindE (fun o8 => ?_)
      refine Eq.trans k_lret ?_
      rfl
    · intro s; exact rfl
def ref24_laid_fin : (List Str) → V × List V := fun r => ((V.sl 0 1 (List.map V.str r)), [])
theorem f51r0 (k : Nat) (a0 : (List Str)) (a1 : Int) (a2 : Int) (a3 : Str) : RE k f51a0 f51o0 false ⟨[(0, (V.sl 0 1 (List.map V.str a0))), (1, (I a1)), (2, (I a2)), (3, (V.str a3))], [], 35⟩ = some ⟨[(0, (V.sl 0 1 (List.map V.str a0))), (1, (I a1)), (2, (I a2)), (3, (V.str a3))], [], 35⟩ :=
  rE rfl
theorem f51r1 (k : Nat) (a0 : (List Str)) (a1 : Int) (a2 : Int) (a3 : Str) : RE k f51a1 f51o1 false ⟨[(0, (V.sl 0 1 (List.map V.str a0))), (1, (I a1)), (2, (I a2)), (3, (V.str a3))], [], 35⟩ = ((app ([] : List Str) a0)).map (fun (o : (List Str)) => (⟨[(1, (I a1)), (2, (I a2)), (3, (V.str a3)), (9, (V.aref 10 0 (List.map V.str o).length)), (10, V.undef)], [(10, ⟨true, 1, List.map V.str o⟩)], 35⟩ : St)) := by
  refine rg ?_
  refine ra 2 2 ⟨[(0, (V.sl 0 1 (List.map V.str a0))), (1, (I a1)), (2, (I a2)), (3, (V.str a3)), (10, (V.aref 10 0 (List.map V.str ([] : List Str)).length)), (11, (V.sl 0 1 (List.map V.str a0)))], [(10, ⟨true, 1, List.map V.str ([] : List Str)⟩)], 35⟩ rfl rfl rfl ?_
  refine Eq.trans (reg_eff (x := (app ([] : List Str) a0)) (w := fun v1 => ((V.aref 10 0 (List.map V.str v1).length), _)) rfl rfl rfl rfl (p_appF (e := V.str) (l := ([] : List Str)) rfl rfl rfl rfl rfl rfl rfl rfl rfl rfl rfl (of_decide_eq_true rfl))) ?_
  refine bind_self (fun v1 => ?_)
  exact bind_end rfl
theorem f51r2 (k : Nat) (a1 : Int) (a2 : Int) (a3 : Str) (o2 : (List Str)) : RE k f51a2 f51o2 true ⟨[(1, (I a1)), (2, (I a2)), (3, (V.str a3)), (9, (V.aref 10 0 (List.map V.str o2).length)), (10, V.undef)], [(10, ⟨true, 1, List.map V.str o2⟩)], 35⟩ = (((inB o2.length a1).bind fun v3 => ((o2[0 + a1.toNat]?).bind fun v4 => ((cut v4 0 a2).bind fun v5 => ((cat v5 a3).bind fun v6 => ((inB o2.length a1).bind fun v7 => ((o2[0 + a1.toNat]?).bind fun v8 => ((cut v8 (Go.IntKind.wrap .i64 (a2 + (a3.length : Int))) (v8.length : Int)).bind fun v9 => ((cat v6 v9).bind fun v10 => ((inB o2.length a1).bind fun v11 => ((o2[0 + a1.toNat]?).bind fun v12 => (some ((o2.set (0 + a1.toNat) v10)))))))))))))).map (fun (o : (List Str)) => (⟨[(9, (V.aref 10 0 (List.map V.str o).length)), (10, V.undef)], [(10, ⟨true, 1, List.map V.str o⟩)], 35⟩ : St)) := by
  refine Eq.trans (regionE_regp (p := 21) (dk := true) (t := [(1, (I a1)), (2, (I a2)), (3, (V.str a3)), (9, (V.aref 10 0 (List.map V.str o2).length)), (10, V.undef)]) (σ := [(10, ⟨true, 1, List.map V.str o2⟩)]) (n := 35) rfl (by decide) (by decide) rfl) ?_
  refine Eq.trans (regp_adv (m := 4) (j := 4) (t' := [(1, (I a1)), (2, (I a2)), (3, (V.str a3)), (9, (V.aref 10 0 (List.map V.str o2).length)), (10, V.undef), (13, (V.aref 10 0 (List.map V.str o2).length)), (14, (I a1)), (15, (V.aref 10 0 (List.map V.str o2).length)), (16, (I a1))]) rfl rfl rfl) ?_
  refine Eq.trans (regp_pure (x := (inB o2.length a1)) (w := fun v3 => (V.ptr 10 (0 + a1.toNat) 0)) rfl rfl rfl rfl rfl (p_indexF (e := V.str) rfl rfl rfl Go.Proofs.Try.underlying26 rfl rfl (by decide))) ?_
  refine bindE (fun v3 => ?_)
  refine Eq.trans (putp_adv (m := 0) (j := 5) (t' := [(1, (I a1)), (2, (I a2)), (3, (V.str a3)), (9, (V.aref 10 0 (List.map V.str o2).length)), (10, V.undef), (13, (V.aref 10 0 (List.map V.str o2).length)), (14, (I a1)), (15, (V.aref 10 0 (List.map V.str o2).length)), (16, (I a1)), (17, (V.ptr 10 (0 + a1.toNat) 0))]) rfl rfl rfl) ?_
  refine Eq.trans (regp_pure (x := (o2[0 + a1.toNat]?)) (w := fun v4 => (V.str v4)) rfl rfl rfl rfl rfl (p_loadA (e := V.str) rfl rfl rfl (fun _ => rfl) (fun _ => rfl))) ?_
  refine bindE (fun v4 => ?_)
  refine Eq.trans (putp_adv (m := 1) (j := 7) (t' := [(1, (I a1)), (2, (I a2)), (3, (V.str a3)), (9, (V.aref 10 0 (List.map V.str o2).length)), (10, V.undef), (13, (V.aref 10 0 (List.map V.str o2).length)), (14, (I a1)), (15, (V.aref 10 0 (List.map V.str o2).length)), (16, (I a1)), (17, (V.ptr 10 (0 + a1.toNat) 0)), (18, (V.str v4)), (19, (I a2))]) rfl rfl rfl) ?_
  refine Eq.trans (regp_pure (x := (cut v4 0 a2)) (w := fun v5 => (V.str v5)) rfl rfl rfl rfl rfl (p_sliceS rfl rfl rfl rfl rfl rfl Go.Proofs.Try.underlying9)) ?_
  refine bindE (fun v5 => ?_)
  refine Eq.trans (putp_adv (m := 1) (j := 9) (t' := [(1, (I a1)), (2, (I a2)), (3, (V.str a3)), (9, (V.aref 10 0 (List.map V.str o2).length)), (10, V.undef), (13, (V.aref 10 0 (List.map V.str o2).length)), (14, (I a1)), (15, (V.aref 10 0 (List.map V.str o2).length)), (16, (I a1)), (17, (V.ptr 10 (0 + a1.toNat) 0)), (18, (V.str v4)), (19, (I a2)), (20, (V.str v5)), (21, (V.str a3))]) rfl rfl rfl) ?_
  refine Eq.trans (regp_pure (x := (cat v5 a3)) (w := fun v6 => (V.str v6)) rfl rfl rfl rfl rfl (p_cat rfl rfl rfl)) ?_
  refine bindE (fun v6 => ?_)
  refine Eq.trans (putp_adv (m := 2) (j := 12) (t' := [(1, (I a1)), (2, (I a2)), (3, (V.str a3)), (9, (V.aref 10 0 (List.map V.str o2).length)), (10, V.undef), (13, (V.aref 10 0 (List.map V.str o2).length)), (14, (I a1)), (15, (V.aref 10 0 (List.map V.str o2).length)), (16, (I a1)), (17, (V.ptr 10 (0 + a1.toNat) 0)), (18, (V.str v4)), (19, (I a2)), (20, (V.str v5)), (21, (V.str a3)), (22, (V.str v6)), (23, (V.aref 10 0 (List.map V.str o2).length)), (24, (I a1))]) rfl rfl rfl) ?_
  refine Eq.trans (regp_pure (x := (inB o2.length a1)) (w := fun v7 => (V.ptr 10 (0 + a1.toNat) 0)) rfl rfl rfl rfl rfl (p_indexF (e := V.str) rfl rfl rfl Go.Proofs.Try.underlying26 rfl rfl (by decide))) ?_
  refine bindE (fun v7 => ?_)
  refine Eq.trans (putp_adv (m := 0) (j := 13) (t' := [(1, (I a1)), (2, (I a2)), (3, (V.str a3)), (9, (V.aref 10 0 (List.map V.str o2).length)), (10, V.undef), (13, (V.aref 10 0 (List.map V.str o2).length)), (14, (I a1)), (15, (V.aref 10 0 (List.map V.str o2).length)), (16, (I a1)), (17, (V.ptr 10 (0 + a1.toNat) 0)), (18, (V.str v4)), (19, (I a2)), (20, (V.str v5)), (21, (V.str a3)), (22, (V.str v6)), (23, (V.aref 10 0 (List.map V.str o2).length)), (24, (I a1)), (25, (V.ptr 10 (0 + a1.toNat) 0))]) rfl rfl rfl) ?_
  refine Eq.trans (regp_pure (x := (o2[0 + a1.toNat]?)) (w := fun v8 => (V.str v8)) rfl rfl rfl rfl rfl (p_loadA (e := V.str) rfl rfl rfl (fun _ => rfl) (fun _ => rfl))) ?_
  refine bindE (fun v8 => ?_)
  refine Eq.trans (putp_adv (m := 4) (j := 18) (t' := [(1, (I a1)), (2, (I a2)), (3, (V.str a3)), (9, (V.aref 10 0 (List.map V.str o2).length)), (10, V.undef), (13, (V.aref 10 0 (List.map V.str o2).length)), (14, (I a1)), (15, (V.aref 10 0 (List.map V.str o2).length)), (16, (I a1)), (17, (V.ptr 10 (0 + a1.toNat) 0)), (18, (V.str v4)), (19, (I a2)), (20, (V.str v5)), (21, (V.str a3)), (22, (V.str v6)), (23, (V.aref 10 0 (List.map V.str o2).length)), (24, (I a1)), (25, (V.ptr 10 (0 + a1.toNat) 0)), (26, (V.str v8)), (27, (I a2)), (28, (V.str a3)), (29, (I (a3.length : Int))), (30, (I (Go.IntKind.wrap .i64 (a2 + (a3.length : Int)))))]) rfl rfl rfl) ?_
  refine Eq.trans (regp_pure (x := (cut v8 (Go.IntKind.wrap .i64 (a2 + (a3.length : Int))) (v8.length : Int))) (w := fun v9 => (V.str v9)) rfl rfl rfl rfl rfl (p_sliceS rfl rfl rfl rfl rfl rfl Go.Proofs.Try.underlying9)) ?_
  refine bindE (fun v9 => ?_)
  refine Eq.trans (putp_adv (m := 0) (j := 19) (t' := [(1, (I a1)), (2, (I a2)), (3, (V.str a3)), (9, (V.aref 10 0 (List.map V.str o2).length)), (10, V.undef), (13, (V.aref 10 0 (List.map V.str o2).length)), (14, (I a1)), (15, (V.aref 10 0 (List.map V.str o2).length)), (16, (I a1)), (17, (V.ptr 10 (0 + a1.toNat) 0)), (18, (V.str v4)), (19, (I a2)), (20, (V.str v5)), (21, (V.str a3)), (22, (V.str v6)), (23, (V.aref 10 0 (List.map V.str o2).length)), (24, (I a1)), (25, (V.ptr 10 (0 + a1.toNat) 0)), (26, (V.str v8)), (27, (I a2)), (28, (V.str a3)), (29, (I (a3.length : Int))), (30, (I (Go.IntKind.wrap .i64 (a2 + (a3.length : Int))))), (31, (V.str v9))]) rfl rfl rfl) ?_
  refine Eq.trans (regp_pure (x := (cat v6 v9)) (w := fun v10 => (V.str v10)) rfl rfl rfl rfl rfl (p_cat rfl rfl rfl)) ?_
  refine bindE (fun v10 => ?_)
  refine Eq.trans (putp_adv (m := 0) (j := 20) (t' := [(1, (I a1)), (2, (I a2)), (3, (V.str a3)), (9, (V.aref 10 0 (List.map V.str o2).length)), (10, V.undef), (13, (V.aref 10 0 (List.map V.str o2).length)), (14, (I a1)), (15, (V.aref 10 0 (List.map V.str o2).length)), (16, (I a1)), (17, (V.ptr 10 (0 + a1.toNat) 0)), (18, (V.str v4)), (19, (I a2)), (20, (V.str v5)), (21, (V.str a3)), (22, (V.str v6)), (23, (V.aref 10 0 (List.map V.str o2).length)), (24, (I a1)), (25, (V.ptr 10 (0 + a1.toNat) 0)), (26, (V.str v8)), (27, (I a2)), (28, (V.str a3)), (29, (I (a3.length : Int))), (30, (I (Go.IntKind.wrap .i64 (a2 + (a3.length : Int))))), (31, (V.str v9)), (32, (V.str v10))]) rfl rfl rfl) ?_
  refine Eq.trans (regp_pure (x := (inB o2.length a1)) (w := fun v11 => (V.ptr 10 (0 + a1.toNat) 0)) rfl rfl rfl rfl rfl (p_indexF (e := V.str) rfl rfl rfl Go.Proofs.Try.underlying26 rfl rfl (by decide))) ?_
  refine bindE (fun v11 => ?_)
  refine Eq.trans (regp_reg (m := 0) (j := 21) (st' := ⟨[(1, (I a1)), (2, (I a2)), (3, (V.str a3)), (9, (V.aref 10 0 (List.map V.str o2).length)), (10, V.undef), (13, (V.aref 10 0 (List.map V.str o2).length)), (14, (I a1)), (15, (V.aref 10 0 (List.map V.str o2).length)), (16, (I a1)), (17, (V.ptr 10 (0 + a1.toNat) 0)), (18, (V.str v4)), (19, (I a2)), (20, (V.str v5)), (21, (V.str a3)), (22, (V.str v6)), (23, (V.aref 10 0 (List.map V.str o2).length)), (24, (I a1)), (25, (V.ptr 10 (0 + a1.toNat) 0)), (26, (V.str v8)), (27, (I a2)), (28, (V.str a3)), (29, (I (a3.length : Int))), (30, (I (Go.IntKind.wrap .i64 (a2 + (a3.length : Int))))), (31, (V.str v9)), (32, (V.str v10)), (33, (V.ptr 10 (0 + a1.toNat) 0))], [(10, ⟨true, 1, List.map V.str o2⟩)], 35⟩) rfl rfl rfl) ?_
  refine Eq.trans (reg_eff (x := (o2[0 + a1.toNat]?)) (w := fun _ => (V.tup [], _)) rfl rfl rfl rfl (p_storeL (S := (fun n_ => ⟨[(1, (I a1)), (2, (I a2)), (3, (V.str a3)), (9, (V.aref 10 0 n_)), (10, V.undef), (13, (V.aref 10 0 n_)), (14, (I a1)), (15, (V.aref 10 0 n_)), (16, (I a1)), (17, (V.ptr 10 (0 + a1.toNat) 0)), (18, (V.str v4)), (19, (I a2)), (20, (V.str v5)), (21, (V.str a3)), (22, (V.str v6)), (23, (V.aref 10 0 n_)), (24, (I a1)), (25, (V.ptr 10 (0 + a1.toNat) 0)), (26, (V.str v8)), (27, (I a2)), (28, (V.str a3)), (29, (I (a3.length : Int))), (30, (I (Go.IntKind.wrap .i64 (a2 + (a3.length : Int))))), (31, (V.str v9)), (32, (V.str v10)), (33, (V.ptr 10 (0 + a1.toNat) 0))], [(10, ⟨true, 1, List.map V.str o2⟩)], 35⟩)) (e := V.str) (l := o2) (v := v10) rfl rfl rfl rfl rfl rfl rfl rfl rfl rfl (fun _ => rfl))) ?_
  refine bindE (fun v12 => ?_)
  exact bind_end rfl
theorem f51r3 (k : Nat) (o13 : (List Str)) : RE k f51a3 f51o3 false ⟨[(9, (V.aref 10 0 (List.map V.str o13).length)), (10, V.undef)], [(10, ⟨true, 1, List.map V.str o13⟩)], 35⟩ = some ⟨[(8, (V.sl 0 1 (List.map V.str o13)))], [], 35⟩ := by
  refine rg ?_
  refine ra 1 1 ⟨[(9, (V.aref 10 0 (List.map V.str o13).length)), (10, V.undef), (34, (V.aref 10 0 (List.map V.str o13).length))], [(10, ⟨true, 1, List.map V.str o13⟩)], 35⟩ rfl rfl rfl ?_
  refine Eq.trans (reg_eff (x := some ()) (w := fun _ => ((V.sl 2 1 (List.map V.str o13)), _)) rfl rfl rfl rfl (p_close (e := V.str) rfl rfl rfl rfl rfl (of_decide_eq_true rfl))) ?_
  refine Eq.trans some_bind ?_
  exact bind_end rfl
theorem ref24_laid_ok (k : Nat) (a0 : (List Str)) (a1 : Int) (a2 : Int) (a3 : Str) : EV k 51 [(V.sl 0 1 (List.map V.str a0)), (I a1), (I a2), (V.str a3)] = (ref24_laid k a0 a1 a2 a3).map ref24_laid_fin := by
  cases k with
  | zero => rfl
  | succ k =>
    unfold ref24_laid
    refine Eq.trans (evF_succ (c := f51c) (N := 35) (regs := f51n) rfl Go.Proofs.Try.func51 rfl (by decide) rfl rfl rfl) ?_
    refine Eq.trans (k_region0 rfl (f51r0 k a0 a1 a2 a3)) ?_
    refine Eq.trans (k_region rfl (f51r1 k a0 a1 a2 a3)) ?_
    refine bindE (fun o2 => ?_)
    refine Eq.trans (k_region rfl (f51r2 k a1 a2 a3 o2)) ?_
    refine bindE (fun o13 => ?_)
    refine Eq.trans (k_region0 rfl (f51r3 k o13)) ?_
    refine Eq.trans k_lret ?_
    rfl
def ref24_marked_fin : (List Str) → V × List V := fun r => ((V.sl 0 1 (List.map V.str r)), [])
theorem f45r0 (k : Nat) (a0 : T_api_Form) : RE k f45a0 f45o0 false ⟨[(0, (enc_T_api_Form a0))], [], 46⟩ = some ⟨[(1, (V.ptr 1 0 0))], [(1, ⟨false, 4, [(enc_T_api_Form a0)]⟩)], 46⟩ :=
  rE rfl
theorem f45r1 (k : Nat) (a0 : T_api_Form) : RE k f45a1 f45o1 false ⟨[(1, (V.ptr 1 0 0))], [(1, ⟨false, 4, [(enc_T_api_Form a0)]⟩)], 46⟩ = some ⟨[(1, (V.ptr 1 0 0)), (3, (V.sl 1 1 (List.map V.str ([] : List Str))))], [(1, ⟨false, 4, [(enc_T_api_Form a0)]⟩)], 46⟩ :=
  rE rfl
theorem f45r2 (k : Nat) (a0 : T_api_Form) : RE k f45a2 f45o2 false ⟨[(1, (V.ptr 1 0 0)), (3, (V.sl 1 1 (List.map V.str ([] : List Str))))], [(1, ⟨false, 4, [(enc_T_api_Form a0)]⟩)], 46⟩ = some ⟨[(1, (V.ptr 1 0 0)), (3, (V.sl 1 1 (List.map V.str ([] : List Str)))), (4, (I 0))], [(1, ⟨false, 4, [(enc_T_api_Form a0)]⟩)], 46⟩ :=
  rE rfl
theorem f45r3 (k : Nat) (a0 : T_api_Form) (x4 : (List Str)) (x5 : Int) : RE k f45a3 f45o3 false ⟨[(1, (V.ptr 1 0 0)), (3, (V.sl 1 1 (List.map V.str x4))), (4, (I x5))], [(1, ⟨false, 4, [(enc_T_api_Form a0)]⟩)], 46⟩ = some ⟨[(1, (V.ptr 1 0 0)), (3, (V.sl 1 1 (List.map V.str x4))), (4, (I x5)), (9, (V.bool (decide (x5 < a0.fRows))))], [(1, ⟨false, 4, [(enc_T_api_Form a0)]⟩)], 46⟩ :=
  rE rfl
theorem f45r5 (k : Nat) (a0 : T_api_Form) (x4 : (List Str)) (x5 : Int) : RE k f45a5 f45o5 false ⟨[(1, (V.ptr 1 0 0)), (3, (V.sl 1 1 (List.map V.str x4))), (4, (I x5)), (9, (V.bool true))], [(1, ⟨false, 4, [(enc_T_api_Form a0)]⟩)], 46⟩ = (((ref24_filled k ([] : Str) a0.fColumns 32).bind fun v6 => (app x4 ([v6] : List Str)))).map (fun (o : (List Str)) => (⟨[(1, (V.ptr 1 0 0)), (3, (V.sl 1 1 (List.map V.str o))), (4, (I x5))], [(1, ⟨false, 4, [(enc_T_api_Form a0)]⟩)], 46⟩ : St)) := by
  refine rg ?_
  refine ra 3 3 ⟨[(1, (V.ptr 1 0 0)), (3, (V.sl 0 1 (List.map V.str x4))), (4, (I x5)), (9, (V.bool true)), (12, (V.sl 1 1 (List.map V.str x4))), (13, (V.ptr 1 0 1)), (14, (I a0.fColumns))], [(1, ⟨false, 4, [(enc_T_api_Form a0)]⟩)], 46⟩ rfl rfl rfl ?_
  refine Eq.trans (reg_pure (x := (ref24_filled k ([] : Str) a0.fColumns 32)) (w := fun v6 => (V.str v6)) rfl rfl rfl rfl (p_call rfl rfl rfl rfl rfl (ref24_filled_ok k ([] : Str) a0.fColumns 32) (.inl rfl))) ?_
  refine bindE (fun v6 => ?_)
  refine ba 1 5 ⟨[(1, (V.ptr 1 0 0)), (3, (V.sl 0 1 (List.map V.str x4))), (4, (I x5)), (9, (V.bool true)), (12, (V.sl 1 1 (List.map V.str x4))), (13, (V.ptr 1 0 1)), (14, (I a0.fColumns)), (15, (V.str v6)), (16, (V.sl 0 1 (List.map V.str ([v6] : List Str))))], [(1, ⟨false, 4, [(enc_T_api_Form a0)]⟩)], 46⟩ rfl rfl rfl ?_
  refine Eq.trans (reg_eff (x := (app x4 ([v6] : List Str))) (w := fun v7 => ((V.sl 1 1 (List.map V.str v7)), _)) rfl rfl rfl rfl (p_app (e := V.str) rfl rfl rfl rfl rfl rfl rfl rfl rfl rfl (by decide))) ?_
  refine bind_self (fun v7 => ?_)
  exact bind_end rfl
theorem f45r4 (k : Nat) (a0 : T_api_Form) (x5 : Int) (o8 : (List Str)) : RE k f45a4 f45o4 false ⟨[(1, (V.ptr 1 0 0)), (3, (V.sl 1 1 (List.map V.str o8))), (4, (I x5))], [(1, ⟨false, 4, [(enc_T_api_Form a0)]⟩)], 46⟩ = some ⟨[(1, (V.ptr 1 0 0)), (3, (V.sl 1 1 (List.map V.str o8))), (4, (I (Go.IntKind.wrap .i64 (x5 + 1))))], [(1, ⟨false, 4, [(enc_T_api_Form a0)]⟩)], 46⟩ :=
  rE rfl
theorem ref24_marked_L1_ok (k : Nat) (a0 : T_api_Form)  (K0 : (List Str) → Int → Option (List Str)) (Kst : X × St → Option (V × List V)) (hK0 : ∀ (y0 : (List Str)) (y1 : Int), Kst (X.exit 0, ⟨[(1, (V.ptr 1 0 0)), (3, (V.sl 1 1 (List.map V.str y0))), (4, (I y1)), (9, (V.bool false))], [(1, ⟨false, 4, [(enc_T_api_Form a0)]⟩)], 46⟩) = (K0 y0 y1).map ref24_marked_fin) (hret : ∀ s, Kst (X.ret, s) = endK prog 46 [(enc_T_api_Form a0)] [] [.tmp 2] (X.ret, s)) :
    ∀ (m : Nat) (x4 : (List Str)) (x5 : Int), (iter (exec prog (EV k) f45n k f45b0) m ⟨[(1, (V.ptr 1 0 0)), (3, (V.sl 1 1 (List.map V.str x4))), (4, (I x5))], [(1, ⟨false, 4, [(enc_T_api_Form a0)]⟩)], 46⟩).bind Kst = (ref24_marked_L1 k a0 K0 m x4 x5).map ref24_marked_fin := by
  intro m
  induction m with
  | zero => intros; rfl
  | succ m ih =>
    intro x4 x5
    unfold ref24_marked_L1
    refine Eq.trans k_round ?_
    refine Eq.trans k_assoc ?_
    refine Eq.trans (k_region0 rfl (f45r3 k a0 x4 x5)) ?_
    refine Eq.trans (k_cond (t := (decide (x5 < a0.fRows))) rfl rfl) ?_
    refine bifE2 (fun hc => ?_) fun hc => ?_
    · rw [hc]
      refine Eq.trans k_skip ?_
      refine Eq.trans (k_block rfl) ?_
      refine Eq.trans (k_lregion rfl (f45r5 k a0 x4 x5)) ?_
      refine bindE (fun o8 => ?_)
      refine Eq.trans blk_normal ?_
      refine Eq.trans (k_lregion0 rfl (f45r4 k a0 x5 o8)) ?_
      refine Eq.trans loop_normal ?_
      exact ih o8 (Go.IntKind.wrap .i64 (x5 + 1))
    · rw [hc]
      refine Eq.trans k_exit ?_
      refine Eq.trans loop_exit ?_
      exact hK0 x4 x5
theorem f45r6 (k : Nat) (a0 : T_api_Form) (y9 : (List Str)) (y10 : Int) : RE k f45a6 f45o6 false ⟨[(1, (V.ptr 1 0 0)), (3, (V.sl 1 1 (List.map V.str y9))), (4, (I y10)), (9, (V.bool false))], [(1, ⟨false, 4, [(enc_T_api_Form a0)]⟩)], 46⟩ = some ⟨[(1, (V.ptr 1 0 0)), (3, (V.sl 1 1 (List.map V.str y9))), (5, (I 0))], [(1, ⟨false, 4, [(enc_T_api_Form a0)]⟩)], 46⟩ :=
  rE rfl
theorem f45r7 (k : Nat) (a0 : T_api_Form) (x16 : (List Str)) (x17 : Int) : RE k f45a7 f45o7 false ⟨[(1, (V.ptr 1 0 0)), (3, (V.sl 0 1 (List.map V.str x16))), (5, (I x17))], [(1, ⟨false, 4, [(enc_T_api_Form a0)]⟩)], 46⟩ = some ⟨[(1, (V.ptr 1 0 0)), (3, (V.sl 0 1 (List.map V.str x16))), (5, (I x17)), (22, (V.bool (decide (x17 < (a0.fMarks.length : Int)))))], [(1, ⟨false, 4, [(enc_T_api_Form a0)]⟩)], 46⟩ := by
  refine rg ?_
  refine ra 3 3 ⟨[(1, (V.ptr 1 0 0)), (3, (V.sl 0 1 (List.map V.str x16))), (5, (I x17)), (18, (I x17)), (19, (V.ptr 1 0 2)), (20, (sMark (a0.fMarks)))], [(1, ⟨false, 4, [(enc_T_api_Form a0)]⟩)], 46⟩ rfl rfl rfl ?_
  refine Eq.trans (reg_pure (x := some ()) (w := fun _ => (I (a0.fMarks.length : Int))) rfl rfl rfl rfl (p_len (e := enc_T_api_Mark) rfl rfl rfl rfl rfl rfl Go.Proofs.Try.underlying22)) ?_
  refine Eq.trans some_bind ?_
  exact bind_end rfl
theorem f45r9 (k : Nat) (a0 : T_api_Form) (x16 : (List Str)) (x17 : Int) : RE k f45a9 f45o9 true ⟨[(1, (V.ptr 1 0 0)), (3, (V.sl 0 1 (List.map V.str x16))), (5, (I x17)), (22, (V.bool true))], [(1, ⟨false, 4, [(enc_T_api_Form a0)]⟩)], 46⟩ = (((idx a0.fMarks x17).bind fun v18 => ((idx a0.fMarks x17).bind fun v19 => ((idx a0.fMarks x17).bind fun v20 => (ref24_laid k x16 v18.fRow v19.fColumn v20.fText))))).map (fun (o : (List Str)) => (⟨[(1, (V.ptr 1 0 0)), (3, (V.sl 0 1 (List.map V.str o))), (5, (I x17))], [(1, ⟨false, 4, [(enc_T_api_Form a0)]⟩)], 46⟩ : St)) := by
  refine Eq.trans (regionE_regp (p := 20) (dk := true) (t := [(1, (V.ptr 1 0 0)), (3, (V.sl 0 1 (List.map V.str x16))), (5, (I x17)), (22, (V.bool true))]) (σ := [(1, ⟨false, 4, [(enc_T_api_Form a0)]⟩)]) (n := 46) rfl (by decide) (by decide) rfl) ?_
  refine Eq.trans (regp_adv (m := 4) (j := 4) (t' := [(1, (V.ptr 1 0 0)), (3, (V.sl 0 1 (List.map V.str x16))), (5, (I x17)), (22, (V.bool true)), (25, (V.sl 0 1 (List.map V.str x16))), (26, (V.ptr 1 0 2)), (27, (sMark (a0.fMarks))), (28, (I x17))]) rfl rfl rfl) ?_
  refine Eq.trans (regp_pure (x := (idx a0.fMarks x17)) (w := fun v18 => (V.pro (enc_T_api_Mark v18))) rfl rfl rfl rfl rfl (p_index (e := enc_T_api_Mark) rfl rfl rfl Go.Proofs.Try.underlying22 rfl (by decide))) ?_
  refine bindE (fun v18 => ?_)
  refine Eq.trans (putp_adv (m := 5) (j := 10) (t' := [(1, (V.ptr 1 0 0)), (3, (V.sl 0 1 (List.map V.str x16))), (5, (I x17)), (22, (V.bool true)), (25, (V.sl 0 1 (List.map V.str x16))), (26, (V.ptr 1 0 2)), (27, (sMark (a0.fMarks))), (28, (I x17)), (29, (V.pro (enc_T_api_Mark v18))), (30, (V.pro (I v18.fRow))), (31, (I v18.fRow)), (32, (V.ptr 1 0 2)), (33, (sMark (a0.fMarks))), (34, (I x17))]) rfl rfl rfl) ?_
  refine Eq.trans (regp_pure (x := (idx a0.fMarks x17)) (w := fun v19 => (V.pro (enc_T_api_Mark v19))) rfl rfl rfl rfl rfl (p_index (e := enc_T_api_Mark) rfl rfl rfl Go.Proofs.Try.underlying22 rfl (by decide))) ?_
  refine bindE (fun v19 => ?_)
  refine Eq.trans (putp_adv (m := 5) (j := 16) (t' := [(1, (V.ptr 1 0 0)), (3, (V.sl 0 1 (List.map V.str x16))), (5, (I x17)), (22, (V.bool true)), (25, (V.sl 0 1 (List.map V.str x16))), (26, (V.ptr 1 0 2)), (27, (sMark (a0.fMarks))), (28, (I x17)), (29, (V.pro (enc_T_api_Mark v18))), (30, (V.pro (I v18.fRow))), (31, (I v18.fRow)), (32, (V.ptr 1 0 2)), (33, (sMark (a0.fMarks))), (34, (I x17)), (35, (V.pro (enc_T_api_Mark v19))), (36, (V.pro (I v19.fColumn))), (37, (I v19.fColumn)), (38, (V.ptr 1 0 2)), (39, (sMark (a0.fMarks))), (40, (I x17))]) rfl rfl rfl) ?_
  refine Eq.trans (regp_pure (x := (idx a0.fMarks x17)) (w := fun v20 => (V.pro (enc_T_api_Mark v20))) rfl rfl rfl rfl rfl (p_index (e := enc_T_api_Mark) rfl rfl rfl Go.Proofs.Try.underlying22 rfl (by decide))) ?_
  refine bindE (fun v20 => ?_)
  refine Eq.trans (putp_adv (m := 2) (j := 19) (t' := [(1, (V.ptr 1 0 0)), (3, (V.sl 0 1 (List.map V.str x16))), (5, (I x17)), (22, (V.bool true)), (25, (V.sl 0 1 (List.map V.str x16))), (26, (V.ptr 1 0 2)), (27, (sMark (a0.fMarks))), (28, (I x17)), (29, (V.pro (enc_T_api_Mark v18))), (30, (V.pro (I v18.fRow))), (31, (I v18.fRow)), (32, (V.ptr 1 0 2)), (33, (sMark (a0.fMarks))), (34, (I x17)), (35, (V.pro (enc_T_api_Mark v19))), (36, (V.pro (I v19.fColumn))), (37, (I v19.fColumn)), (38, (V.ptr 1 0 2)), (39, (sMark (a0.fMarks))), (40, (I x17)), (41, (V.pro (enc_T_api_Mark v20))), (42, (V.pro (V.str v20.fText))), (43, (V.str v20.fText))]) rfl rfl rfl) ?_
  refine Eq.trans (regp_pure (x := (ref24_laid k x16 v18.fRow v19.fColumn v20.fText)) (w := fun v21 => (V.sl 0 1 (List.map V.str v21))) rfl rfl rfl rfl rfl (p_call rfl rfl rfl rfl rfl (ref24_laid_ok k x16 v18.fRow v19.fColumn v20.fText) (.inl rfl))) ?_
  refine bind_self (fun v21 => ?_)
  exact regp_end rfl
theorem f45r8 (k : Nat) (a0 : T_api_Form) (x17 : Int) (o22 : (List Str)) : RE k f45a8 f45o8 false ⟨[(1, (V.ptr 1 0 0)), (3, (V.sl 0 1 (List.map V.str o22))), (5, (I x17))], [(1, ⟨false, 4, [(enc_T_api_Form a0)]⟩)], 46⟩ = some ⟨[(1, (V.ptr 1 0 0)), (3, (V.sl 0 1 (List.map V.str o22))), (5, (I (Go.IntKind.wrap .i64 (x17 + 1))))], [(1, ⟨false, 4, [(enc_T_api_Form a0)]⟩)], 46⟩ :=
  rE rfl
theorem ref24_marked_L2_ok (k : Nat) (a0 : T_api_Form)  (K0 : (List Str) → Int → Option (List Str)) (Kst : X × St → Option (V × List V)) (hK0 : ∀ (y0 : (List Str)) (y1 : Int), Kst (X.exit 2, ⟨[(1, (V.ptr 1 0 0)), (3, (V.sl 0 1 (List.map V.str y0))), (5, (I y1)), (22, (V.bool false))], [(1, ⟨false, 4, [(enc_T_api_Form a0)]⟩)], 46⟩) = (K0 y0 y1).map ref24_marked_fin) (hret : ∀ s, Kst (X.ret, s) = endK prog 46 [(enc_T_api_Form a0)] [] [.tmp 2] (X.ret, s)) :
    ∀ (m : Nat) (x16 : (List Str)) (x17 : Int), (iter (exec prog (EV k) f45n k f45b1) m ⟨[(1, (V.ptr 1 0 0)), (3, (V.sl 0 1 (List.map V.str x16))), (5, (I x17))], [(1, ⟨false, 4, [(enc_T_api_Form a0)]⟩)], 46⟩).bind Kst = (ref24_marked_L2 k a0 K0 m x16 x17).map ref24_marked_fin := by
  intro m
  induction m with
  | zero => intros; rfl
  | succ m ih =>
    intro x16 x17
    unfold ref24_marked_L2
    refine Eq.trans k_round ?_
    refine Eq.trans k_assoc ?_
    refine Eq.trans (k_region0 rfl (f45r7 k a0 x16 x17)) ?_
    refine Eq.trans (k_cond (t := (decide (x17 < (a0.fMarks.length : Int)))) rfl rfl) ?_
    refine bifE2 (fun hc => ?_) fun hc => ?_
    · rw [hc]
      refine Eq.trans k_skip ?_
      refine Eq.trans (k_block rfl) ?_
      refine Eq.trans (k_lregion rfl (f45r9 k a0 x16 x17)) ?_
      refine bindE (fun o22 => ?_)
      refine Eq.trans blk_normal ?_
      refine Eq.trans (k_lregion0 rfl (f45r8 k a0 x17 o22)) ?_
      refine Eq.trans loop_normal ?_
      exact ih o22 (Go.IntKind.wrap .i64 (x17 + 1))
    · rw [hc]
      refine Eq.trans k_exit ?_
      refine Eq.trans loop_exit ?_
      exact hK0 x16 x17
theorem f45r10 (k : Nat) (a0 : T_api_Form) (y23 : (List Str)) (y24 : Int) : RE k f45a10 f45o10 false ⟨[(1, (V.ptr 1 0 0)), (3, (V.sl 0 1 (List.map V.str y23))), (5, (I y24)), (22, (V.bool false))], [(1, ⟨false, 4, [(enc_T_api_Form a0)]⟩)], 46⟩ = some ⟨[(2, (V.sl 0 1 (List.map V.str y23)))], [], 46⟩ :=
  rE rfl
theorem ref24_marked_ok (k : Nat) (a0 : T_api_Form) : EV k 45 [(enc_T_api_Form a0)] = (ref24_marked k a0).map ref24_marked_fin := by
  cases k with
  | zero => rfl
  | succ k =>
    unfold ref24_marked
    refine Eq.trans (evF_succ (c := f45c) (N := 46) (regs := f45n) rfl Go.Proofs.Try.func45 rfl (by decide) rfl rfl rfl) ?_
    refine Eq.trans (k_region0 rfl (f45r0 k a0)) ?_
    refine Eq.trans (k_region0 rfl (f45r1 k a0)) ?_
    refine Eq.trans k_assoc ?_
    refine Eq.trans (k_region0 rfl (f45r2 k a0)) ?_
    refine Eq.trans (k_block rfl) ?_
    refine Eq.trans k_loop ?_
    refine ref24_marked_L1_ok k a0 _ _ ?h_ref24_marked_L1_0 ?hr_ref24_marked_L1 k ([] : List Str) 0
    · intro y9 y10
      refine Eq.trans blk_exit ?_
      refine Eq.trans k_assoc ?_
      refine Eq.trans (k_region0 rfl (f45r6 k a0 y9 y10)) ?_
      refine Eq.trans (k_blockD (st' := ⟨[(1, (V.ptr 1 0 0)), (3, (V.sl 0 1 (List.map V.str y9))), (5, (I 0))], [(1, ⟨false, 4, [(enc_T_api_Form a0)]⟩)], 46⟩) rfl) ?_
      refine Eq.trans k_loop ?_
      refine ref24_marked_L2_ok k a0 _ _ ?h_ref24_marked_L2_0 ?hr_ref24_marked_L2 k y9 0
      · intro y23 y24
        refine Eq.trans blk_exit ?_
        refine Eq.trans (k_region0 rfl (f45r10 k a0 y23 y24)) ?_
        refine Eq.trans k_lret ?_
        rfl
      · intro s; exact rfl
    · intro s; exact rfl
def ref24_show_fin : (List Str) → V × List V := fun r => ((V.sl 0 1 (List.map V.str r)), [])
theorem f37r0 (k : Nat) (a0 : T_api_Form) (a1 : (List Str)) : RE k f37a0 f37o0 false ⟨[(0, (enc_T_api_Form a0)), (1, (V.sl 0 1 (List.map V.str a1)))], [], 44⟩ = some ⟨[(1, (V.sl 0 1 (List.map V.str a1))), (2, (V.ptr 2 0 0))], [(2, ⟨false, 4, [(enc_T_api_Form a0)]⟩)], 44⟩ :=
  rE rfl
theorem f37r1 (k : Nat) (a0 : T_api_Form) (a1 : (List Str)) : RE k f37a1 f37o1 false ⟨[(1, (V.sl 0 1 (List.map V.str a1))), (2, (V.ptr 2 0 0))], [(2, ⟨false, 4, [(enc_T_api_Form a0)]⟩)], 44⟩ = ((ref24_marked k a0)).map (fun (o : (List Str)) => (⟨[(1, (V.sl 0 1 (List.map V.str a1))), (2, (V.ptr 2 0 0)), (5, (V.sl 0 1 (List.map V.str o)))], [(2, ⟨false, 4, [(enc_T_api_Form a0)]⟩)], 44⟩ : St)) := by
  refine rg ?_
  refine ra 1 1 ⟨[(1, (V.sl 0 1 (List.map V.str a1))), (2, (V.ptr 2 0 0)), (9, (enc_T_api_Form a0))], [(2, ⟨false, 4, [(enc_T_api_Form a0)]⟩)], 44⟩ rfl rfl rfl ?_
  refine Eq.trans (reg_pure (x := (ref24_marked k a0)) (w := fun v1 => (V.sl 0 1 (List.map V.str v1))) rfl rfl rfl rfl (p_call rfl rfl rfl rfl rfl (ref24_marked_ok k a0) (.inl rfl))) ?_
  refine bind_self (fun v1 => ?_)
  exact bind_end rfl
theorem f37r2 (k : Nat) (a0 : T_api_Form) (a1 : (List Str)) (o2 : (List Str)) : RE k f37a2 f37o2 false ⟨[(1, (V.sl 0 1 (List.map V.str a1))), (2, (V.ptr 2 0 0)), (5, (V.sl 0 1 (List.map V.str o2)))], [(2, ⟨false, 4, [(enc_T_api_Form a0)]⟩)], 44⟩ = some ⟨[(1, (V.sl 0 1 (List.map V.str a1))), (2, (V.ptr 2 0 0)), (5, (V.sl 0 1 (List.map V.str o2))), (6, (I 0))], [(2, ⟨false, 4, [(enc_T_api_Form a0)]⟩)], 44⟩ :=
  rE rfl
theorem f37r3 (k : Nat) (a0 : T_api_Form) (a1 : (List Str)) (x13 : (List Str)) (x14 : Int) : RE k f37a3 f37o3 false ⟨[(1, (V.sl 0 1 (List.map V.str a1))), (2, (V.ptr 2 0 0)), (5, (V.sl 0 1 (List.map V.str x13))), (6, (I x14))], [(2, ⟨false, 4, [(enc_T_api_Form a0)]⟩)], 44⟩ = some ⟨[(1, (V.sl 0 1 (List.map V.str a1))), (2, (V.ptr 2 0 0)), (5, (V.sl 0 1 (List.map V.str x13))), (6, (I x14)), (15, (V.bool (decide (x14 < (a0.fFields.length : Int)))))], [(2, ⟨false, 4, [(enc_T_api_Form a0)]⟩)], 44⟩ := by
  refine rg ?_
  refine ra 3 3 ⟨[(1, (V.sl 0 1 (List.map V.str a1))), (2, (V.ptr 2 0 0)), (5, (V.sl 0 1 (List.map V.str x13))), (6, (I x14)), (11, (I x14)), (12, (V.ptr 2 0 3)), (13, (sSlot (a0.fFields)))], [(2, ⟨false, 4, [(enc_T_api_Form a0)]⟩)], 44⟩ rfl rfl rfl ?_
  refine Eq.trans (reg_pure (x := some ()) (w := fun _ => (I (a0.fFields.length : Int))) rfl rfl rfl rfl (p_len (e := enc_T_api_Slot) rfl rfl rfl rfl rfl rfl Go.Proofs.Try.underlying23)) ?_
  refine Eq.trans some_bind ?_
  exact bind_end rfl
theorem f37r5 (k : Nat) (a0 : T_api_Form) (a1 : (List Str)) (x13 : (List Str)) (x14 : Int) : RE k f37a5 f37o5 false ⟨[(1, (V.sl 0 1 (List.map V.str a1))), (2, (V.ptr 2 0 0)), (5, (V.sl 0 1 (List.map V.str x13))), (6, (I x14)), (15, (V.bool true))], [(2, ⟨false, 4, [(enc_T_api_Form a0)]⟩)], 44⟩ = ((idx a0.fFields x14)).map (fun (o : T_api_Slot) => (⟨[(1, (V.sl 0 1 (List.map V.str a1))), (2, (V.ptr 2 0 0)), (5, (V.sl 0 1 (List.map V.str x13))), (6, (I x14)), (7, (V.ptr 7 0 0))], [(2, ⟨false, 4, [(enc_T_api_Form a0)]⟩), (7, ⟨false, 7, [(enc_T_api_Slot o)]⟩)], 44⟩ : St)) := by
  refine rg ?_
  refine ra 3 3 ⟨[(1, (V.sl 0 1 (List.map V.str a1))), (2, (V.ptr 2 0 0)), (5, (V.sl 0 1 (List.map V.str x13))), (6, (I x14)), (15, (V.bool true)), (18, (V.ptr 2 0 3)), (19, (sSlot (a0.fFields))), (20, (I x14))], [(2, ⟨false, 4, [(enc_T_api_Form a0)]⟩)], 44⟩ rfl rfl rfl ?_
  refine Eq.trans (reg_pure (x := (idx a0.fFields x14)) (w := fun v15 => (V.pro (enc_T_api_Slot v15))) rfl rfl rfl rfl (p_index (e := enc_T_api_Slot) rfl rfl rfl Go.Proofs.Try.underlying23 rfl (by decide))) ?_
  refine bind_self (fun v15 => ?_)
  exact bind_end rfl
theorem f37r6 (k : Nat) (a0 : T_api_Form) (a1 : (List Str)) (x13 : (List Str)) (x14 : Int) (o16 : T_api_Slot) : RE k f37a6 f37o6 false ⟨[(1, (V.sl 0 1 (List.map V.str a1))), (2, (V.ptr 2 0 0)), (5, (V.sl 0 1 (List.map V.str x13))), (6, (I x14)), (7, (V.ptr 7 0 0))], [(2, ⟨false, 4, [(enc_T_api_Form a0)]⟩), (7, ⟨false, 7, [(enc_T_api_Slot o16)]⟩)], 44⟩ = some ⟨[(1, (V.sl 0 1 (List.map V.str a1))), (2, (V.ptr 2 0 0)), (5, (V.sl 0 1 (List.map V.str x13))), (6, (I x14)), (7, (V.ptr 7 0 0)), (8, (V.str ([] : Str)))], [(2, ⟨false, 4, [(enc_T_api_Form a0)]⟩), (7, ⟨false, 7, [(enc_T_api_Slot o16)]⟩)], 44⟩ :=
  rE rfl
theorem f37r7 (k : Nat) (a0 : T_api_Form) (a1 : (List Str)) (x13 : (List Str)) (x14 : Int) (o16 : T_api_Slot) : RE k f37a7 f37o7 false ⟨[(1, (V.sl 0 1 (List.map V.str a1))), (2, (V.ptr 2 0 0)), (5, (V.sl 0 1 (List.map V.str x13))), (6, (I x14)), (7, (V.ptr 7 0 0)), (8, (V.str ([] : Str)))], [(2, ⟨false, 4, [(enc_T_api_Form a0)]⟩), (7, ⟨false, 7, [(enc_T_api_Slot o16)]⟩)], 44⟩ = some ⟨[(1, (V.sl 0 1 (List.map V.str a1))), (2, (V.ptr 2 0 0)), (5, (V.sl 0 1 (List.map V.str x13))), (6, (I x14)), (7, (V.ptr 7 0 0)), (8, (V.str ([] : Str))), (25, (V.bool (decide (o16.fOut ≥ 0))))], [(2, ⟨false, 4, [(enc_T_api_Form a0)]⟩), (7, ⟨false, 7, [(enc_T_api_Slot o16)]⟩)], 44⟩ :=
  rE rfl
theorem f37r8 (k : Nat) (a0 : T_api_Form) (a1 : (List Str)) (x13 : (List Str)) (x14 : Int) (o16 : T_api_Slot) : RE k f37a8 f37o8 false ⟨[(1, (V.sl 0 1 (List.map V.str a1))), (2, (V.ptr 2 0 0)), (5, (V.sl 0 1 (List.map V.str x13))), (6, (I x14)), (7, (V.ptr 7 0 0)), (8, (V.str ([] : Str))), (25, (V.bool true))], [(2, ⟨false, 4, [(enc_T_api_Form a0)]⟩), (7, ⟨false, 7, [(enc_T_api_Slot o16)]⟩)], 44⟩ = ((idx a1 o16.fOut)).map (fun (o : Str) => (⟨[(1, (V.sl 0 1 (List.map V.str a1))), (2, (V.ptr 2 0 0)), (5, (V.sl 0 1 (List.map V.str x13))), (6, (I x14)), (7, (V.ptr 7 0 0)), (8, (V.str o))], [(2, ⟨false, 4, [(enc_T_api_Form a0)]⟩), (7, ⟨false, 7, [(enc_T_api_Slot o16)]⟩)], 44⟩ : St)) := by
  refine rg ?_
  refine ra 3 3 ⟨[(1, (V.sl 0 1 (List.map V.str a1))), (2, (V.ptr 2 0 0)), (5, (V.sl 0 1 (List.map V.str x13))), (6, (I x14)), (7, (V.ptr 7 0 0)), (8, (V.str ([] : Str))), (25, (V.bool true)), (26, (V.sl 0 1 (List.map V.str a1))), (27, (V.ptr 7 0 5)), (28, (I o16.fOut))], [(2, ⟨false, 4, [(enc_T_api_Form a0)]⟩), (7, ⟨false, 7, [(enc_T_api_Slot o16)]⟩)], 44⟩ rfl rfl rfl ?_
  refine Eq.trans (reg_pure (x := (idx a1 o16.fOut)) (w := fun v17 => (V.pro (V.str v17))) rfl rfl rfl rfl (p_index (e := V.str) rfl rfl rfl Go.Proofs.Try.underlying26 rfl (by decide))) ?_
  refine bind_self (fun v17 => ?_)
  exact bind_end rfl
theorem f37r9 (k : Nat) (a0 : T_api_Form) (a1 : (List Str)) (x13 : (List Str)) (x14 : Int) (o16 : T_api_Slot) (o18 : Str) : RE k f37a9 f37o9 true ⟨[(1, (V.sl 0 1 (List.map V.str a1))), (2, (V.ptr 2 0 0)), (5, (V.sl 0 1 (List.map V.str x13))), (6, (I x14)), (7, (V.ptr 7 0 0)), (8, (V.str o18))], [(2, ⟨false, 4, [(enc_T_api_Form a0)]⟩), (7, ⟨false, 7, [(enc_T_api_Slot o16)]⟩)], 44⟩ = (((ref24_filled k o18 o16.fBytes o16.fFill).bind fun v19 => (ref24_laid k x13 o16.fRow o16.fColumn v19))).map (fun (o : (List Str)) => (⟨[(1, (V.sl 0 1 (List.map V.str a1))), (2, (V.ptr 2 0 0)), (5, (V.sl 0 1 (List.map V.str o))), (6, (I x14))], [(2, ⟨false, 4, [(enc_T_api_Form a0)]⟩)], 44⟩ : St)) := by
  refine Eq.trans (regionE_regp (p := 12) (dk := true) (t := [(1, (V.sl 0 1 (List.map V.str a1))), (2, (V.ptr 2 0 0)), (5, (V.sl 0 1 (List.map V.str x13))), (6, (I x14)), (7, (V.ptr 7 0 0)), (8, (V.str o18))]) (σ := [(2, ⟨false, 4, [(enc_T_api_Form a0)]⟩), (7, ⟨false, 7, [(enc_T_api_Slot o16)]⟩)]) (n := 44) rfl (by decide) (by decide) rfl) ?_
  refine Eq.trans (regp_adv (m := 10) (j := 10) (t' := [(1, (V.sl 0 1 (List.map V.str a1))), (2, (V.ptr 2 0 0)), (5, (V.sl 0 1 (List.map V.str x13))), (6, (I x14)), (7, (V.ptr 7 0 0)), (8, (V.str o18)), (31, (V.sl 0 1 (List.map V.str x13))), (32, (V.ptr 7 0 1)), (33, (I o16.fRow)), (34, (V.ptr 7 0 2)), (35, (I o16.fColumn)), (36, (V.str o18)), (37, (V.ptr 7 0 3)), (38, (I o16.fBytes)), (39, (V.ptr 7 0 6)), (40, (V.int .u8 o16.fFill))]) rfl rfl rfl) ?_
  refine Eq.trans (regp_pure (x := (ref24_filled k o18 o16.fBytes o16.fFill)) (w := fun v19 => (V.str v19)) rfl rfl rfl rfl rfl (p_call rfl rfl rfl rfl rfl (ref24_filled_ok k o18 o16.fBytes o16.fFill) (.inl rfl))) ?_
  refine bindE (fun v19 => ?_)
  refine Eq.trans (putp_adv (m := 0) (j := 11) (t' := [(1, (V.sl 0 1 (List.map V.str a1))), (2, (V.ptr 2 0 0)), (5, (V.sl 0 1 (List.map V.str x13))), (6, (I x14)), (7, (V.ptr 7 0 0)), (8, (V.str o18)), (31, (V.sl 0 1 (List.map V.str x13))), (32, (V.ptr 7 0 1)), (33, (I o16.fRow)), (34, (V.ptr 7 0 2)), (35, (I o16.fColumn)), (36, (V.str o18)), (37, (V.ptr 7 0 3)), (38, (I o16.fBytes)), (39, (V.ptr 7 0 6)), (40, (V.int .u8 o16.fFill)), (41, (V.str v19))]) rfl rfl rfl) ?_
  refine Eq.trans (regp_pure (x := (ref24_laid k x13 o16.fRow o16.fColumn v19)) (w := fun v20 => (V.sl 0 1 (List.map V.str v20))) rfl rfl rfl rfl rfl (p_call rfl rfl rfl rfl rfl (ref24_laid_ok k x13 o16.fRow o16.fColumn v19) (.inl rfl))) ?_
  refine bind_self (fun v20 => ?_)
  exact regp_end rfl
theorem f37r4 (k : Nat) (a0 : T_api_Form) (a1 : (List Str)) (x14 : Int) (o21 : (List Str)) : RE k f37a4 f37o4 false ⟨[(1, (V.sl 0 1 (List.map V.str a1))), (2, (V.ptr 2 0 0)), (5, (V.sl 0 1 (List.map V.str o21))), (6, (I x14))], [(2, ⟨false, 4, [(enc_T_api_Form a0)]⟩)], 44⟩ = some ⟨[(1, (V.sl 0 1 (List.map V.str a1))), (2, (V.ptr 2 0 0)), (5, (V.sl 0 1 (List.map V.str o21))), (6, (I (Go.IntKind.wrap .i64 (x14 + 1))))], [(2, ⟨false, 4, [(enc_T_api_Form a0)]⟩)], 44⟩ :=
  rE rfl
theorem ref24_show_r9' (k : Nat) (a0 : T_api_Form) (a1 : (List Str)) (x13 : (List Str)) (x14 : Int) (o16 : T_api_Slot) : RE k f37a9 f37o9 true ⟨[(1, (V.sl 0 1 (List.map V.str a1))), (2, (V.ptr 2 0 0)), (5, (V.sl 0 1 (List.map V.str x13))), (6, (I x14)), (7, (V.ptr 7 0 0)), (8, (V.str ([] : Str))), (25, (V.bool false))], [(2, ⟨false, 4, [(enc_T_api_Form a0)]⟩), (7, ⟨false, 7, [(enc_T_api_Slot o16)]⟩)], 44⟩ = (((ref24_filled k ([] : Str) o16.fBytes o16.fFill).bind fun v22 => (ref24_laid k x13 o16.fRow o16.fColumn v22))).map (fun (o : (List Str)) => (⟨[(1, (V.sl 0 1 (List.map V.str a1))), (2, (V.ptr 2 0 0)), (5, (V.sl 0 1 (List.map V.str o))), (6, (I x14))], [(2, ⟨false, 4, [(enc_T_api_Form a0)]⟩)], 44⟩ : St)) := by
  refine Eq.trans (regionE_regp (p := 12) (dk := true) (t := [(1, (V.sl 0 1 (List.map V.str a1))), (2, (V.ptr 2 0 0)), (5, (V.sl 0 1 (List.map V.str x13))), (6, (I x14)), (7, (V.ptr 7 0 0)), (8, (V.str ([] : Str))), (25, (V.bool false))]) (σ := [(2, ⟨false, 4, [(enc_T_api_Form a0)]⟩), (7, ⟨false, 7, [(enc_T_api_Slot o16)]⟩)]) (n := 44) rfl (by decide) (by decide) rfl) ?_
  refine Eq.trans (regp_adv (m := 10) (j := 10) (t' := [(1, (V.sl 0 1 (List.map V.str a1))), (2, (V.ptr 2 0 0)), (5, (V.sl 0 1 (List.map V.str x13))), (6, (I x14)), (7, (V.ptr 7 0 0)), (8, (V.str ([] : Str))), (25, (V.bool false)), (31, (V.sl 0 1 (List.map V.str x13))), (32, (V.ptr 7 0 1)), (33, (I o16.fRow)), (34, (V.ptr 7 0 2)), (35, (I o16.fColumn)), (36, (V.str ([] : Str))), (37, (V.ptr 7 0 3)), (38, (I o16.fBytes)), (39, (V.ptr 7 0 6)), (40, (V.int .u8 o16.fFill))]) rfl rfl rfl) ?_
  refine Eq.trans (regp_pure (x := (ref24_filled k ([] : Str) o16.fBytes o16.fFill)) (w := fun v22 => (V.str v22)) rfl rfl rfl rfl rfl (p_call rfl rfl rfl rfl rfl (ref24_filled_ok k ([] : Str) o16.fBytes o16.fFill) (.inl rfl))) ?_
  refine bindE (fun v22 => ?_)
  refine Eq.trans (putp_adv (m := 0) (j := 11) (t' := [(1, (V.sl 0 1 (List.map V.str a1))), (2, (V.ptr 2 0 0)), (5, (V.sl 0 1 (List.map V.str x13))), (6, (I x14)), (7, (V.ptr 7 0 0)), (8, (V.str ([] : Str))), (25, (V.bool false)), (31, (V.sl 0 1 (List.map V.str x13))), (32, (V.ptr 7 0 1)), (33, (I o16.fRow)), (34, (V.ptr 7 0 2)), (35, (I o16.fColumn)), (36, (V.str ([] : Str))), (37, (V.ptr 7 0 3)), (38, (I o16.fBytes)), (39, (V.ptr 7 0 6)), (40, (V.int .u8 o16.fFill)), (41, (V.str v22))]) rfl rfl rfl) ?_
  refine Eq.trans (regp_pure (x := (ref24_laid k x13 o16.fRow o16.fColumn v22)) (w := fun v23 => (V.sl 0 1 (List.map V.str v23))) rfl rfl rfl rfl rfl (p_call rfl rfl rfl rfl rfl (ref24_laid_ok k x13 o16.fRow o16.fColumn v22) (.inl rfl))) ?_
  refine bind_self (fun v23 => ?_)
  exact regp_end rfl
theorem ref24_show_r4' (k : Nat) (a0 : T_api_Form) (a1 : (List Str)) (x14 : Int) (o24 : (List Str)) : RE k f37a4 f37o4 false ⟨[(1, (V.sl 0 1 (List.map V.str a1))), (2, (V.ptr 2 0 0)), (5, (V.sl 0 1 (List.map V.str o24))), (6, (I x14))], [(2, ⟨false, 4, [(enc_T_api_Form a0)]⟩)], 44⟩ = some ⟨[(1, (V.sl 0 1 (List.map V.str a1))), (2, (V.ptr 2 0 0)), (5, (V.sl 0 1 (List.map V.str o24))), (6, (I (Go.IntKind.wrap .i64 (x14 + 1))))], [(2, ⟨false, 4, [(enc_T_api_Form a0)]⟩)], 44⟩ :=
  rE rfl
theorem ref24_show_L1_ok (k : Nat) (a0 : T_api_Form) (a1 : (List Str))  (K0 : (List Str) → Int → Option (List Str)) (Kst : X × St → Option (V × List V)) (hK0 : ∀ (y0 : (List Str)) (y1 : Int), Kst (X.exit 0, ⟨[(1, (V.sl 0 1 (List.map V.str a1))), (2, (V.ptr 2 0 0)), (5, (V.sl 0 1 (List.map V.str y0))), (6, (I y1)), (15, (V.bool false))], [(2, ⟨false, 4, [(enc_T_api_Form a0)]⟩)], 44⟩) = (K0 y0 y1).map ref24_show_fin) (hret : ∀ s, Kst (X.ret, s) = endK prog 44 [(enc_T_api_Form a0), (V.sl 0 1 (List.map V.str a1))] [] [.tmp 4] (X.ret, s)) :
    ∀ (m : Nat) (x13 : (List Str)) (x14 : Int), (iter (exec prog (EV k) f37n k f37b0) m ⟨[(1, (V.sl 0 1 (List.map V.str a1))), (2, (V.ptr 2 0 0)), (5, (V.sl 0 1 (List.map V.str x13))), (6, (I x14))], [(2, ⟨false, 4, [(enc_T_api_Form a0)]⟩)], 44⟩).bind Kst = (ref24_show_L1 k a0 a1 K0 m x13 x14).map ref24_show_fin := by
  intro m
  induction m with
  | zero => intros; rfl
  | succ m ih =>
    intro x13 x14
    unfold ref24_show_L1
    refine Eq.trans k_round ?_
    refine Eq.trans k_assoc ?_
    refine Eq.trans (k_region0 rfl (f37r3 k a0 a1 x13 x14)) ?_
    refine Eq.trans (k_cond (t := (decide (x14 < (a0.fFields.length : Int)))) rfl rfl) ?_
    refine bifE2 (fun hc => ?_) fun hc => ?_
    · rw [hc]
      refine Eq.trans k_skip ?_
      refine Eq.trans (k_block rfl) ?_
      refine Eq.trans (k_region rfl (f37r5 k a0 a1 x13 x14)) ?_
      refine bindE (fun o16 => ?_)
      refine Eq.trans (k_region0 rfl (f37r6 k a0 a1 x13 x14 o16)) ?_
      refine Eq.trans k_assoc ?_
      refine Eq.trans (k_region0 rfl (f37r7 k a0 a1 x13 x14 o16)) ?_
      refine Eq.trans (k_cond (t := (decide (o16.fOut ≥ 0))) rfl rfl) ?_
      refine bifE2 (fun hc => ?_) fun hc => ?_
      · rw [hc]
        refine Eq.trans (k_region rfl (f37r8 k a0 a1 x13 x14 o16)) ?_
        refine bindE (fun o18 => ?_)
        refine Eq.trans (k_lregion rfl (f37r9 k a0 a1 x13 x14 o16 o18)) ?_
        refine bindE (fun o21 => ?_)
        refine Eq.trans blk_normal ?_
        refine Eq.trans (k_lregion0 rfl (f37r4 k a0 a1 x14 o21)) ?_
        refine Eq.trans loop_normal ?_
        exact ih o21 (Go.IntKind.wrap .i64 (x14 + 1))
      · rw [hc]
        refine Eq.trans k_skip ?_
        refine Eq.trans (k_lregion rfl (ref24_show_r9' k a0 a1 x13 x14 o16)) ?_
        refine bindE (fun o24 => ?_)
        refine Eq.trans blk_normal ?_
        refine Eq.trans (k_lregion0 rfl (ref24_show_r4' k a0 a1 x14 o24)) ?_
        refine Eq.trans loop_normal ?_
        exact ih o24 (Go.IntKind.wrap .i64 (x14 + 1))
    · rw [hc]
      refine Eq.trans k_exit ?_
      refine Eq.trans loop_exit ?_
      exact hK0 x13 x14
theorem f37r10 (k : Nat) (a0 : T_api_Form) (a1 : (List Str)) (y25 : (List Str)) (y26 : Int) : RE k f37a10 f37o10 false ⟨[(1, (V.sl 0 1 (List.map V.str a1))), (2, (V.ptr 2 0 0)), (5, (V.sl 0 1 (List.map V.str y25))), (6, (I y26)), (15, (V.bool false))], [(2, ⟨false, 4, [(enc_T_api_Form a0)]⟩)], 44⟩ = some ⟨[(4, (V.sl 0 1 (List.map V.str y25)))], [], 44⟩ :=
  rE rfl
theorem ref24_show_ok (k : Nat) (a0 : T_api_Form) (a1 : (List Str)) : EV k 37 [(enc_T_api_Form a0), (V.sl 0 1 (List.map V.str a1))] = (ref24_show k a0 a1).map ref24_show_fin := by
  cases k with
  | zero => rfl
  | succ k =>
    unfold ref24_show
    refine Eq.trans (evF_succ (c := f37c) (N := 44) (regs := f37n) rfl Go.Proofs.Try.func37 rfl (by decide) rfl rfl rfl) ?_
    refine Eq.trans (k_region0 rfl (f37r0 k a0 a1)) ?_
    refine Eq.trans (k_region rfl (f37r1 k a0 a1)) ?_
    refine bindE (fun o2 => ?_)
    refine Eq.trans k_assoc ?_
    refine Eq.trans (k_region0 rfl (f37r2 k a0 a1 o2)) ?_
    refine Eq.trans (k_block rfl) ?_
    refine Eq.trans k_loop ?_
    refine ref24_show_L1_ok k a0 a1 _ _ ?h_ref24_show_L1_0 ?hr_ref24_show_L1 k o2 0
    · intro y25 y26
      refine Eq.trans blk_exit ?_
      refine Eq.trans (k_region0 rfl (f37r10 k a0 a1 y25 y26)) ?_
      refine Eq.trans k_lret ?_
      rfl
    · intro s; exact rfl
def ref24_Pages_fin : ((List (List Str)) × Int) → V × List V := fun r => (.tup [(V.sl 0 1 (List.map (fun x => (V.sl 0 1 (List.map V.str x))) r.1)), (I r.2)], [])
theorem f33r0 (k : Nat) (a0 : T_api_Form) (a1 : (List Str)) : RE k f33a0 f33o0 false ⟨[(0, (enc_T_api_Form a0)), (1, (V.sl 0 1 (List.map V.str a1)))], [], 67⟩ = some ⟨[(1, (V.sl 0 1 (List.map V.str a1))), (2, (V.ptr 2 0 0))], [(2, ⟨false, 4, [(enc_T_api_Form a0)]⟩)], 67⟩ :=
  rE rfl
theorem f33r1 (k : Nat) (a0 : T_api_Form) (a1 : (List Str)) : RE k f33a1 f33o1 false ⟨[(1, (V.sl 0 1 (List.map V.str a1))), (2, (V.ptr 2 0 0))], [(2, ⟨false, 4, [(enc_T_api_Form a0)]⟩)], 67⟩ = (((ref24_Valid k a0).bind fun v1 => (some ((!v1))))).map (fun (o : Bool) => (⟨[(1, (V.sl 0 1 (List.map V.str a1))), (2, (V.ptr 2 0 0)), (11, (V.bool o))], [(2, ⟨false, 4, [(enc_T_api_Form a0)]⟩)], 67⟩ : St)) := by
  refine rg ?_
  refine ra 1 1 ⟨[(1, (V.sl 0 1 (List.map V.str a1))), (2, (V.ptr 2 0 0)), (12, (enc_T_api_Form a0))], [(2, ⟨false, 4, [(enc_T_api_Form a0)]⟩)], 67⟩ rfl rfl rfl ?_
  refine Eq.trans (reg_pure (x := (ref24_Valid k a0)) (w := fun v1 => (V.bool v1)) rfl rfl rfl rfl (p_call rfl rfl rfl rfl rfl (ref24_Valid_ok k a0) (.inl rfl))) ?_
  refine bindE (fun v1 => ?_)
  exact bind_end rfl
theorem f33r2 (k : Nat) (a0 : T_api_Form) (a1 : (List Str)) : RE k f33a2 f33o2 false ⟨[(1, (V.sl 0 1 (List.map V.str a1))), (2, (V.ptr 2 0 0)), (11, (V.bool true))], [(2, ⟨false, 4, [(enc_T_api_Form a0)]⟩)], 67⟩ = some ⟨[(4, (V.sl 0 1 (List.map (fun x => (V.sl 0 1 (List.map V.str x))) ([] : List (List Str))))), (5, (I 220))], [], 67⟩ :=
  rE rfl
theorem f33r3 (k : Nat) (a0 : T_api_Form) (a1 : (List Str)) : RE k f33a3 f33o3 false ⟨[(1, (V.sl 0 1 (List.map V.str a1))), (2, (V.ptr 2 0 0)), (11, (V.bool false))], [(2, ⟨false, 4, [(enc_T_api_Form a0)]⟩)], 67⟩ = (((ref24_isMessage k a0 a1).bind fun v3 => (some ((!v3))))).map (fun (o : Bool) => (⟨[(1, (V.sl 0 1 (List.map V.str a1))), (2, (V.ptr 2 0 0)), (15, (V.bool o))], [(2, ⟨false, 4, [(enc_T_api_Form a0)]⟩)], 67⟩ : St)) := by
  refine rg ?_
  refine ra 2 2 ⟨[(1, (V.sl 0 1 (List.map V.str a1))), (2, (V.ptr 2 0 0)), (11, (V.bool false)), (16, (enc_T_api_Form a0)), (17, (V.sl 0 1 (List.map V.str a1)))], [(2, ⟨false, 4, [(enc_T_api_Form a0)]⟩)], 67⟩ rfl rfl rfl ?_
  refine Eq.trans (reg_pure (x := (ref24_isMessage k a0 a1)) (w := fun v3 => (V.bool v3)) rfl rfl rfl rfl (p_call rfl rfl rfl rfl rfl (ref24_isMessage_ok k a0 a1) (.inl rfl))) ?_
  refine bindE (fun v3 => ?_)
  exact bind_end rfl
theorem f33r4 (k : Nat) (a0 : T_api_Form) (a1 : (List Str)) : RE k f33a4 f33o4 false ⟨[(1, (V.sl 0 1 (List.map V.str a1))), (2, (V.ptr 2 0 0)), (15, (V.bool true))], [(2, ⟨false, 4, [(enc_T_api_Form a0)]⟩)], 67⟩ = some ⟨[(4, (V.sl 0 1 (List.map (fun x => (V.sl 0 1 (List.map V.str x))) ([] : List (List Str))))), (5, (I 2))], [], 67⟩ :=
  rE rfl
theorem f33r5 (k : Nat) (a0 : T_api_Form) (a1 : (List Str)) : RE k f33a5 f33o5 false ⟨[(1, (V.sl 0 1 (List.map V.str a1))), (2, (V.ptr 2 0 0)), (15, (V.bool false))], [(2, ⟨false, 4, [(enc_T_api_Form a0)]⟩)], 67⟩ = some ⟨[(1, (V.sl 0 1 (List.map V.str a1))), (2, (V.ptr 2 0 0)), (6, (I (-1)))], [(2, ⟨false, 4, [(enc_T_api_Form a0)]⟩)], 67⟩ :=
  rE rfl
theorem f33r6 (k : Nat) (a0 : T_api_Form) (a1 : (List Str)) : RE k f33a6 f33o6 false ⟨[(1, (V.sl 0 1 (List.map V.str a1))), (2, (V.ptr 2 0 0)), (6, (I (-1)))], [(2, ⟨false, 4, [(enc_T_api_Form a0)]⟩)], 67⟩ = some ⟨[(1, (V.sl 0 1 (List.map V.str a1))), (2, (V.ptr 2 0 0)), (6, (I (-1))), (7, (I 0))], [(2, ⟨false, 4, [(enc_T_api_Form a0)]⟩)], 67⟩ :=
  rE rfl
end
end Go.AE
