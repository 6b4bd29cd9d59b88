/- The program, function by function: the evaluator comes to the typed functions. Conditions: none. -/
import Derived.Test.YtgpblbjceghpjaaA3
import Derived.KernelRfl
import Derived.Test.YtgpblbjceghpjaaProg
import Derived.Test.YtgpblbjceghpjaaB1
import Derived.Test.YtgpblbjceghpjaaE1
namespace Go.AE
open Go.Proofs.Try Go.Sh
set_option linter.unusedSimpArgs false
set_option linter.unusedVariables false
set_option maxRecDepth 100000
set_option maxHeartbeats 4000000
noncomputable section
theorem f85r3 (k : Nat) (a0 : T_api_Base) (a1 : Int) (o2 : Int) : RE k f85a3 f85o3 false ⟨[(1, (I a1)), (2, (Pt 2)), (6, (I o2)), (12, (Bo true))], [(2, vS 4 (eBase a0))], 17⟩ = some ⟨[(4, (sI (([] : List Int)))), (5, (I o2))], [], 17⟩ :=
  rE rfl
theorem f85r4 (k : Nat) (a0 : T_api_Base) (a1 : Int) (o2 : Int) : RE k f85a4 f85o4 false ⟨[(1, (I a1)), (2, (Pt 2)), (6, (I o2)), (12, (Bo false))], [(2, vS 4 (eBase a0))], 17⟩ = (((dbd_way k a0 a1).bind fun v3 => (some (v3, 0)))).map (fun (o : (List Int) × Int) => (⟨[(4, (sI o.1)), (5, (I o.2))], [], 17⟩ : St)) := by
  refine rg ?_
  refine ra 2 2 ⟨[(1, (I a1)), (2, (Pt 2)), (6, (I o2)), (12, (Bo false)), (14, (eBase a0)), (15, (I a1))], [(2, vS 4 (eBase a0))], 17⟩ rfl rfl rfl ?_
  refine et (reg_pure (x := (dbd_way k a0 a1)) (w := fun v3 => (sI v3)) rfl rfl rfl rfl (p_call rfl rfl rfl rfl rfl (dbd_way_ok k a0 a1) (.inl rfl))) ?_
  refine bindE (fun v3 => ?_)
  exact bind_end rfl
theorem dbd_Way_ok (k : Nat) (a0 : T_api_Base) (a1 : Int) : EV k 85 [(eBase a0), (I a1)] = (dbd_Way k a0 a1).map dbd_Way_fin := by
  cases k with
  | zero => rfl
  | succ k =>
    unfold dbd_Way
    refine et (evF_succ (c := f85c) (N := 17) (regs := f85n) rfl func85 rfl (by decide) rfl rfl rfl) ?_
    refine et (k_region0 rfl (f85r0 k a0 a1)) ?_
    refine et k_assoc ?_
    refine et (k_region rfl (f85r1 k a0 a1)) ?_
    refine bindE (fun o2 => ?_)
    refine et k_assoc ?_
    refine et (k_region0 rfl (f85r2 k a0 a1 o2)) ?_
    refine et (k_cond (t := (o2 != 0)) rfl rfl) ?_
    refine bifE2 (fun hc => ?_) fun hc => ?_
    · rw [hc]
      refine et k_assoc ?_
      refine et (k_region0 rfl (f85r3 k a0 a1 o2)) ?_
      refine et k_ret ?_
      rfl
    · rw [hc]
      refine et k_skip ?_
      refine et (k_region rfl (f85r4 k a0 a1 o2)) ?_
      refine bindE (fun o4 => ?_)
      refine et k_lret ?_
      rfl
def dbd_Depth_fin : (Int × Int) → V × List V := fun r => (.tup [(I r.1), (I r.2)], [])
theorem f60r0 (k : Nat) (a0 : T_api_Base) (a1 : Int) : RE k f60a0 f60o0 false ⟨[(0, (eBase a0)), (1, (I a1))], [], 17⟩ = some ⟨[(1, (I a1)), (2, (Pt 2))], [(2, vS 4 (eBase a0))], 17⟩ :=
  rE rfl
theorem f60r1 (k : Nat) (a0 : T_api_Base) (a1 : Int) : RE k f60a1 f60o1 false ⟨[(1, (I a1)), (2, (Pt 2))], [(2, vS 4 (eBase a0))], 17⟩ = (((dbd_Way k a0 a1).bind fun v1 => (some (v1.1, v1.2)))).map (fun (o : (List Int) × Int) => (⟨[(6, (sI o.1)), (7, (I o.2))], [], 17⟩ : St)) := by
  refine rg ?_
  refine ra 2 2 ⟨[(1, (I a1)), (2, (Pt 2)), (9, (eBase a0)), (10, (I a1))], [(2, vS 4 (eBase a0))], 17⟩ rfl rfl rfl ?_
  refine et (reg_pure (x := (dbd_Way k a0 a1)) (w := fun v1 => (V.tup [(sI v1.1), (I v1.2)])) rfl rfl rfl rfl (p_call rfl rfl rfl rfl rfl (dbd_Way_ok k a0 a1) (.inl rfl))) ?_
  refine bindE (fun v1 => ?_)
  exact bind_end rfl
theorem f60r2 (k : Nat) (o2 : (List Int) × Int) : RE k f60a2 f60o2 false ⟨[(6, (sI o2.1)), (7, (I o2.2))], [], 17⟩ = some ⟨[(4, (I (o2.1.length : Int))), (5, (I o2.2))], [], 17⟩ := by
  refine rg ?_
  refine ra 1 1 ⟨[(6, (sI o2.1)), (7, (I o2.2)), (14, (sI o2.1))], [], 17⟩ rfl rfl rfl ?_
  refine et (reg_pure (x := some ()) (w := fun _ => (I (o2.1.length : Int))) rfl rfl rfl rfl (p_len (e := I) rfl rfl rfl rfl rfl rfl underlying87)) ?_
  refine et some_bind ?_
  exact bind_end rfl
theorem dbd_Depth_ok (k : Nat) (a0 : T_api_Base) (a1 : Int) : EV k 60 [(eBase a0), (I a1)] = (dbd_Depth k a0 a1).map dbd_Depth_fin := by
  cases k with
  | zero => rfl
  | succ k =>
    unfold dbd_Depth
    refine et (evF_succ (c := f60c) (N := 17) (regs := f60n) rfl func60 rfl (by decide) rfl rfl rfl) ?_
    refine et (k_region0 rfl (f60r0 k a0 a1)) ?_
    refine et (k_region rfl (f60r1 k a0 a1)) ?_
    refine bindE (fun o2 => ?_)
    refine et (k_region0 rfl (f60r2 k o2)) ?_
    refine et k_lret ?_
    rfl
def match_asked_fin : Int → V × List V := fun r => ((I r), [])
theorem f33r0 (k : Nat) (a0 : T_api_Base) (a1 : Int) : RE k f33a0 f33o0 false ⟨[(0, (eBase a0)), (1, (I a1))], [], 14⟩ = some ⟨[(1, (I a1)), (2, (Pt 2))], [(2, vS 4 (eBase a0))], 14⟩ :=
  rE rfl
theorem f33r1 (k : Nat) (a0 : T_api_Base) (a1 : Int) : RE k f33a1 f33o1 false ⟨[(1, (I a1)), (2, (Pt 2))], [(2, vS 4 (eBase a0))], 14⟩ = (((dbd_Depth k a0 a1).bind fun v1 => (some (v1.2)))).map (fun (o : Int) => (⟨[(6, (I o))], [], 14⟩ : St)) := by
  refine rg ?_
  refine ra 2 2 ⟨[(1, (I a1)), (2, (Pt 2)), (8, (eBase a0)), (9, (I a1))], [(2, vS 4 (eBase a0))], 14⟩ rfl rfl rfl ?_
  refine et (reg_pure (x := (dbd_Depth k a0 a1)) (w := fun v1 => (V.tup [(I v1.1), (I v1.2)])) rfl rfl rfl rfl (p_call rfl rfl rfl rfl rfl (dbd_Depth_ok k a0 a1) (.inl rfl))) ?_
  refine bindE (fun v1 => ?_)
  exact bind_end rfl
theorem f33r2 (k : Nat) (o2 : Int) : RE k f33a2 f33o2 false ⟨[(6, (I o2))], [], 14⟩ = some ⟨[(4, (I o2))], [], 14⟩ :=
  rE rfl
theorem match_asked_ok (k : Nat) (a0 : T_api_Base) (a1 : Int) : EV k 33 [(eBase a0), (I a1)] = (match_asked k a0 a1).map match_asked_fin := by
  cases k with
  | zero => rfl
  | succ k =>
    unfold match_asked
    refine et (evF_succ (c := f33c) (N := 14) (regs := f33n) rfl func33 rfl (by decide) rfl rfl rfl) ?_
    refine et (k_region0 rfl (f33r0 k a0 a1)) ?_
    refine et (k_region rfl (f33r1 k a0 a1)) ?_
    refine bindE (fun o2 => ?_)
    refine et (k_region0 rfl (f33r2 k o2)) ?_
    refine et k_lret ?_
    rfl
def slices_IndexFunc_TermLL_fin : Int → V × List V := fun r => ((I r), [])
theorem f84r0 (k : Nat) (a0 : (List (List (List T_api_Term)))) (a1 : Nat → (List (List T_api_Term)) → Option Bool) (a1_fid : Go.FuncId) (a1_c0 : V) (a1_hok : ∀ j x0, EV j a1_fid [(V.sl 0 1 (List.map sTerm x0)), V.pro a1_c0] = (a1 j x0).map fun b => ((Bo b), [])) : RE k f84a0 f84o0 false ⟨[(0, (V.sl 0 1 (List.map (fun x => (V.sl 0 1 (List.map sTerm x))) a0))), (1, (V.fn a1_fid [] [V.pro a1_c0]))], [], 19⟩ = some ⟨[(0, (V.sl 0 1 (List.map (fun x => (V.sl 0 1 (List.map sTerm x))) a0))), (1, (V.fn a1_fid [] [V.pro a1_c0]))], [], 19⟩ :=
  rE rfl
theorem f84r1 (k : Nat) (a0 : (List (List (List T_api_Term)))) (a1 : Nat → (List (List T_api_Term)) → Option Bool) (a1_fid : Go.FuncId) (a1_c0 : V) (a1_hok : ∀ j x0, EV j a1_fid [(V.sl 0 1 (List.map sTerm x0)), V.pro a1_c0] = (a1 j x0).map fun b => ((Bo b), [])) : RE k f84a1 f84o1 false ⟨[(0, (V.sl 0 1 (List.map (fun x => (V.sl 0 1 (List.map sTerm x))) a0))), (1, (V.fn a1_fid [] [V.pro a1_c0]))], [], 19⟩ = some ⟨[(0, (V.sl 0 1 (List.map (fun x => (V.sl 0 1 (List.map sTerm x))) a0))), (1, (V.fn a1_fid [] [V.pro a1_c0])), (7, (I (a0.length : Int))), (8, (I 0))], [], 19⟩ := by
  refine rg ?_
  refine ra 1 1 ⟨[(0, (V.sl 0 1 (List.map (fun x => (V.sl 0 1 (List.map sTerm x))) a0))), (1, (V.fn a1_fid [] [V.pro a1_c0])), (6, (V.sl 0 1 (List.map (fun x => (V.sl 0 1 (List.map sTerm x))) a0)))], [], 19⟩ rfl rfl rfl ?_
  refine et (reg_pure (x := some ()) (w := fun _ => (I (a0.length : Int))) rfl rfl rfl rfl (p_len (e := (fun x => (V.sl 0 1 (List.map sTerm x)))) rfl rfl rfl rfl rfl rfl underlying95)) ?_
  refine et some_bind ?_
  exact bind_end rfl
theorem f84r2 (k : Nat) (a0 : (List (List (List T_api_Term)))) (x4 : Int) (a1 : Nat → (List (List T_api_Term)) → Option Bool) (a1_fid : Go.FuncId) (a1_c0 : V) (a1_hok : ∀ j x0, EV j a1_fid [(V.sl 0 1 (List.map sTerm x0)), V.pro a1_c0] = (a1 j x0).map fun b => ((Bo b), [])) : RE k f84a2 f84o2 false ⟨[(0, (V.sl 0 1 (List.map (fun x => (V.sl 0 1 (List.map sTerm x))) a0))), (1, (V.fn a1_fid [] [V.pro a1_c0])), (7, (I (a0.length : Int))), (8, (I x4))], [], 19⟩ = some ⟨[(0, (V.sl 0 1 (List.map (fun x => (V.sl 0 1 (List.map sTerm x))) a0))), (1, (V.fn a1_fid [] [V.pro a1_c0])), (7, (I (a0.length : Int))), (8, (I x4)), (9, (Bo (decide (x4 < (a0.length : Int)))))], [], 19⟩ :=
  rE rfl
theorem f84r3 (k : Nat) (a0 : (List (List (List T_api_Term)))) (x4 : Int) (a1 : Nat → (List (List T_api_Term)) → Option Bool) (a1_fid : Go.FuncId) (a1_c0 : V) (a1_hok : ∀ j x0, EV j a1_fid [(V.sl 0 1 (List.map sTerm x0)), V.pro a1_c0] = (a1 j x0).map fun b => ((Bo b), [])) : RE k f84a3 f84o3 false ⟨[(0, (V.sl 0 1 (List.map (fun x => (V.sl 0 1 (List.map sTerm x))) a0))), (1, (V.fn a1_fid [] [V.pro a1_c0])), (7, (I (a0.length : Int))), (8, (I x4)), (9, (Bo true))], [], 19⟩ = some ⟨[(0, (V.sl 0 1 (List.map (fun x => (V.sl 0 1 (List.map sTerm x))) a0))), (1, (V.fn a1_fid [] [V.pro a1_c0])), (5, (I x4)), (7, (I (a0.length : Int))), (8, (I x4))], [], 19⟩ :=
  rE rfl
theorem f84r4 (k : Nat) (a0 : (List (List (List T_api_Term)))) (x4 : Int) (a1 : Nat → (List (List T_api_Term)) → Option Bool) (a1_fid : Go.FuncId) (a1_c0 : V) (a1_hok : ∀ j x0, EV j a1_fid [(V.sl 0 1 (List.map sTerm x0)), V.pro a1_c0] = (a1 j x0).map fun b => ((Bo b), [])) : RE k f84a4 f84o4 false ⟨[(0, (V.sl 0 1 (List.map (fun x => (V.sl 0 1 (List.map sTerm x))) a0))), (1, (V.fn a1_fid [] [V.pro a1_c0])), (5, (I x4)), (7, (I (a0.length : Int))), (8, (I x4))], [], 19⟩ = (((idx a0 x4).bind fun v5 => (a1 k v5))).map (fun (o : Bool) => (⟨[(0, (V.sl 0 1 (List.map (fun x => (V.sl 0 1 (List.map sTerm x))) a0))), (1, (V.fn a1_fid [] [V.pro a1_c0])), (5, (I x4)), (7, (I (a0.length : Int))), (8, (I x4)), (16, (Bo o))], [], 19⟩ : St)) := by
  refine rg ?_
  refine ra 3 3 ⟨[(0, (V.sl 0 1 (List.map (fun x => (V.sl 0 1 (List.map sTerm x))) a0))), (1, (V.fn a1_fid [] [V.pro a1_c0])), (5, (I x4)), (7, (I (a0.length : Int))), (8, (I x4)), (11, (V.fn a1_fid [] [V.pro a1_c0])), (12, (V.sl 0 1 (List.map (fun x => (V.sl 0 1 (List.map sTerm x))) a0))), (13, (I x4))], [], 19⟩ rfl rfl rfl ?_
  refine et (reg_pure (x := (idx a0 x4)) (w := fun v5 => (Pr (V.sl 0 1 (List.map sTerm v5)))) rfl rfl rfl rfl (p_index (e := (fun x => (V.sl 0 1 (List.map sTerm x)))) rfl rfl rfl underlying95 rfl (by decide))) ?_
  refine bindE (fun v5 => ?_)
  refine ba 1 5 ⟨[(0, (V.sl 0 1 (List.map (fun x => (V.sl 0 1 (List.map sTerm x))) a0))), (1, (V.fn a1_fid [] [V.pro a1_c0])), (5, (I x4)), (7, (I (a0.length : Int))), (8, (I x4)), (11, (V.fn a1_fid [] [V.pro a1_c0])), (12, (V.sl 0 1 (List.map (fun x => (V.sl 0 1 (List.map sTerm x))) a0))), (13, (I x4)), (14, (Pr (V.sl 0 1 (List.map sTerm v5)))), (15, (V.sl 0 1 (List.map sTerm v5)))], [], 19⟩ rfl rfl rfl ?_
  refine et (reg_pure (x := (a1 k v5)) (w := fun v6 => (Bo v6)) rfl rfl rfl rfl (p_call rfl rfl rfl rfl rfl (a1_hok k v5) (.inl rfl))) ?_
  refine bind_self (fun v6 => ?_)
  exact bind_end rfl
theorem f84r5 (k : Nat) (a0 : (List (List (List T_api_Term)))) (x4 : Int) (a1 : Nat → (List (List T_api_Term)) → Option Bool) (a1_fid : Go.FuncId) (a1_c0 : V) (a1_hok : ∀ j x0, EV j a1_fid [(V.sl 0 1 (List.map sTerm x0)), V.pro a1_c0] = (a1 j x0).map fun b => ((Bo b), [])) : RE k f84a5 f84o5 false ⟨[(0, (V.sl 0 1 (List.map (fun x => (V.sl 0 1 (List.map sTerm x))) a0))), (1, (V.fn a1_fid [] [V.pro a1_c0])), (5, (I x4)), (7, (I (a0.length : Int))), (8, (I x4)), (16, (Bo true))], [], 19⟩ = some ⟨[(4, (I x4))], [], 19⟩ :=
  rE rfl
theorem f84r6 (k : Nat) (a0 : (List (List (List T_api_Term)))) (x4 : Int) (a1 : Nat → (List (List T_api_Term)) → Option Bool) (a1_fid : Go.FuncId) (a1_c0 : V) (a1_hok : ∀ j x0, EV j a1_fid [(V.sl 0 1 (List.map sTerm x0)), V.pro a1_c0] = (a1 j x0).map fun b => ((Bo b), [])) : RE k f84a6 f84o6 false ⟨[(0, (V.sl 0 1 (List.map (fun x => (V.sl 0 1 (List.map sTerm x))) a0))), (1, (V.fn a1_fid [] [V.pro a1_c0])), (5, (I x4)), (7, (I (a0.length : Int))), (8, (I x4)), (16, (Bo false))], [], 19⟩ = some ⟨[(0, (V.sl 0 1 (List.map (fun x => (V.sl 0 1 (List.map sTerm x))) a0))), (1, (V.fn a1_fid [] [V.pro a1_c0])), (7, (I (a0.length : Int))), (8, (I (Go.IntKind.wrap .i64 (x4 + 1))))], [], 19⟩ :=
  rE rfl
theorem slices_IndexFunc_TermLL_L1_ok (k : Nat) (a0 : (List (List (List T_api_Term)))) (a1 : Nat → (List (List T_api_Term)) → Option Bool) (a1_fid : Go.FuncId) (a1_c0 : V) (a1_hok : ∀ j x0, EV j a1_fid [(V.sl 0 1 (List.map sTerm x0)), V.pro a1_c0] = (a1 j x0).map fun b => ((Bo b), [])) (K0 : Int → Option Int) (Kst : X × St → Option (V × List V)) (hK0 : ∀ (y0 : Int), Kst (X.exit 0, ⟨[(0, (V.sl 0 1 (List.map (fun x => (V.sl 0 1 (List.map sTerm x))) a0))), (1, (V.fn a1_fid [] [V.pro a1_c0])), (7, (I (a0.length : Int))), (8, (I y0)), (9, (Bo false))], [], 19⟩) = (K0 y0).map slices_IndexFunc_TermLL_fin) (hret : ∀ s, Kst (X.ret, s) = endK prog 19 [(V.sl 0 1 (List.map (fun x => (V.sl 0 1 (List.map sTerm x))) a0)), (V.fn a1_fid [] [V.pro a1_c0])] [] [.tmp 4] (X.ret, s)) :
    ∀ (m : Nat) (x4 : Int), (iter (exec prog (EV k) f84n k f84b0) m ⟨[(0, (V.sl 0 1 (List.map (fun x => (V.sl 0 1 (List.map sTerm x))) a0))), (1, (V.fn a1_fid [] [V.pro a1_c0])), (7, (I (a0.length : Int))), (8, (I x4))], [], 19⟩).bind Kst = (slices_IndexFunc_TermLL_L1 k a0 a1 K0 m x4).map slices_IndexFunc_TermLL_fin := by
  intro m
  induction m with
  | zero => intros; rfl
  | succ m ih =>
    intro x4
    unfold slices_IndexFunc_TermLL_L1
    refine et k_round ?_
    refine et (k_region0 rfl (f84r2 k a0 x4 a1 a1_fid a1_c0 a1_hok)) ?_
    refine et (k_cond (t := (decide (x4 < (a0.length : Int)))) rfl rfl) ?_
    refine bifE2 (fun hc => ?_) fun hc => ?_
    · rw [hc]
      refine et k_skip ?_
      refine et (k_block rfl) ?_
      refine et (k_region0 rfl (f84r3 k a0 x4 a1 a1_fid a1_c0 a1_hok)) ?_
      refine et (k_region rfl (f84r4 k a0 x4 a1 a1_fid a1_c0 a1_hok)) ?_
      refine bindE (fun o7 => ?_)
      refine et (k_lcond (t := o7) rfl rfl) ?_
      refine bifE2 (fun hc => ?_) fun hc => ?_
      · rw [hc]
        refine et (k_region0 rfl (f84r5 k a0 x4 a1 a1_fid a1_c0 a1_hok)) ?_
        refine et k_lret ?_
        refine et blk_ret ?_
        refine et loop_ret ?_
        refine et (hret _) ?_
        rfl
      · rw [hc]
        refine et k_lskip ?_
        refine et blk_normal ?_
        refine et (k_lregion0 rfl (f84r6 k a0 x4 a1 a1_fid a1_c0 a1_hok)) ?_
        refine et loop_normal ?_
        exact ih (Go.IntKind.wrap .i64 (x4 + 1))
    · rw [hc]
      refine et k_exit ?_
      refine et loop_exit ?_
      exact hK0 x4
theorem f84r7 (k : Nat) (a0 : (List (List (List T_api_Term)))) (y8 : Int) (a1 : Nat → (List (List T_api_Term)) → Option Bool) (a1_fid : Go.FuncId) (a1_c0 : V) (a1_hok : ∀ j x0, EV j a1_fid [(V.sl 0 1 (List.map sTerm x0)), V.pro a1_c0] = (a1 j x0).map fun b => ((Bo b), [])) : RE k f84a7 f84o7 false ⟨[(0, (V.sl 0 1 (List.map (fun x => (V.sl 0 1 (List.map sTerm x))) a0))), (1, (V.fn a1_fid [] [V.pro a1_c0])), (7, (I (a0.length : Int))), (8, (I y8)), (9, (Bo false))], [], 19⟩ = some ⟨[(4, (I (-1)))], [], 19⟩ :=
  rE rfl
theorem slices_IndexFunc_TermLL_ok (k : Nat) (a0 : (List (List (List T_api_Term)))) (a1 : Nat → (List (List T_api_Term)) → Option Bool) (a1_fid : Go.FuncId) (a1_c0 : V) (a1_hok : ∀ j x0, EV j a1_fid [(V.sl 0 1 (List.map sTerm x0)), V.pro a1_c0] = (a1 j x0).map fun b => ((Bo b), [])) : EV k 84 [(V.sl 0 1 (List.map (fun x => (V.sl 0 1 (List.map sTerm x))) a0)), (V.fn a1_fid [] [V.pro a1_c0])] = (slices_IndexFunc_TermLL k a0 a1).map slices_IndexFunc_TermLL_fin := by
  cases k with
  | zero => rfl
  | succ k =>
    unfold slices_IndexFunc_TermLL
    refine et (evF_succ (c := f84c) (N := 19) (regs := f84n) rfl func84 rfl (by decide) rfl rfl rfl) ?_
    refine et (k_region0 rfl (f84r0 k a0 a1 a1_fid a1_c0 a1_hok)) ?_
    refine et k_assoc ?_
    refine et (k_region0 rfl (f84r1 k a0 a1 a1_fid a1_c0 a1_hok)) ?_
    refine et (k_block rfl) ?_
    refine et k_loop ?_
    refine slices_IndexFunc_TermLL_L1_ok k a0 a1 a1_fid a1_c0 a1_hok _ _ ?h_slices_IndexFunc_TermLL_L1_0 ?hr_slices_IndexFunc_TermLL_L1 k 0
    · intro y8
      refine et blk_exit ?_
      refine et (k_region0 rfl (f84r7 k a0 y8 a1 a1_fid a1_c0 a1_hok)) ?_
      refine et k_lret ?_
      rfl
    · intro s; exact rfl
def slices_ContainsFunc_TermLL_fin : Bool → V × List V := fun r => ((Bo r), [])
theorem f58r0 (k : Nat) (a0 : (List (List (List T_api_Term)))) (a1 : Nat → (List (List T_api_Term)) → Option Bool) (a1_fid : Go.FuncId) (a1_c0 : V) (a1_hok : ∀ j x0, EV j a1_fid [(V.sl 0 1 (List.map sTerm x0)), V.pro a1_c0] = (a1 j x0).map fun b => ((Bo b), [])) : RE k f58a0 f58o0 false ⟨[(0, (V.sl 0 1 (List.map (fun x => (V.sl 0 1 (List.map sTerm x))) a0))), (1, (V.fn a1_fid [] [V.pro a1_c0]))], [], 9⟩ = some ⟨[(0, (V.sl 0 1 (List.map (fun x => (V.sl 0 1 (List.map sTerm x))) a0))), (1, (V.fn a1_fid [] [V.pro a1_c0]))], [], 9⟩ :=
  rE rfl
theorem f58r1 (k : Nat) (a0 : (List (List (List T_api_Term)))) (a1 : Nat → (List (List T_api_Term)) → Option Bool) (a1_fid : Go.FuncId) (a1_c0 : V) (a1_hok : ∀ j x0, EV j a1_fid [(V.sl 0 1 (List.map sTerm x0)), V.pro a1_c0] = (a1 j x0).map fun b => ((Bo b), [])) : RE k f58a1 f58o1 false ⟨[(0, (V.sl 0 1 (List.map (fun x => (V.sl 0 1 (List.map sTerm x))) a0))), (1, (V.fn a1_fid [] [V.pro a1_c0]))], [], 9⟩ = (((slices_IndexFunc_TermLL k a0 a1).bind fun v1 => (some ((decide (v1 ≥ 0)))))).map (fun (o : Bool) => (⟨[(4, (Bo o))], [], 9⟩ : St)) := by
  refine rg ?_
  refine ra 2 2 ⟨[(0, (V.sl 0 1 (List.map (fun x => (V.sl 0 1 (List.map sTerm x))) a0))), (1, (V.fn a1_fid [] [V.pro a1_c0])), (5, (V.sl 0 1 (List.map (fun x => (V.sl 0 1 (List.map sTerm x))) a0))), (6, (V.fn a1_fid [] [V.pro a1_c0]))], [], 9⟩ rfl rfl rfl ?_
  refine et (reg_pure (x := (slices_IndexFunc_TermLL k a0 a1)) (w := fun v1 => (I v1)) rfl rfl rfl rfl (p_call rfl rfl rfl rfl rfl (slices_IndexFunc_TermLL_ok k a0 a1 a1_fid a1_c0 a1_hok) (.inl rfl))) ?_
  refine bindE (fun v1 => ?_)
  exact bind_end rfl
theorem slices_ContainsFunc_TermLL_ok (k : Nat) (a0 : (List (List (List T_api_Term)))) (a1 : Nat → (List (List T_api_Term)) → Option Bool) (a1_fid : Go.FuncId) (a1_c0 : V) (a1_hok : ∀ j x0, EV j a1_fid [(V.sl 0 1 (List.map sTerm x0)), V.pro a1_c0] = (a1 j x0).map fun b => ((Bo b), [])) : EV k 58 [(V.sl 0 1 (List.map (fun x => (V.sl 0 1 (List.map sTerm x))) a0)), (V.fn a1_fid [] [V.pro a1_c0])] = (slices_ContainsFunc_TermLL k a0 a1).map slices_ContainsFunc_TermLL_fin := by
  cases k with
  | zero => rfl
  | succ k =>
    unfold slices_ContainsFunc_TermLL
    refine et (evF_succ (c := f58c) (N := 9) (regs := f58n) rfl func58 rfl (by decide) rfl rfl rfl) ?_
    refine et (k_region0 rfl (f58r0 k a0 a1 a1_fid a1_c0 a1_hok)) ?_
    refine et (k_region rfl (f58r1 k a0 a1 a1_fid a1_c0 a1_hok)) ?_
    refine bindE (fun o2 => ?_)
    refine et k_lret ?_
    rfl
def slices_IndexFunc_TermL_fin : Int → V × List V := fun r => ((I r), [])
theorem f72r0 (k : Nat) (a0 : (List (List T_api_Term))) (a1 : Nat → (List T_api_Term) → Option Bool) (a1_fid : Go.FuncId) (a1_c0 : V) (a1_hok : ∀ j x0, EV j a1_fid [(sTerm x0), V.pro a1_c0] = (a1 j x0).map fun b => ((Bo b), [])) : RE k f72a0 f72o0 false ⟨[(0, (V.sl 0 1 (List.map sTerm a0))), (1, (V.fn a1_fid [] [V.pro a1_c0]))], [], 19⟩ = some ⟨[(0, (V.sl 0 1 (List.map sTerm a0))), (1, (V.fn a1_fid [] [V.pro a1_c0]))], [], 19⟩ :=
  rE rfl
theorem f72r1 (k : Nat) (a0 : (List (List T_api_Term))) (a1 : Nat → (List T_api_Term) → Option Bool) (a1_fid : Go.FuncId) (a1_c0 : V) (a1_hok : ∀ j x0, EV j a1_fid [(sTerm x0), V.pro a1_c0] = (a1 j x0).map fun b => ((Bo b), [])) : RE k f72a1 f72o1 false ⟨[(0, (V.sl 0 1 (List.map sTerm a0))), (1, (V.fn a1_fid [] [V.pro a1_c0]))], [], 19⟩ = some ⟨[(0, (V.sl 0 1 (List.map sTerm a0))), (1, (V.fn a1_fid [] [V.pro a1_c0])), (7, (I (a0.length : Int))), (8, (I 0))], [], 19⟩ := by
  refine rg ?_
  refine ra 1 1 ⟨[(0, (V.sl 0 1 (List.map sTerm a0))), (1, (V.fn a1_fid [] [V.pro a1_c0])), (6, (V.sl 0 1 (List.map sTerm a0)))], [], 19⟩ rfl rfl rfl ?_
  refine et (reg_pure (x := some ()) (w := fun _ => (I (a0.length : Int))) rfl rfl rfl rfl (p_len (e := sTerm) rfl rfl rfl rfl rfl rfl underlying26)) ?_
  refine et some_bind ?_
  exact bind_end rfl
theorem f72r2 (k : Nat) (a0 : (List (List T_api_Term))) (x4 : Int) (a1 : Nat → (List T_api_Term) → Option Bool) (a1_fid : Go.FuncId) (a1_c0 : V) (a1_hok : ∀ j x0, EV j a1_fid [(sTerm x0), V.pro a1_c0] = (a1 j x0).map fun b => ((Bo b), [])) : RE k f72a2 f72o2 false ⟨[(0, (V.sl 0 1 (List.map sTerm a0))), (1, (V.fn a1_fid [] [V.pro a1_c0])), (7, (I (a0.length : Int))), (8, (I x4))], [], 19⟩ = some ⟨[(0, (V.sl 0 1 (List.map sTerm a0))), (1, (V.fn a1_fid [] [V.pro a1_c0])), (7, (I (a0.length : Int))), (8, (I x4)), (9, (Bo (decide (x4 < (a0.length : Int)))))], [], 19⟩ :=
  rE rfl
theorem f72r3 (k : Nat) (a0 : (List (List T_api_Term))) (x4 : Int) (a1 : Nat → (List T_api_Term) → Option Bool) (a1_fid : Go.FuncId) (a1_c0 : V) (a1_hok : ∀ j x0, EV j a1_fid [(sTerm x0), V.pro a1_c0] = (a1 j x0).map fun b => ((Bo b), [])) : RE k f72a3 f72o3 false ⟨[(0, (V.sl 0 1 (List.map sTerm a0))), (1, (V.fn a1_fid [] [V.pro a1_c0])), (7, (I (a0.length : Int))), (8, (I x4)), (9, (Bo true))], [], 19⟩ = some ⟨[(0, (V.sl 0 1 (List.map sTerm a0))), (1, (V.fn a1_fid [] [V.pro a1_c0])), (5, (I x4)), (7, (I (a0.length : Int))), (8, (I x4))], [], 19⟩ :=
  rE rfl
theorem f72r4 (k : Nat) (a0 : (List (List T_api_Term))) (x4 : Int) (a1 : Nat → (List T_api_Term) → Option Bool) (a1_fid : Go.FuncId) (a1_c0 : V) (a1_hok : ∀ j x0, EV j a1_fid [(sTerm x0), V.pro a1_c0] = (a1 j x0).map fun b => ((Bo b), [])) : RE k f72a4 f72o4 false ⟨[(0, (V.sl 0 1 (List.map sTerm a0))), (1, (V.fn a1_fid [] [V.pro a1_c0])), (5, (I x4)), (7, (I (a0.length : Int))), (8, (I x4))], [], 19⟩ = (((idx a0 x4).bind fun v5 => (a1 k v5))).map (fun (o : Bool) => (⟨[(0, (V.sl 0 1 (List.map sTerm a0))), (1, (V.fn a1_fid [] [V.pro a1_c0])), (5, (I x4)), (7, (I (a0.length : Int))), (8, (I x4)), (16, (Bo o))], [], 19⟩ : St)) := by
  refine rg ?_
  refine ra 3 3 ⟨[(0, (V.sl 0 1 (List.map sTerm a0))), (1, (V.fn a1_fid [] [V.pro a1_c0])), (5, (I x4)), (7, (I (a0.length : Int))), (8, (I x4)), (11, (V.fn a1_fid [] [V.pro a1_c0])), (12, (V.sl 0 1 (List.map sTerm a0))), (13, (I x4))], [], 19⟩ rfl rfl rfl ?_
  refine et (reg_pure (x := (idx a0 x4)) (w := fun v5 => (Pr (sTerm v5))) rfl rfl rfl rfl (p_index (e := sTerm) rfl rfl rfl underlying26 rfl (by decide))) ?_
  refine bindE (fun v5 => ?_)
  refine ba 1 5 ⟨[(0, (V.sl 0 1 (List.map sTerm a0))), (1, (V.fn a1_fid [] [V.pro a1_c0])), (5, (I x4)), (7, (I (a0.length : Int))), (8, (I x4)), (11, (V.fn a1_fid [] [V.pro a1_c0])), (12, (V.sl 0 1 (List.map sTerm a0))), (13, (I x4)), (14, (Pr (sTerm v5))), (15, (sTerm v5))], [], 19⟩ rfl rfl rfl ?_
  refine et (reg_pure (x := (a1 k v5)) (w := fun v6 => (Bo v6)) rfl rfl rfl rfl (p_call rfl rfl rfl rfl rfl (a1_hok k v5) (.inl rfl))) ?_
  refine bind_self (fun v6 => ?_)
  exact bind_end rfl
theorem f72r5 (k : Nat) (a0 : (List (List T_api_Term))) (x4 : Int) (a1 : Nat → (List T_api_Term) → Option Bool) (a1_fid : Go.FuncId) (a1_c0 : V) (a1_hok : ∀ j x0, EV j a1_fid [(sTerm x0), V.pro a1_c0] = (a1 j x0).map fun b => ((Bo b), [])) : RE k f72a5 f72o5 false ⟨[(0, (V.sl 0 1 (List.map sTerm a0))), (1, (V.fn a1_fid [] [V.pro a1_c0])), (5, (I x4)), (7, (I (a0.length : Int))), (8, (I x4)), (16, (Bo true))], [], 19⟩ = some ⟨[(4, (I x4))], [], 19⟩ :=
  rE rfl
theorem f72r6 (k : Nat) (a0 : (List (List T_api_Term))) (x4 : Int) (a1 : Nat → (List T_api_Term) → Option Bool) (a1_fid : Go.FuncId) (a1_c0 : V) (a1_hok : ∀ j x0, EV j a1_fid [(sTerm x0), V.pro a1_c0] = (a1 j x0).map fun b => ((Bo b), [])) : RE k f72a6 f72o6 false ⟨[(0, (V.sl 0 1 (List.map sTerm a0))), (1, (V.fn a1_fid [] [V.pro a1_c0])), (5, (I x4)), (7, (I (a0.length : Int))), (8, (I x4)), (16, (Bo false))], [], 19⟩ = some ⟨[(0, (V.sl 0 1 (List.map sTerm a0))), (1, (V.fn a1_fid [] [V.pro a1_c0])), (7, (I (a0.length : Int))), (8, (I (Go.IntKind.wrap .i64 (x4 + 1))))], [], 19⟩ :=
  rE rfl
theorem slices_IndexFunc_TermL_L1_ok (k : Nat) (a0 : (List (List T_api_Term))) (a1 : Nat → (List T_api_Term) → Option Bool) (a1_fid : Go.FuncId) (a1_c0 : V) (a1_hok : ∀ j x0, EV j a1_fid [(sTerm x0), V.pro a1_c0] = (a1 j x0).map fun b => ((Bo b), [])) (K0 : Int → Option Int) (Kst : X × St → Option (V × List V)) (hK0 : ∀ (y0 : Int), Kst (X.exit 0, ⟨[(0, (V.sl 0 1 (List.map sTerm a0))), (1, (V.fn a1_fid [] [V.pro a1_c0])), (7, (I (a0.length : Int))), (8, (I y0)), (9, (Bo false))], [], 19⟩) = (K0 y0).map slices_IndexFunc_TermL_fin) (hret : ∀ s, Kst (X.ret, s) = endK prog 19 [(V.sl 0 1 (List.map sTerm a0)), (V.fn a1_fid [] [V.pro a1_c0])] [] [.tmp 4] (X.ret, s)) :
    ∀ (m : Nat) (x4 : Int), (iter (exec prog (EV k) f72n k f72b0) m ⟨[(0, (V.sl 0 1 (List.map sTerm a0))), (1, (V.fn a1_fid [] [V.pro a1_c0])), (7, (I (a0.length : Int))), (8, (I x4))], [], 19⟩).bind Kst = (slices_IndexFunc_TermL_L1 k a0 a1 K0 m x4).map slices_IndexFunc_TermL_fin := by
  intro m
  induction m with
  | zero => intros; rfl
  | succ m ih =>
    intro x4
    unfold slices_IndexFunc_TermL_L1
    refine et k_round ?_
    refine et (k_region0 rfl (f72r2 k a0 x4 a1 a1_fid a1_c0 a1_hok)) ?_
    refine et (k_cond (t := (decide (x4 < (a0.length : Int)))) rfl rfl) ?_
    refine bifE2 (fun hc => ?_) fun hc => ?_
    · rw [hc]
      refine et k_skip ?_
      refine et (k_block rfl) ?_
      refine et (k_region0 rfl (f72r3 k a0 x4 a1 a1_fid a1_c0 a1_hok)) ?_
      refine et (k_region rfl (f72r4 k a0 x4 a1 a1_fid a1_c0 a1_hok)) ?_
      refine bindE (fun o7 => ?_)
      refine et (k_lcond (t := o7) rfl rfl) ?_
      refine bifE2 (fun hc => ?_) fun hc => ?_
      · rw [hc]
        refine et (k_region0 rfl (f72r5 k a0 x4 a1 a1_fid a1_c0 a1_hok)) ?_
        refine et k_lret ?_
        refine et blk_ret ?_
        refine et loop_ret ?_
        refine et (hret _) ?_
        rfl
      · rw [hc]
        refine et k_lskip ?_
        refine et blk_normal ?_
        refine et (k_lregion0 rfl (f72r6 k a0 x4 a1 a1_fid a1_c0 a1_hok)) ?_
        refine et loop_normal ?_
        exact ih (Go.IntKind.wrap .i64 (x4 + 1))
    · rw [hc]
      refine et k_exit ?_
      refine et loop_exit ?_
      exact hK0 x4
theorem f72r7 (k : Nat) (a0 : (List (List T_api_Term))) (y8 : Int) (a1 : Nat → (List T_api_Term) → Option Bool) (a1_fid : Go.FuncId) (a1_c0 : V) (a1_hok : ∀ j x0, EV j a1_fid [(sTerm x0), V.pro a1_c0] = (a1 j x0).map fun b => ((Bo b), [])) : RE k f72a7 f72o7 false ⟨[(0, (V.sl 0 1 (List.map sTerm a0))), (1, (V.fn a1_fid [] [V.pro a1_c0])), (7, (I (a0.length : Int))), (8, (I y8)), (9, (Bo false))], [], 19⟩ = some ⟨[(4, (I (-1)))], [], 19⟩ :=
  rE rfl
theorem slices_IndexFunc_TermL_ok (k : Nat) (a0 : (List (List T_api_Term))) (a1 : Nat → (List T_api_Term) → Option Bool) (a1_fid : Go.FuncId) (a1_c0 : V) (a1_hok : ∀ j x0, EV j a1_fid [(sTerm x0), V.pro a1_c0] = (a1 j x0).map fun b => ((Bo b), [])) : EV k 72 [(V.sl 0 1 (List.map sTerm a0)), (V.fn a1_fid [] [V.pro a1_c0])] = (slices_IndexFunc_TermL k a0 a1).map slices_IndexFunc_TermL_fin := by
  cases k with
  | zero => rfl
  | succ k =>
    unfold slices_IndexFunc_TermL
    refine et (evF_succ (c := f72c) (N := 19) (regs := f72n) rfl func72 rfl (by decide) rfl rfl rfl) ?_
    refine et (k_region0 rfl (f72r0 k a0 a1 a1_fid a1_c0 a1_hok)) ?_
    refine et k_assoc ?_
    refine et (k_region0 rfl (f72r1 k a0 a1 a1_fid a1_c0 a1_hok)) ?_
    refine et (k_block rfl) ?_
    refine et k_loop ?_
    refine slices_IndexFunc_TermL_L1_ok k a0 a1 a1_fid a1_c0 a1_hok _ _ ?h_slices_IndexFunc_TermL_L1_0 ?hr_slices_IndexFunc_TermL_L1 k 0
    · intro y8
      refine et blk_exit ?_
      refine et (k_region0 rfl (f72r7 k a0 y8 a1 a1_fid a1_c0 a1_hok)) ?_
      refine et k_lret ?_
      rfl
    · intro s; exact rfl
def slices_ContainsFunc_TermL_fin : Bool → V × List V := fun r => ((Bo r), [])
theorem f44r0 (k : Nat) (a0 : (List (List T_api_Term))) (a1 : Nat → (List T_api_Term) → Option Bool) (a1_fid : Go.FuncId) (a1_c0 : V) (a1_hok : ∀ j x0, EV j a1_fid [(sTerm x0), V.pro a1_c0] = (a1 j x0).map fun b => ((Bo b), [])) : RE k f44a0 f44o0 false ⟨[(0, (V.sl 0 1 (List.map sTerm a0))), (1, (V.fn a1_fid [] [V.pro a1_c0]))], [], 9⟩ = some ⟨[(0, (V.sl 0 1 (List.map sTerm a0))), (1, (V.fn a1_fid [] [V.pro a1_c0]))], [], 9⟩ :=
  rE rfl
theorem f44r1 (k : Nat) (a0 : (List (List T_api_Term))) (a1 : Nat → (List T_api_Term) → Option Bool) (a1_fid : Go.FuncId) (a1_c0 : V) (a1_hok : ∀ j x0, EV j a1_fid [(sTerm x0), V.pro a1_c0] = (a1 j x0).map fun b => ((Bo b), [])) : RE k f44a1 f44o1 false ⟨[(0, (V.sl 0 1 (List.map sTerm a0))), (1, (V.fn a1_fid [] [V.pro a1_c0]))], [], 9⟩ = (((slices_IndexFunc_TermL k a0 a1).bind fun v1 => (some ((decide (v1 ≥ 0)))))).map (fun (o : Bool) => (⟨[(4, (Bo o))], [], 9⟩ : St)) := by
  refine rg ?_
  refine ra 2 2 ⟨[(0, (V.sl 0 1 (List.map sTerm a0))), (1, (V.fn a1_fid [] [V.pro a1_c0])), (5, (V.sl 0 1 (List.map sTerm a0))), (6, (V.fn a1_fid [] [V.pro a1_c0]))], [], 9⟩ rfl rfl rfl ?_
  refine et (reg_pure (x := (slices_IndexFunc_TermL k a0 a1)) (w := fun v1 => (I v1)) rfl rfl rfl rfl (p_call rfl rfl rfl rfl rfl (slices_IndexFunc_TermL_ok k a0 a1 a1_fid a1_c0 a1_hok) (.inl rfl))) ?_
  refine bindE (fun v1 => ?_)
  exact bind_end rfl
theorem slices_ContainsFunc_TermL_ok (k : Nat) (a0 : (List (List T_api_Term))) (a1 : Nat → (List T_api_Term) → Option Bool) (a1_fid : Go.FuncId) (a1_c0 : V) (a1_hok : ∀ j x0, EV j a1_fid [(sTerm x0), V.pro a1_c0] = (a1 j x0).map fun b => ((Bo b), [])) : EV k 44 [(V.sl 0 1 (List.map sTerm a0)), (V.fn a1_fid [] [V.pro a1_c0])] = (slices_ContainsFunc_TermL k a0 a1).map slices_ContainsFunc_TermL_fin := by
  cases k with
  | zero => rfl
  | succ k =>
    unfold slices_ContainsFunc_TermL
    refine et (evF_succ (c := f44c) (N := 9) (regs := f44n) rfl func44 rfl (by decide) rfl rfl rfl) ?_
    refine et (k_region0 rfl (f44r0 k a0 a1 a1_fid a1_c0 a1_hok)) ?_
    refine et (k_region rfl (f44r1 k a0 a1 a1_fid a1_c0 a1_hok)) ?_
    refine bindE (fun o2 => ?_)
    refine et k_lret ?_
    rfl
def slices_IndexFunc_Term_fin : Int → V × List V := fun r => ((I r), [])
theorem f71r0 (k : Nat) (a0 : (List T_api_Term)) (a1 : Nat → T_api_Term → Option Bool) (a1_fid : Go.FuncId) (a1_c0 : V) (a1_hok : ∀ j x0, EV j a1_fid [(eTerm x0), V.pro a1_c0] = (a1 j x0).map fun b => ((Bo b), [])) : RE k f71a0 f71o0 false ⟨[(0, (sTerm a0)), (1, (V.fn a1_fid [] [V.pro a1_c0]))], [], 19⟩ = some ⟨[(0, (sTerm a0)), (1, (V.fn a1_fid [] [V.pro a1_c0]))], [], 19⟩ :=
  rE rfl
theorem f71r1 (k : Nat) (a0 : (List T_api_Term)) (a1 : Nat → T_api_Term → Option Bool) (a1_fid : Go.FuncId) (a1_c0 : V) (a1_hok : ∀ j x0, EV j a1_fid [(eTerm x0), V.pro a1_c0] = (a1 j x0).map fun b => ((Bo b), [])) : RE k f71a1 f71o1 false ⟨[(0, (sTerm a0)), (1, (V.fn a1_fid [] [V.pro a1_c0]))], [], 19⟩ = some ⟨[(0, (sTerm a0)), (1, (V.fn a1_fid [] [V.pro a1_c0])), (7, (I (a0.length : Int))), (8, (I 0))], [], 19⟩ := by
  refine rg ?_
  refine ra 1 1 ⟨[(0, (sTerm a0)), (1, (V.fn a1_fid [] [V.pro a1_c0])), (6, (sTerm a0))], [], 19⟩ rfl rfl rfl ?_
  refine et (reg_pure (x := some ()) (w := fun _ => (I (a0.length : Int))) rfl rfl rfl rfl (p_len (e := eTerm) rfl rfl rfl rfl rfl rfl underlying50)) ?_
  refine et some_bind ?_
  exact bind_end rfl
theorem f71r2 (k : Nat) (a0 : (List T_api_Term)) (x4 : Int) (a1 : Nat → T_api_Term → Option Bool) (a1_fid : Go.FuncId) (a1_c0 : V) (a1_hok : ∀ j x0, EV j a1_fid [(eTerm x0), V.pro a1_c0] = (a1 j x0).map fun b => ((Bo b), [])) : RE k f71a2 f71o2 false ⟨[(0, (sTerm a0)), (1, (V.fn a1_fid [] [V.pro a1_c0])), (7, (I (a0.length : Int))), (8, (I x4))], [], 19⟩ = some ⟨[(0, (sTerm a0)), (1, (V.fn a1_fid [] [V.pro a1_c0])), (7, (I (a0.length : Int))), (8, (I x4)), (9, (Bo (decide (x4 < (a0.length : Int)))))], [], 19⟩ :=
  rE rfl
theorem f71r3 (k : Nat) (a0 : (List T_api_Term)) (x4 : Int) (a1 : Nat → T_api_Term → Option Bool) (a1_fid : Go.FuncId) (a1_c0 : V) (a1_hok : ∀ j x0, EV j a1_fid [(eTerm x0), V.pro a1_c0] = (a1 j x0).map fun b => ((Bo b), [])) : RE k f71a3 f71o3 false ⟨[(0, (sTerm a0)), (1, (V.fn a1_fid [] [V.pro a1_c0])), (7, (I (a0.length : Int))), (8, (I x4)), (9, (Bo true))], [], 19⟩ = some ⟨[(0, (sTerm a0)), (1, (V.fn a1_fid [] [V.pro a1_c0])), (5, (I x4)), (7, (I (a0.length : Int))), (8, (I x4))], [], 19⟩ :=
  rE rfl
theorem f71r4 (k : Nat) (a0 : (List T_api_Term)) (x4 : Int) (a1 : Nat → T_api_Term → Option Bool) (a1_fid : Go.FuncId) (a1_c0 : V) (a1_hok : ∀ j x0, EV j a1_fid [(eTerm x0), V.pro a1_c0] = (a1 j x0).map fun b => ((Bo b), [])) : RE k f71a4 f71o4 false ⟨[(0, (sTerm a0)), (1, (V.fn a1_fid [] [V.pro a1_c0])), (5, (I x4)), (7, (I (a0.length : Int))), (8, (I x4))], [], 19⟩ = (((idx a0 x4).bind fun v5 => (a1 k v5))).map (fun (o : Bool) => (⟨[(0, (sTerm a0)), (1, (V.fn a1_fid [] [V.pro a1_c0])), (5, (I x4)), (7, (I (a0.length : Int))), (8, (I x4)), (16, (Bo o))], [], 19⟩ : St)) := by
  refine rg ?_
  refine ra 3 3 ⟨[(0, (sTerm a0)), (1, (V.fn a1_fid [] [V.pro a1_c0])), (5, (I x4)), (7, (I (a0.length : Int))), (8, (I x4)), (11, (V.fn a1_fid [] [V.pro a1_c0])), (12, (sTerm a0)), (13, (I x4))], [], 19⟩ rfl rfl rfl ?_
  refine et (reg_pure (x := (idx a0 x4)) (w := fun v5 => (Pr (eTerm v5))) rfl rfl rfl rfl (p_index (e := eTerm) rfl rfl rfl underlying50 rfl (by decide))) ?_
  refine bindE (fun v5 => ?_)
  refine ba 1 5 ⟨[(0, (sTerm a0)), (1, (V.fn a1_fid [] [V.pro a1_c0])), (5, (I x4)), (7, (I (a0.length : Int))), (8, (I x4)), (11, (V.fn a1_fid [] [V.pro a1_c0])), (12, (sTerm a0)), (13, (I x4)), (14, (Pr (eTerm v5))), (15, (eTerm v5))], [], 19⟩ rfl rfl rfl ?_
  refine et (reg_pure (x := (a1 k v5)) (w := fun v6 => (Bo v6)) rfl rfl rfl rfl (p_call rfl rfl rfl rfl rfl (a1_hok k v5) (.inl rfl))) ?_
  refine bind_self (fun v6 => ?_)
  exact bind_end rfl
theorem f71r5 (k : Nat) (a0 : (List T_api_Term)) (x4 : Int) (a1 : Nat → T_api_Term → Option Bool) (a1_fid : Go.FuncId) (a1_c0 : V) (a1_hok : ∀ j x0, EV j a1_fid [(eTerm x0), V.pro a1_c0] = (a1 j x0).map fun b => ((Bo b), [])) : RE k f71a5 f71o5 false ⟨[(0, (sTerm a0)), (1, (V.fn a1_fid [] [V.pro a1_c0])), (5, (I x4)), (7, (I (a0.length : Int))), (8, (I x4)), (16, (Bo true))], [], 19⟩ = some ⟨[(4, (I x4))], [], 19⟩ :=
  rE rfl
theorem f71r6 (k : Nat) (a0 : (List T_api_Term)) (x4 : Int) (a1 : Nat → T_api_Term → Option Bool) (a1_fid : Go.FuncId) (a1_c0 : V) (a1_hok : ∀ j x0, EV j a1_fid [(eTerm x0), V.pro a1_c0] = (a1 j x0).map fun b => ((Bo b), [])) : RE k f71a6 f71o6 false ⟨[(0, (sTerm a0)), (1, (V.fn a1_fid [] [V.pro a1_c0])), (5, (I x4)), (7, (I (a0.length : Int))), (8, (I x4)), (16, (Bo false))], [], 19⟩ = some ⟨[(0, (sTerm a0)), (1, (V.fn a1_fid [] [V.pro a1_c0])), (7, (I (a0.length : Int))), (8, (I (Go.IntKind.wrap .i64 (x4 + 1))))], [], 19⟩ :=
  rE rfl
theorem slices_IndexFunc_Term_L1_ok (k : Nat) (a0 : (List T_api_Term)) (a1 : Nat → T_api_Term → Option Bool) (a1_fid : Go.FuncId) (a1_c0 : V) (a1_hok : ∀ j x0, EV j a1_fid [(eTerm x0), V.pro a1_c0] = (a1 j x0).map fun b => ((Bo b), [])) (K0 : Int → Option Int) (Kst : X × St → Option (V × List V)) (hK0 : ∀ (y0 : Int), Kst (X.exit 0, ⟨[(0, (sTerm a0)), (1, (V.fn a1_fid [] [V.pro a1_c0])), (7, (I (a0.length : Int))), (8, (I y0)), (9, (Bo false))], [], 19⟩) = (K0 y0).map slices_IndexFunc_Term_fin) (hret : ∀ s, Kst (X.ret, s) = endK prog 19 [(sTerm a0), (V.fn a1_fid [] [V.pro a1_c0])] [] [.tmp 4] (X.ret, s)) :
    ∀ (m : Nat) (x4 : Int), (iter (exec prog (EV k) f71n k f71b0) m ⟨[(0, (sTerm a0)), (1, (V.fn a1_fid [] [V.pro a1_c0])), (7, (I (a0.length : Int))), (8, (I x4))], [], 19⟩).bind Kst = (slices_IndexFunc_Term_L1 k a0 a1 K0 m x4).map slices_IndexFunc_Term_fin := by
  intro m
  induction m with
  | zero => intros; rfl
  | succ m ih =>
    intro x4
    unfold slices_IndexFunc_Term_L1
    refine et k_round ?_
    refine et (k_region0 rfl (f71r2 k a0 x4 a1 a1_fid a1_c0 a1_hok)) ?_
    refine et (k_cond (t := (decide (x4 < (a0.length : Int)))) rfl rfl) ?_
    refine bifE2 (fun hc => ?_) fun hc => ?_
    · rw [hc]
      refine et k_skip ?_
      refine et (k_block rfl) ?_
      refine et (k_region0 rfl (f71r3 k a0 x4 a1 a1_fid a1_c0 a1_hok)) ?_
      refine et (k_region rfl (f71r4 k a0 x4 a1 a1_fid a1_c0 a1_hok)) ?_
      refine bindE (fun o7 => ?_)
      refine et (k_lcond (t := o7) rfl rfl) ?_
      refine bifE2 (fun hc => ?_) fun hc => ?_
      · rw [hc]
        refine et (k_region0 rfl (f71r5 k a0 x4 a1 a1_fid a1_c0 a1_hok)) ?_
        refine et k_lret ?_
        refine et blk_ret ?_
        refine et loop_ret ?_
        refine et (hret _) ?_
        rfl
      · rw [hc]
        refine et k_lskip ?_
        refine et blk_normal ?_
        refine et (k_lregion0 rfl (f71r6 k a0 x4 a1 a1_fid a1_c0 a1_hok)) ?_
        refine et loop_normal ?_
        exact ih (Go.IntKind.wrap .i64 (x4 + 1))
    · rw [hc]
      refine et k_exit ?_
      refine et loop_exit ?_
      exact hK0 x4
theorem f71r7 (k : Nat) (a0 : (List T_api_Term)) (y8 : Int) (a1 : Nat → T_api_Term → Option Bool) (a1_fid : Go.FuncId) (a1_c0 : V) (a1_hok : ∀ j x0, EV j a1_fid [(eTerm x0), V.pro a1_c0] = (a1 j x0).map fun b => ((Bo b), [])) : RE k f71a7 f71o7 false ⟨[(0, (sTerm a0)), (1, (V.fn a1_fid [] [V.pro a1_c0])), (7, (I (a0.length : Int))), (8, (I y8)), (9, (Bo false))], [], 19⟩ = some ⟨[(4, (I (-1)))], [], 19⟩ :=
  rE rfl
theorem slices_IndexFunc_Term_ok (k : Nat) (a0 : (List T_api_Term)) (a1 : Nat → T_api_Term → Option Bool) (a1_fid : Go.FuncId) (a1_c0 : V) (a1_hok : ∀ j x0, EV j a1_fid [(eTerm x0), V.pro a1_c0] = (a1 j x0).map fun b => ((Bo b), [])) : EV k 71 [(sTerm a0), (V.fn a1_fid [] [V.pro a1_c0])] = (slices_IndexFunc_Term k a0 a1).map slices_IndexFunc_Term_fin := by
  cases k with
  | zero => rfl
  | succ k =>
    unfold slices_IndexFunc_Term
    refine et (evF_succ (c := f71c) (N := 19) (regs := f71n) rfl func71 rfl (by decide) rfl rfl rfl) ?_
    refine et (k_region0 rfl (f71r0 k a0 a1 a1_fid a1_c0 a1_hok)) ?_
    refine et k_assoc ?_
    refine et (k_region0 rfl (f71r1 k a0 a1 a1_fid a1_c0 a1_hok)) ?_
    refine et (k_block rfl) ?_
    refine et k_loop ?_
    refine slices_IndexFunc_Term_L1_ok k a0 a1 a1_fid a1_c0 a1_hok _ _ ?h_slices_IndexFunc_Term_L1_0 ?hr_slices_IndexFunc_Term_L1 k 0
    · intro y8
      refine et blk_exit ?_
      refine et (k_region0 rfl (f71r7 k a0 y8 a1 a1_fid a1_c0 a1_hok)) ?_
      refine et k_lret ?_
      rfl
    · intro s; exact rfl
def slices_ContainsFunc_Term_fin : Bool → V × List V := fun r => ((Bo r), [])
theorem f42r0 (k : Nat) (a0 : (List T_api_Term)) (a1 : Nat → T_api_Term → Option Bool) (a1_fid : Go.FuncId) (a1_c0 : V) (a1_hok : ∀ j x0, EV j a1_fid [(eTerm x0), V.pro a1_c0] = (a1 j x0).map fun b => ((Bo b), [])) : RE k f42a0 f42o0 false ⟨[(0, (sTerm a0)), (1, (V.fn a1_fid [] [V.pro a1_c0]))], [], 9⟩ = some ⟨[(0, (sTerm a0)), (1, (V.fn a1_fid [] [V.pro a1_c0]))], [], 9⟩ :=
  rE rfl
theorem f42r1 (k : Nat) (a0 : (List T_api_Term)) (a1 : Nat → T_api_Term → Option Bool) (a1_fid : Go.FuncId) (a1_c0 : V) (a1_hok : ∀ j x0, EV j a1_fid [(eTerm x0), V.pro a1_c0] = (a1 j x0).map fun b => ((Bo b), [])) : RE k f42a1 f42o1 false ⟨[(0, (sTerm a0)), (1, (V.fn a1_fid [] [V.pro a1_c0]))], [], 9⟩ = (((slices_IndexFunc_Term k a0 a1).bind fun v1 => (some ((decide (v1 ≥ 0)))))).map (fun (o : Bool) => (⟨[(4, (Bo o))], [], 9⟩ : St)) := by
  refine rg ?_
  refine ra 2 2 ⟨[(0, (sTerm a0)), (1, (V.fn a1_fid [] [V.pro a1_c0])), (5, (sTerm a0)), (6, (V.fn a1_fid [] [V.pro a1_c0]))], [], 9⟩ rfl rfl rfl ?_
  refine et (reg_pure (x := (slices_IndexFunc_Term k a0 a1)) (w := fun v1 => (I v1)) rfl rfl rfl rfl (p_call rfl rfl rfl rfl rfl (slices_IndexFunc_Term_ok k a0 a1 a1_fid a1_c0 a1_hok) (.inl rfl))) ?_
  refine bindE (fun v1 => ?_)
  exact bind_end rfl
theorem slices_ContainsFunc_Term_ok (k : Nat) (a0 : (List T_api_Term)) (a1 : Nat → T_api_Term → Option Bool) (a1_fid : Go.FuncId) (a1_c0 : V) (a1_hok : ∀ j x0, EV j a1_fid [(eTerm x0), V.pro a1_c0] = (a1 j x0).map fun b => ((Bo b), [])) : EV k 42 [(sTerm a0), (V.fn a1_fid [] [V.pro a1_c0])] = (slices_ContainsFunc_Term k a0 a1).map slices_ContainsFunc_Term_fin := by
  cases k with
  | zero => rfl
  | succ k =>
    unfold slices_ContainsFunc_Term
    refine et (evF_succ (c := f42c) (N := 9) (regs := f42n) rfl func42 rfl (by decide) rfl rfl rfl) ?_
    refine et (k_region0 rfl (f42r0 k a0 a1 a1_fid a1_c0 a1_hok)) ?_
    refine et (k_region rfl (f42r1 k a0 a1 a1_fid a1_c0 a1_hok)) ?_
    refine bindE (fun o2 => ?_)
    refine et k_lret ?_
    rfl
def match_field_1_fin : Bool → V × List V := fun r => ((Bo r), [])
theorem f69r0 (k : Nat) (a0 : T_api_Field) (a1 : Str) : RE k f69a0 f69o0 false ⟨[(0, (eField a0)), (1, (Pr (Sr a1)))], [], 8⟩ = some ⟨[(1, (Pr (Sr a1))), (2, (Pt 2))], [(2, vS 3 (eField a0))], 8⟩ :=
  rE rfl
theorem f69r1 (k : Nat) (a0 : T_api_Field) (a1 : Str) : RE k f69a1 f69o1 false ⟨[(1, (Pr (Sr a1))), (2, (Pt 2))], [(2, vS 3 (eField a0))], 8⟩ = some ⟨[(3, (Bo (a0.fName == a1)))], [], 8⟩ :=
  rE rfl
theorem match_field_1_ok (k : Nat) (a0 : T_api_Field) (a1 : Str) : EV k 69 [(eField a0), (Pr (Sr a1))] = (match_field_1 k a0 a1).map match_field_1_fin := by
  cases k with
  | zero => rfl
  | succ k =>
    unfold match_field_1
    refine et (evF_succ (c := f69c) (N := 8) (regs := f69n) rfl func69 rfl (by decide) rfl rfl rfl) ?_
    refine et (k_region0 rfl (f69r0 k a0 a1)) ?_
    refine et (k_region0 rfl (f69r1 k a0 a1)) ?_
    refine et k_lret ?_
    rfl
def match_field_fin : (Int × Bool) → V × List V := fun r => (.tup [(I r.1), (Bo r.2)], [])
theorem f39r0 (k : Nat) (a0 : T_api_Type) (a1 : Str) : RE k f39a0 f39o0 false ⟨[(0, (eType a0)), (1, (Sr a1))], [], 14⟩ = some ⟨[(2, (Pt 2)), (3, (Pt 3))], [(2, vS 8 (eType a0)), (3, vS 1 (Sr a1))], 14⟩ :=
  rE rfl
theorem f39r1 (k : Nat) (a0 : T_api_Type) (a1 : Str) : RE k f39a1 f39o1 false ⟨[(2, (Pt 2)), (3, (Pt 3))], [(2, vS 8 (eType a0)), (3, vS 1 (Sr a1))], 14⟩ = ((slices_IndexFunc_Field k a0.fFields (fun j x0 => (match_field_1 j x0 a1)))).map (fun (o : Int) => (⟨[(6, (I o))], [], 14⟩ : St)) := by
  refine rg ?_
  refine ra 3 3 ⟨[(2, (Pt 2)), (3, (Pt 3)), (7, (V.ptr 2 0 4)), (8, (sField a0.fFields)), (9, (V.fn 69 [] [(Pt 3)]))], [(2, vS 8 (eType a0)), (3, vS 1 (Sr a1))], 14⟩ rfl rfl rfl ?_
  refine et (reg_pure (x := (slices_IndexFunc_Field k a0.fFields (fun j x0 => (match_field_1 j x0 a1)))) (w := fun v1 => (I v1)) rfl rfl rfl rfl (p_call rfl rfl rfl rfl rfl (slices_IndexFunc_Field_ok k a0.fFields (fun j x0 => (match_field_1 j x0 a1)) 69 (Sr a1) (fun j x0 => (match_field_1_ok j x0 a1))) (.inr (fun _ => rfl)))) ?_
  refine bind_self (fun v1 => ?_)
  exact bind_end rfl
theorem f39r2 (k : Nat) (o2 : Int) : RE k f39a2 f39o2 false ⟨[(6, (I o2))], [], 14⟩ = some ⟨[(4, (I o2)), (5, (Bo (decide (o2 ≥ 0))))], [], 14⟩ :=
  rE rfl
theorem match_field_ok (k : Nat) (a0 : T_api_Type) (a1 : Str) : EV k 39 [(eType a0), (Sr a1)] = (match_field k a0 a1).map match_field_fin := by
  cases k with
  | zero => rfl
  | succ k =>
    unfold match_field
    refine et (evF_succ (c := f39c) (N := 14) (regs := f39n) rfl func39 rfl (by decide) rfl rfl rfl) ?_
    refine et (k_region0 rfl (f39r0 k a0 a1)) ?_
    refine et (k_region rfl (f39r1 k a0 a1)) ?_
    refine bindE (fun o2 => ?_)
    refine et (k_region0 rfl (f39r2 k o2)) ?_
    refine et k_lret ?_
    rfl
def match_isTerm_fin : Bool → V × List V := fun r => ((Bo r), [])
theorem f63r0 (k : Nat) (a0 : T_api_Type) (a1 : T_api_Term) : RE k f63a0 f63o0 false ⟨[(0, (eType a0)), (1, (eTerm a1))], [], 37⟩ = some ⟨[(2, (Pt 2)), (3, (Pt 3))], [(2, vS 8 (eType a0)), (3, vS 3 (eTerm a1))], 37⟩ :=
  rE rfl
theorem f63r1 (k : Nat) (a0 : T_api_Type) (a1 : T_api_Term) : RE k f63a1 f63o1 false ⟨[(2, (Pt 2)), (3, (Pt 3))], [(2, vS 8 (eType a0)), (3, vS 3 (eTerm a1))], 37⟩ = (((match_field k a0 a1.fField).bind fun v1 => (some (v1.1, v1.2)))).map (fun (o : Int × Bool) => (⟨[(2, (Pt 2)), (3, (Pt 3)), (5, (I o.1)), (6, (Bo o.2))], [(2, vS 8 (eType a0)), (3, vS 3 (eTerm a1))], 37⟩ : St)) := by
  refine rg ?_
  refine ra 3 3 ⟨[(2, (Pt 2)), (3, (Pt 3)), (8, (eType a0)), (9, (Pt 3)), (10, (Sr a1.fField))], [(2, vS 8 (eType a0)), (3, vS 3 (eTerm a1))], 37⟩ rfl rfl rfl ?_
  refine et (reg_pure (x := (match_field k a0 a1.fField)) (w := fun v1 => (V.tup [(I v1.1), (Bo v1.2)])) rfl rfl rfl rfl (p_call rfl rfl rfl rfl rfl (match_field_ok k a0 a1.fField) (.inl rfl))) ?_
  refine bindE (fun v1 => ?_)
  exact bind_end rfl
theorem f63r2 (k : Nat) (a0 : T_api_Type) (a1 : T_api_Term) (o2 : Int × Bool) : RE k f63a2 f63o2 true ⟨[(2, (Pt 2)), (3, (Pt 3)), (5, (I o2.1)), (6, (Bo o2.2))], [(2, vS 8 (eType a0)), (3, vS 3 (eTerm a1))], 37⟩ = ((bif o2.2 then (bif (decide (a1.fOp ≥ 1)) then (bif (decide (a1.fOp ≤ 6)) then ((idx a0.fFields o2.1).bind fun v3 => (some (((a1.fValue.length : Int) == v3.fBytes)))) else (some (false))) else (some (false))) else (some (false)))).map (fun (o : Bool) => (⟨[(4, (Bo o))], [], 37⟩ : St)) := by
  refine et (regionE_regp (p := 24) (dk := true) (t := [(2, (Pt 2)), (3, (Pt 3)), (5, (I o2.1)), (6, (Bo o2.2))]) (σ := [(2, vS 8 (eType a0)), (3, vS 3 (eTerm a1))]) (n := 37) rfl (by decide) (by decide) rfl) ?_
  refine et (regp_adv (m := 2) (j := 2) (t' := [(2, (Pt 2)), (3, (Pt 3)), (5, (I o2.1)), (6, (Bo o2.2)), (14, (Bo o2.2)), (15, (Bo o2.2))]) rfl rfl rfl) ?_
  refine bifE (c := o2.2) (fun hc => ?_) fun hc => ?_
  · rw [hc]
    refine et (regp_adv (m := 5) (j := 7) (t' := [(2, (Pt 2)), (3, (Pt 3)), (5, (I o2.1)), (6, (Bo true)), (14, (Bo true)), (15, (Bo true)), (16, (V.ptr 3 0 1)), (17, (I a1.fOp)), (18, (Bo (decide (a1.fOp ≥ 1)))), (19, (Bo (decide (a1.fOp ≥ 1)))), (20, (Bo (decide (a1.fOp ≥ 1))))]) rfl rfl rfl) ?_
    refine bifE (c := (decide (a1.fOp ≥ 1))) (fun hc => ?_) fun hc => ?_
    · rw [hc]
      refine et (regp_adv (m := 5) (j := 12) (t' := [(2, (Pt 2)), (3, (Pt 3)), (5, (I o2.1)), (6, (Bo true)), (14, (Bo true)), (15, (Bo true)), (16, (V.ptr 3 0 1)), (17, (I a1.fOp)), (18, (Bo true)), (19, (Bo true)), (20, (Bo true)), (21, (V.ptr 3 0 1)), (22, (I a1.fOp)), (23, (Bo (decide (a1.fOp ≤ 6)))), (24, (Bo (decide (a1.fOp ≤ 6)))), (25, (Bo (decide (a1.fOp ≤ 6))))]) rfl rfl rfl) ?_
      refine bifE (c := (decide (a1.fOp ≤ 6))) (fun hc => ?_) fun hc => ?_
      · rw [hc]
        refine et (regp_adv (m := 6) (j := 18) (t' := [(2, (Pt 2)), (3, (Pt 3)), (5, (I o2.1)), (6, (Bo true)), (14, (Bo true)), (15, (Bo true)), (16, (V.ptr 3 0 1)), (17, (I a1.fOp)), (18, (Bo true)), (19, (Bo true)), (20, (Bo true)), (21, (V.ptr 3 0 1)), (22, (I a1.fOp)), (23, (Bo true)), (24, (Bo true)), (25, (Bo true)), (26, (V.ptr 3 0 2)), (27, (Sr a1.fValue)), (28, (I (a1.fValue.length : Int))), (29, (V.ptr 2 0 4)), (30, (sField a0.fFields)), (31, (I o2.1))]) rfl rfl rfl) ?_
        refine et (regp_pure (x := (idx a0.fFields o2.1)) (w := fun v3 => (Pr (eField v3))) rfl rfl rfl rfl rfl (p_index (e := eField) rfl rfl rfl underlying43 rfl (by decide))) ?_
        refine bindE (fun v3 => ?_)
        exact regp_end rfl
      · rw [hc]
        exact regp_end rfl
    · rw [hc]
      exact regp_end rfl
  · rw [hc]
    exact regp_end rfl
theorem match_isTerm_ok (k : Nat) (a0 : T_api_Type) (a1 : T_api_Term) : EV k 63 [(eType a0), (eTerm a1)] = (match_isTerm k a0 a1).map match_isTerm_fin := by
  cases k with
  | zero => rfl
  | succ k =>
    unfold match_isTerm
    refine et (evF_succ (c := f63c) (N := 37) (regs := f63n) rfl func63 rfl (by decide) rfl rfl rfl) ?_
    refine et (k_region0 rfl (f63r0 k a0 a1)) ?_
    refine et (k_region rfl (f63r1 k a0 a1)) ?_
    refine bindE (fun o2 => ?_)
    refine et (k_region rfl (f63r2 k a0 a1 o2)) ?_
    refine bindE (fun o4 => ?_)
    refine et k_lret ?_
    rfl
def match_valid_1_1_fin : Bool → V × List V := fun r => ((Bo r), [])
theorem f62r0 (k : Nat) (a0 : T_api_Term) (a1 : T_api_Type) : RE k f62a0 f62o0 false ⟨[(0, (eTerm a0)), (1, (Pr (eType a1)))], [], 8⟩ = some ⟨[(1, (Pr (eType a1))), (2, (Pt 2))], [(2, vS 3 (eTerm a0))], 8⟩ :=
  rE rfl
theorem f62r1 (k : Nat) (a0 : T_api_Term) (a1 : T_api_Type) : RE k f62a1 f62o1 false ⟨[(1, (Pr (eType a1))), (2, (Pt 2))], [(2, vS 3 (eTerm a0))], 8⟩ = (((match_isTerm k a1 a0).bind fun v1 => (some ((!v1))))).map (fun (o : Bool) => (⟨[(3, (Bo o))], [], 8⟩ : St)) := by
  refine rg ?_
  refine ra 2 2 ⟨[(1, (Pr (eType a1))), (2, (Pt 2)), (4, (eType a1)), (5, (eTerm a0))], [(2, vS 3 (eTerm a0))], 8⟩ rfl rfl rfl ?_
  refine et (reg_pure (x := (match_isTerm k a1 a0)) (w := fun v1 => (Bo v1)) rfl rfl rfl rfl (p_call rfl rfl rfl rfl rfl (match_isTerm_ok k a1 a0) (.inl rfl))) ?_
  refine bindE (fun v1 => ?_)
  exact bind_end rfl
theorem match_valid_1_1_ok (k : Nat) (a0 : T_api_Term) (a1 : T_api_Type) : EV k 62 [(eTerm a0), (Pr (eType a1))] = (match_valid_1_1 k a0 a1).map match_valid_1_1_fin := by
  cases k with
  | zero => rfl
  | succ k =>
    unfold match_valid_1_1
    refine et (evF_succ (c := f62c) (N := 8) (regs := f62n) rfl func62 rfl (by decide) rfl rfl rfl) ?_
    refine et (k_region0 rfl (f62r0 k a0 a1)) ?_
    refine et (k_region rfl (f62r1 k a0 a1)) ?_
    refine bindE (fun o2 => ?_)
    refine et k_lret ?_
    rfl
def match_valid_1_fin : Bool → V × List V := fun r => ((Bo r), [])
theorem f61r0 (k : Nat) (a0 : (List T_api_Term)) (a1 : T_api_Type) : RE k f61a0 f61o0 false ⟨[(0, (sTerm a0)), (1, (Pr (eType a1)))], [], 17⟩ = some ⟨[(0, (sTerm a0)), (1, (Pr (eType a1)))], [], 17⟩ :=
  rE rfl
theorem f61r1 (k : Nat) (a0 : (List T_api_Term)) (a1 : T_api_Type) : RE k f61a1 f61o1 false ⟨[(0, (sTerm a0)), (1, (Pr (eType a1)))], [], 17⟩ = ((bif (decide ((a0.length : Int) < 1)) then (some (true)) else (bif (decide ((a0.length : Int) > 4)) then (some (true)) else (slices_ContainsFunc_Term k a0 (fun j x0 => (match_valid_1_1 j x0 a1)))))).map (fun (o : Bool) => (⟨[(3, (Bo o))], [], 17⟩ : St)) := by
  refine rg ?_
  refine ra 1 1 ⟨[(0, (sTerm a0)), (1, (Pr (eType a1))), (4, (sTerm a0))], [], 17⟩ rfl rfl rfl ?_
  refine et (reg_pure (x := some ()) (w := fun _ => (I (a0.length : Int))) rfl rfl rfl rfl (p_len (e := eTerm) rfl rfl rfl rfl rfl rfl underlying50)) ?_
  refine et some_bind ?_
  refine ba 2 4 ⟨[(0, (sTerm a0)), (1, (Pr (eType a1))), (4, (sTerm a0)), (5, (I (a0.length : Int))), (6, (Bo (decide ((a0.length : Int) < 1)))), (7, (Bo (decide ((a0.length : Int) < 1))))], [], 17⟩ rfl rfl rfl ?_
  refine bifE (c := (decide ((a0.length : Int) < 1))) (fun hc => ?_) fun hc => ?_
  · rw [hc]
    exact reg_end rfl
  · rw [hc]
    refine ra 1 5 ⟨[(0, (sTerm a0)), (1, (Pr (eType a1))), (4, (sTerm a0)), (5, (I (a0.length : Int))), (6, (Bo false)), (7, (Bo false)), (8, (sTerm a0))], [], 17⟩ rfl rfl rfl ?_
    refine et (reg_pure (x := some ()) (w := fun _ => (I (a0.length : Int))) rfl rfl rfl rfl (p_len (e := eTerm) rfl rfl rfl rfl rfl rfl underlying50)) ?_
    refine et some_bind ?_
    refine ba 3 9 ⟨[(0, (sTerm a0)), (1, (Pr (eType a1))), (4, (sTerm a0)), (5, (I (a0.length : Int))), (6, (Bo false)), (7, (Bo false)), (8, (sTerm a0)), (9, (I (a0.length : Int))), (10, (Bo (decide ((a0.length : Int) > 4)))), (11, (Bo (decide ((a0.length : Int) > 4)))), (12, (Bo (decide ((a0.length : Int) > 4))))], [], 17⟩ rfl rfl rfl ?_
    refine bifE (c := (decide ((a0.length : Int) > 4))) (fun hc => ?_) fun hc => ?_
    · rw [hc]
      exact reg_end rfl
    · rw [hc]
      refine ra 2 11 ⟨[(0, (sTerm a0)), (1, (Pr (eType a1))), (4, (sTerm a0)), (5, (I (a0.length : Int))), (6, (Bo false)), (7, (Bo false)), (8, (sTerm a0)), (9, (I (a0.length : Int))), (10, (Bo false)), (11, (Bo false)), (12, (Bo false)), (13, (sTerm a0)), (14, (V.fn 62 [] [(Pr (eType a1))]))], [], 17⟩ rfl rfl rfl ?_
      refine et (reg_pure (x := (slices_ContainsFunc_Term k a0 (fun j x0 => (match_valid_1_1 j x0 a1)))) (w := fun v1 => (Bo v1)) rfl rfl rfl rfl (p_call rfl rfl rfl rfl rfl (slices_ContainsFunc_Term_ok k a0 (fun j x0 => (match_valid_1_1 j x0 a1)) 62 (eType a1) (fun j x0 => (match_valid_1_1_ok j x0 a1))) (.inl rfl))) ?_
      refine bind_self (fun v1 => ?_)
      exact bind_end rfl
theorem match_valid_1_ok (k : Nat) (a0 : (List T_api_Term)) (a1 : T_api_Type) : EV k 61 [(sTerm a0), (Pr (eType a1))] = (match_valid_1 k a0 a1).map match_valid_1_fin := by
  cases k with
  | zero => rfl
  | succ k =>
    unfold match_valid_1
    refine et (evF_succ (c := f61c) (N := 17) (regs := f61n) rfl func61 rfl (by decide) rfl rfl rfl) ?_
    refine et (k_region0 rfl (f61r0 k a0 a1)) ?_
    refine et (k_region rfl (f61r1 k a0 a1)) ?_
    refine bindE (fun o2 => ?_)
    refine et k_lret ?_
    rfl
def match_valid_fin : Bool → V × List V := fun r => ((Bo r), [])
theorem f34r0 (k : Nat) (a0 : T_api_Type) (a1 : (List (List T_api_Term))) : RE k f34a0 f34o0 false ⟨[(0, (eType a0)), (1, (V.sl 0 1 (List.map sTerm a1)))], [], 14⟩ = some ⟨[(1, (V.sl 0 1 (List.map sTerm a1))), (2, (Pt 2))], [(2, vS 8 (eType a0))], 14⟩ :=
  rE rfl
theorem f34r1 (k : Nat) (a0 : T_api_Type) (a1 : (List (List T_api_Term))) : RE k f34a1 f34o1 false ⟨[(1, (V.sl 0 1 (List.map sTerm a1))), (2, (Pt 2))], [(2, vS 8 (eType a0))], 14⟩ = ((bif (decide ((a1.length : Int) ≤ 4)) then ((slices_ContainsFunc_TermL k a1 (fun j x0 => (match_valid_1 j x0 a0))).bind fun v1 => (some ((!v1)))) else (some (false)))).map (fun (o : Bool) => (⟨[(4, (Bo o))], [], 14⟩ : St)) := by
  refine rg ?_
  refine ra 1 1 ⟨[(1, (V.sl 0 1 (List.map sTerm a1))), (2, (Pt 2)), (5, (V.sl 0 1 (List.map sTerm a1)))], [(2, vS 8 (eType a0))], 14⟩ rfl rfl rfl ?_
  refine et (reg_pure (x := some ()) (w := fun _ => (I (a1.length : Int))) rfl rfl rfl rfl (p_len (e := sTerm) rfl rfl rfl rfl rfl rfl underlying26)) ?_
  refine et some_bind ?_
  refine ba 2 4 ⟨[(1, (V.sl 0 1 (List.map sTerm a1))), (2, (Pt 2)), (5, (V.sl 0 1 (List.map sTerm a1))), (6, (I (a1.length : Int))), (7, (Bo (decide ((a1.length : Int) ≤ 4)))), (8, (Bo (decide ((a1.length : Int) ≤ 4))))], [(2, vS 8 (eType a0))], 14⟩ rfl rfl rfl ?_
  refine bifE (c := (decide ((a1.length : Int) ≤ 4))) (fun hc => ?_) fun hc => ?_
  · rw [hc]
    refine ra 2 6 ⟨[(1, (V.sl 0 1 (List.map sTerm a1))), (2, (Pt 2)), (5, (V.sl 0 1 (List.map sTerm a1))), (6, (I (a1.length : Int))), (7, (Bo true)), (8, (Bo true)), (9, (V.sl 0 1 (List.map sTerm a1))), (10, (V.fn 61 [] [(Pt 2)]))], [(2, vS 8 (eType a0))], 14⟩ rfl rfl rfl ?_
    refine et (reg_pure (x := (slices_ContainsFunc_TermL k a1 (fun j x0 => (match_valid_1 j x0 a0)))) (w := fun v1 => (Bo v1)) rfl rfl rfl rfl (p_call rfl rfl rfl rfl rfl (slices_ContainsFunc_TermL_ok k a1 (fun j x0 => (match_valid_1 j x0 a0)) 61 (eType a0) (fun j x0 => (match_valid_1_ok j x0 a0))) (.inr (fun _ => rfl)))) ?_
    refine bindE (fun v1 => ?_)
    exact bind_end rfl
  · rw [hc]
    exact reg_end rfl
theorem match_valid_ok (k : Nat) (a0 : T_api_Type) (a1 : (List (List T_api_Term))) : EV k 34 [(eType a0), (V.sl 0 1 (List.map sTerm a1))] = (match_valid k a0 a1).map match_valid_fin := by
  cases k with
  | zero => rfl
  | succ k =>
    unfold match_valid
    refine et (evF_succ (c := f34c) (N := 14) (regs := f34n) rfl func34 rfl (by decide) rfl rfl rfl) ?_
    refine et (k_region0 rfl (f34r0 k a0 a1)) ?_
    refine et (k_region rfl (f34r1 k a0 a1)) ?_
    refine bindE (fun o2 => ?_)
    refine et k_lret ?_
    rfl
def match_conditions_1_fin : Bool → V × List V := fun r => ((Bo r), [])
theorem f59r0 (k : Nat) (a0 : (List (List T_api_Term))) (a1 : T_api_Type) : RE k f59a0 f59o0 false ⟨[(0, (V.sl 0 1 (List.map sTerm a0))), (1, (Pr (eType a1)))], [], 8⟩ = some ⟨[(0, (V.sl 0 1 (List.map sTerm a0))), (1, (Pr (eType a1)))], [], 8⟩ :=
  rE rfl
theorem f59r1 (k : Nat) (a0 : (List (List T_api_Term))) (a1 : T_api_Type) : RE k f59a1 f59o1 false ⟨[(0, (V.sl 0 1 (List.map sTerm a0))), (1, (Pr (eType a1)))], [], 8⟩ = (((match_valid k a1 a0).bind fun v1 => (some ((!v1))))).map (fun (o : Bool) => (⟨[(3, (Bo o))], [], 8⟩ : St)) := by
  refine rg ?_
  refine ra 2 2 ⟨[(0, (V.sl 0 1 (List.map sTerm a0))), (1, (Pr (eType a1))), (4, (eType a1)), (5, (V.sl 0 1 (List.map sTerm a0)))], [], 8⟩ rfl rfl rfl ?_
  refine et (reg_pure (x := (match_valid k a1 a0)) (w := fun v1 => (Bo v1)) rfl rfl rfl rfl (p_call rfl rfl rfl rfl rfl (match_valid_ok k a1 a0) (.inl rfl))) ?_
  refine bindE (fun v1 => ?_)
  exact bind_end rfl
theorem match_conditions_1_ok (k : Nat) (a0 : (List (List T_api_Term))) (a1 : T_api_Type) : EV k 59 [(V.sl 0 1 (List.map sTerm a0)), (Pr (eType a1))] = (match_conditions_1 k a0 a1).map match_conditions_1_fin := by
  cases k with
  | zero => rfl
  | succ k =>
    unfold match_conditions_1
    refine et (evF_succ (c := f59c) (N := 8) (regs := f59n) rfl func59 rfl (by decide) rfl rfl rfl) ?_
    refine et (k_region0 rfl (f59r0 k a0 a1)) ?_
    refine et (k_region rfl (f59r1 k a0 a1)) ?_
    refine bindE (fun o2 => ?_)
    refine et k_lret ?_
    rfl
def match_conditions_fin : (T_api_Type × Int) → V × List V := fun r => (.tup [(eType r.1), (I r.2)], [])
theorem f29r0 (k : Nat) (a0 : T_api_Base) (a1 : Int) (a2 : (List (List (List T_api_Term)))) : RE k f29a0 f29o0 false ⟨[(0, (eBase a0)), (1, (I a1)), (2, (V.sl 0 1 (List.map (fun x => (V.sl 0 1 (List.map sTerm x))) a2)))], [], 27⟩ = some ⟨[(1, (I a1)), (2, (V.sl 0 1 (List.map (fun x => (V.sl 0 1 (List.map sTerm x))) a2))), (3, (Pt 3)), (6, (Pt 6))], [(3, vS 4 (eBase a0)), (6, ⟨false, 8, [(V.agg [(Sr []), (I 0), (I 0), (I 0), (V.sl 2 3 (List.map eField ([] : List T_api_Field))), (I 0), (Bo false), (Bo false)])]⟩)], 27⟩ :=
  rE rfl
theorem f29r1 (k : Nat) (a0 : T_api_Base) (a1 : Int) (a2 : (List (List (List T_api_Term)))) : RE k f29a1 f29o1 false ⟨[(1, (I a1)), (2, (V.sl 0 1 (List.map (fun x => (V.sl 0 1 (List.map sTerm x))) a2))), (3, (Pt 3)), (6, (Pt 6))], [(3, vS 4 (eBase a0)), (6, ⟨false, 8, [(V.agg [(Sr []), (I 0), (I 0), (I 0), (V.sl 2 3 (List.map eField ([] : List T_api_Field))), (I 0), (Bo false), (Bo false)])]⟩)], 27⟩ = ((match_asked k a0 a1)).map (fun (o : Int) => (⟨[(1, (I a1)), (2, (V.sl 0 1 (List.map (fun x => (V.sl 0 1 (List.map sTerm x))) a2))), (3, (Pt 3)), (6, (Pt 6)), (8, (I o))], [(3, vS 4 (eBase a0)), (6, ⟨false, 8, [(V.agg [(Sr []), (I 0), (I 0), (I 0), (V.sl 2 3 (List.map eField ([] : List T_api_Field))), (I 0), (Bo false), (Bo false)])]⟩)], 27⟩ : St)) := by
  refine rg ?_
  refine ra 2 2 ⟨[(1, (I a1)), (2, (V.sl 0 1 (List.map (fun x => (V.sl 0 1 (List.map sTerm x))) a2))), (3, (Pt 3)), (6, (Pt 6)), (10, (eBase a0)), (11, (I a1))], [(3, vS 4 (eBase a0)), (6, ⟨false, 8, [(V.agg [(Sr []), (I 0), (I 0), (I 0), (V.sl 2 3 (List.map eField ([] : List T_api_Field))), (I 0), (Bo false), (Bo false)])]⟩)], 27⟩ rfl rfl rfl ?_
  refine et (reg_pure (x := (match_asked k a0 a1)) (w := fun v1 => (I v1)) rfl rfl rfl rfl (p_call rfl rfl rfl rfl rfl (match_asked_ok k a0 a1) (.inl rfl))) ?_
  refine bind_self (fun v1 => ?_)
  exact bind_end rfl
theorem f29r2 (k : Nat) (a0 : T_api_Base) (a1 : Int) (a2 : (List (List (List T_api_Term)))) (o2 : Int) : RE k f29a2 f29o2 false ⟨[(1, (I a1)), (2, (V.sl 0 1 (List.map (fun x => (V.sl 0 1 (List.map sTerm x))) a2))), (3, (Pt 3)), (6, (Pt 6)), (8, (I o2))], [(3, vS 4 (eBase a0)), (6, ⟨false, 8, [(V.agg [(Sr []), (I 0), (I 0), (I 0), (V.sl 2 3 (List.map eField ([] : List T_api_Field))), (I 0), (Bo false), (Bo false)])]⟩)], 27⟩ = some ⟨[(1, (I a1)), (2, (V.sl 0 1 (List.map (fun x => (V.sl 0 1 (List.map sTerm x))) a2))), (3, (Pt 3)), (6, (Pt 6)), (8, (I o2)), (14, (Bo (o2 != 0)))], [(3, vS 4 (eBase a0)), (6, ⟨false, 8, [(V.agg [(Sr []), (I 0), (I 0), (I 0), (V.sl 2 3 (List.map eField ([] : List T_api_Field))), (I 0), (Bo false), (Bo false)])]⟩)], 27⟩ :=
  rE rfl
theorem f29r3 (k : Nat) (a0 : T_api_Base) (a1 : Int) (a2 : (List (List (List T_api_Term)))) (o2 : Int) : RE k f29a3 f29o3 false ⟨[(1, (I a1)), (2, (V.sl 0 1 (List.map (fun x => (V.sl 0 1 (List.map sTerm x))) a2))), (3, (Pt 3)), (6, (Pt 6)), (8, (I o2)), (14, (Bo true))], [(3, vS 4 (eBase a0)), (6, ⟨false, 8, [(V.agg [(Sr []), (I 0), (I 0), (I 0), (V.sl 2 3 (List.map eField ([] : List T_api_Field))), (I 0), (Bo false), (Bo false)])]⟩)], 27⟩ = some ⟨[(6, (Pt 6)), (7, (I o2))], [(6, ⟨false, 8, [(eType ({ fName := [], fParent := 0, fMin := 0, fSize := 0, fFields := ([] : List T_api_Field), fKey := 0, fUnique := false, fLast := false } : T_api_Type))]⟩)], 27⟩ :=
  rE rfl
theorem f29r4 (k : Nat) (a0 : T_api_Base) (a1 : Int) (a2 : (List (List (List T_api_Term)))) (o2 : Int) : RE k f29a4 f29o4 false ⟨[(1, (I a1)), (2, (V.sl 0 1 (List.map (fun x => (V.sl 0 1 (List.map sTerm x))) a2))), (3, (Pt 3)), (6, (Pt 6)), (8, (I o2)), (14, (Bo false))], [(3, vS 4 (eBase a0)), (6, ⟨false, 8, [(V.agg [(Sr []), (I 0), (I 0), (I 0), (V.sl 2 3 (List.map eField ([] : List T_api_Field))), (I 0), (Bo false), (Bo false)])]⟩)], 27⟩ = ((idx a0.fTypes a1)).map (fun (o : T_api_Type) => (⟨[(2, (V.sl 0 1 (List.map (fun x => (V.sl 0 1 (List.map sTerm x))) a2))), (6, (Pt 6)), (9, (Pt 9))], [(6, ⟨false, 8, [(V.agg [(Sr []), (I 0), (I 0), (I 0), (V.sl 2 3 (List.map eField ([] : List T_api_Field))), (I 0), (Bo false), (Bo false)])]⟩), (9, vS 8 (eType o))], 27⟩ : St)) := by
  refine rg ?_
  refine ra 3 3 ⟨[(1, (I a1)), (2, (V.sl 0 1 (List.map (fun x => (V.sl 0 1 (List.map sTerm x))) a2))), (3, (Pt 3)), (6, (Pt 6)), (8, (I o2)), (14, (Bo false)), (17, (V.ptr 3 0 2)), (18, (sType a0.fTypes)), (19, (I a1))], [(3, vS 4 (eBase a0)), (6, ⟨false, 8, [(V.agg [(Sr []), (I 0), (I 0), (I 0), (V.sl 2 3 (List.map eField ([] : List T_api_Field))), (I 0), (Bo false), (Bo false)])]⟩)], 27⟩ rfl rfl rfl ?_
  refine et (reg_pure (x := (idx a0.fTypes a1)) (w := fun v3 => (Pr (eType v3))) rfl rfl rfl rfl (p_index (e := eType) rfl rfl rfl underlying22 rfl (by decide))) ?_
  refine bind_self (fun v3 => ?_)
  exact bind_end rfl
theorem f29r5 (k : Nat) (a2 : (List (List (List T_api_Term)))) (o4 : T_api_Type) : RE k f29a5 f29o5 false ⟨[(2, (V.sl 0 1 (List.map (fun x => (V.sl 0 1 (List.map sTerm x))) a2))), (6, (Pt 6)), (9, (Pt 9))], [(6, ⟨false, 8, [(V.agg [(Sr []), (I 0), (I 0), (I 0), (V.sl 2 3 (List.map eField ([] : List T_api_Field))), (I 0), (Bo false), (Bo false)])]⟩), (9, vS 8 (eType o4))], 27⟩ = ((slices_ContainsFunc_TermLL k a2 (fun j x0 => (match_conditions_1 j x0 o4)))).map (fun (o : Bool) => (⟨[(6, (Pt 6)), (9, (Pt 9)), (24, (Bo o))], [(6, ⟨false, 8, [(V.agg [(Sr []), (I 0), (I 0), (I 0), (V.sl 2 3 (List.map eField ([] : List T_api_Field))), (I 0), (Bo false), (Bo false)])]⟩), (9, vS 8 (eType o4))], 27⟩ : St)) := by
  refine rg ?_
  refine ra 2 2 ⟨[(2, (V.sl 0 1 (List.map (fun x => (V.sl 0 1 (List.map sTerm x))) a2))), (6, (Pt 6)), (9, (Pt 9)), (22, (V.sl 0 1 (List.map (fun x => (V.sl 0 1 (List.map sTerm x))) a2))), (23, (V.fn 59 [] [(Pt 9)]))], [(6, ⟨false, 8, [(V.agg [(Sr []), (I 0), (I 0), (I 0), (V.sl 2 3 (List.map eField ([] : List T_api_Field))), (I 0), (Bo false), (Bo false)])]⟩), (9, vS 8 (eType o4))], 27⟩ rfl rfl rfl ?_
  refine et (reg_pure (x := (slices_ContainsFunc_TermLL k a2 (fun j x0 => (match_conditions_1 j x0 o4)))) (w := fun v5 => (Bo v5)) rfl rfl rfl rfl (p_call rfl rfl rfl rfl rfl (slices_ContainsFunc_TermLL_ok k a2 (fun j x0 => (match_conditions_1 j x0 o4)) 59 (eType o4) (fun j x0 => (match_conditions_1_ok j x0 o4))) (.inr (fun _ => rfl)))) ?_
  refine bind_self (fun v5 => ?_)
  exact bind_end rfl
theorem f29r6 (k : Nat) (o4 : T_api_Type) : RE k f29a6 f29o6 false ⟨[(6, (Pt 6)), (9, (Pt 9)), (24, (Bo true))], [(6, ⟨false, 8, [(V.agg [(Sr []), (I 0), (I 0), (I 0), (V.sl 2 3 (List.map eField ([] : List T_api_Field))), (I 0), (Bo false), (Bo false)])]⟩), (9, vS 8 (eType o4))], 27⟩ = some ⟨[(6, (Pt 6)), (7, (I 110))], [(6, ⟨false, 8, [(eType ({ fName := [], fParent := 0, fMin := 0, fSize := 0, fFields := ([] : List T_api_Field), fKey := 0, fUnique := false, fLast := false } : T_api_Type))]⟩)], 27⟩ :=
  rE rfl
theorem f29r7 (k : Nat) (o4 : T_api_Type) : RE k f29a7 f29o7 false ⟨[(6, (Pt 6)), (9, (Pt 9)), (24, (Bo false))], [(6, ⟨false, 8, [(V.agg [(Sr []), (I 0), (I 0), (I 0), (V.sl 2 3 (List.map eField ([] : List T_api_Field))), (I 0), (Bo false), (Bo false)])]⟩), (9, vS 8 (eType o4))], 27⟩ = some ⟨[(6, (Pt 6)), (7, (I 0))], [(6, vS 8 (eType o4))], 27⟩ :=
  rE rfl
theorem match_conditions_ok (k : Nat) (a0 : T_api_Base) (a1 : Int) (a2 : (List (List (List T_api_Term)))) : EV k 29 [(eBase a0), (I a1), (V.sl 0 1 (List.map (fun x => (V.sl 0 1 (List.map sTerm x))) a2))] = (match_conditions k a0 a1 a2).map match_conditions_fin := by
  cases k with
  | zero => rfl
  | succ k =>
    unfold match_conditions
    refine et (evF_succ (c := f29c) (N := 27) (regs := f29n) rfl func29 rfl (by decide) rfl rfl rfl) ?_
    refine et (k_region0 rfl (f29r0 k a0 a1 a2)) ?_
    refine et k_assoc ?_
    refine et (k_region rfl (f29r1 k a0 a1 a2)) ?_
    refine bindE (fun o2 => ?_)
    refine et k_assoc ?_
    refine et (k_region0 rfl (f29r2 k a0 a1 a2 o2)) ?_
    refine et (k_cond (t := (o2 != 0)) rfl rfl) ?_
    refine bifE2 (fun hc => ?_) fun hc => ?_
    · rw [hc]
      refine et k_assoc ?_
      refine et (k_region0 rfl (f29r3 k a0 a1 a2 o2)) ?_
      refine et k_ret ?_
      rfl
    · rw [hc]
      refine et k_skip ?_
      refine et (k_region rfl (f29r4 k a0 a1 a2 o2)) ?_
      refine bindE (fun o4 => ?_)
      refine et k_assoc ?_
      refine et (k_region rfl (f29r5 k a2 o4)) ?_
      refine bindE (fun o6 => ?_)
      refine et (k_cond (t := o6) rfl rfl) ?_
      refine bifE2 (fun hc => ?_) fun hc => ?_
      · rw [hc]
        refine et k_assoc ?_
        refine et (k_region0 rfl (f29r6 k o4)) ?_
        refine et k_ret ?_
        rfl
      · rw [hc]
        refine et k_skip ?_
        refine et (k_region0 rfl (f29r7 k o4)) ?_
        refine et k_lret ?_
        rfl
def strings_Repeat_fin : Str → V × List V := fun r => ((Sr r), [])
theorem strings_Repeat_ok (k : Nat) (s : Str) (n : Int) : EV k 55 [(Sr s), (I n)] = (strings_Repeat k s n).map strings_Repeat_fin := by
  cases k with
  | zero => rfl
  | succ k => exact (evF_ext (ext := ext) (f := 55) rfl).trans rfl
def match_sign_fin : Str → V × List V := fun r => ((Sr r), [])
theorem f56r0 (k : Nat) (a0 : Int) : RE k f56a0 f56o0 false ⟨[(0, (I a0))], [], 7⟩ = some ⟨[(0, (I a0))], [], 7⟩ :=
  rE rfl
theorem f56r1 (k : Nat) (a0 : Int) : RE k f56a1 f56o1 false ⟨[(0, (I a0))], [], 7⟩ = ((idx ([({ e0 := ([61, 32] : Str), e1 := ([60, 62] : Str), e2 := ([60, 32] : Str), e3 := ([60, 61] : Str), e4 := ([62, 32] : Str), e5 := ([62, 61] : Str) } : T_arr6_Str).e0, ({ e0 := ([61, 32] : Str), e1 := ([60, 62] : Str), e2 := ([60, 32] : Str), e3 := ([60, 61] : Str), e4 := ([62, 32] : Str), e5 := ([62, 61] : Str) } : T_arr6_Str).e1, ({ e0 := ([61, 32] : Str), e1 := ([60, 62] : Str), e2 := ([60, 32] : Str), e3 := ([60, 61] : Str), e4 := ([62, 32] : Str), e5 := ([62, 61] : Str) } : T_arr6_Str).e2, ({ e0 := ([61, 32] : Str), e1 := ([60, 62] : Str), e2 := ([60, 32] : Str), e3 := ([60, 61] : Str), e4 := ([62, 32] : Str), e5 := ([62, 61] : Str) } : T_arr6_Str).e3, ({ e0 := ([61, 32] : Str), e1 := ([60, 62] : Str), e2 := ([60, 32] : Str), e3 := ([60, 61] : Str), e4 := ([62, 32] : Str), e5 := ([62, 61] : Str) } : T_arr6_Str).e4, ({ e0 := ([61, 32] : Str), e1 := ([60, 62] : Str), e2 := ([60, 32] : Str), e3 := ([60, 61] : Str), e4 := ([62, 32] : Str), e5 := ([62, 61] : Str) } : T_arr6_Str).e5] : List Str) (Go.IntKind.wrap .i64 (a0 - 1)))).map (fun (o : Str) => (⟨[(2, (Sr o))], [], 7⟩ : St)) := by
  refine rg ?_
  refine ra 3 3 ⟨[(0, (I a0)), (3, (eStr ({ e0 := ([61, 32] : Str), e1 := ([60, 62] : Str), e2 := ([60, 32] : Str), e3 := ([60, 61] : Str), e4 := ([62, 32] : Str), e5 := ([62, 61] : Str) } : T_arr6_Str))), (4, (I a0)), (5, (I (Go.IntKind.wrap .i64 (a0 - 1))))], [], 7⟩ rfl rfl rfl ?_
  refine et (reg_pure (x := (idx ([({ e0 := ([61, 32] : Str), e1 := ([60, 62] : Str), e2 := ([60, 32] : Str), e3 := ([60, 61] : Str), e4 := ([62, 32] : Str), e5 := ([62, 61] : Str) } : T_arr6_Str).e0, ({ e0 := ([61, 32] : Str), e1 := ([60, 62] : Str), e2 := ([60, 32] : Str), e3 := ([60, 61] : Str), e4 := ([62, 32] : Str), e5 := ([62, 61] : Str) } : T_arr6_Str).e1, ({ e0 := ([61, 32] : Str), e1 := ([60, 62] : Str), e2 := ([60, 32] : Str), e3 := ([60, 61] : Str), e4 := ([62, 32] : Str), e5 := ([62, 61] : Str) } : T_arr6_Str).e2, ({ e0 := ([61, 32] : Str), e1 := ([60, 62] : Str), e2 := ([60, 32] : Str), e3 := ([60, 61] : Str), e4 := ([62, 32] : Str), e5 := ([62, 61] : Str) } : T_arr6_Str).e3, ({ e0 := ([61, 32] : Str), e1 := ([60, 62] : Str), e2 := ([60, 32] : Str), e3 := ([60, 61] : Str), e4 := ([62, 32] : Str), e5 := ([62, 61] : Str) } : T_arr6_Str).e4, ({ e0 := ([61, 32] : Str), e1 := ([60, 62] : Str), e2 := ([60, 32] : Str), e3 := ([60, 61] : Str), e4 := ([62, 32] : Str), e5 := ([62, 61] : Str) } : T_arr6_Str).e5] : List Str) (Go.IntKind.wrap .i64 (a0 - 1)))) (w := fun v1 => (Sr v1)) rfl rfl rfl rfl (p_indexArr (l := ([({ e0 := ([61, 32] : Str), e1 := ([60, 62] : Str), e2 := ([60, 32] : Str), e3 := ([60, 61] : Str), e4 := ([62, 32] : Str), e5 := ([62, 61] : Str) } : T_arr6_Str).e0, ({ e0 := ([61, 32] : Str), e1 := ([60, 62] : Str), e2 := ([60, 32] : Str), e3 := ([60, 61] : Str), e4 := ([62, 32] : Str), e5 := ([62, 61] : Str) } : T_arr6_Str).e1, ({ e0 := ([61, 32] : Str), e1 := ([60, 62] : Str), e2 := ([60, 32] : Str), e3 := ([60, 61] : Str), e4 := ([62, 32] : Str), e5 := ([62, 61] : Str) } : T_arr6_Str).e2, ({ e0 := ([61, 32] : Str), e1 := ([60, 62] : Str), e2 := ([60, 32] : Str), e3 := ([60, 61] : Str), e4 := ([62, 32] : Str), e5 := ([62, 61] : Str) } : T_arr6_Str).e3, ({ e0 := ([61, 32] : Str), e1 := ([60, 62] : Str), e2 := ([60, 32] : Str), e3 := ([60, 61] : Str), e4 := ([62, 32] : Str), e5 := ([62, 61] : Str) } : T_arr6_Str).e4, ({ e0 := ([61, 32] : Str), e1 := ([60, 62] : Str), e2 := ([60, 32] : Str), e3 := ([60, 61] : Str), e4 := ([62, 32] : Str), e5 := ([62, 61] : Str) } : T_arr6_Str).e5] : List Str)) (e := V.str) rfl rfl rfl underlying126 rfl rfl rfl rfl)) ?_
  refine bind_self (fun v1 => ?_)
  exact bind_end rfl
theorem match_sign_ok (k : Nat) (a0 : Int) : EV k 56 [(I a0)] = (match_sign k a0).map match_sign_fin := by
  cases k with
  | zero => rfl
  | succ k =>
    unfold match_sign
    refine et (evF_succ (c := f56c) (N := 7) (regs := f56n) rfl func56 rfl (by decide) rfl rfl rfl) ?_
    refine et (k_region0 rfl (f56r0 k a0)) ?_
    refine et (k_region rfl (f56r1 k a0)) ?_
    refine bindE (fun o2 => ?_)
    refine et k_lret ?_
    rfl
def strings_Join_fin : Str → V × List V := fun r => (Sr r, [])
theorem strings_Join_ok (k : Nat) (s : List Str) (n : Str) : EV k 57 [(sS s), (Sr n)] = (strings_Join k s n).map strings_Join_fin := by
  cases k with
  | zero => rfl
  | succ k => exact (evF_ext (ext := ext) (f := 57) rfl).trans (extStrJoin_map s n)
def match_Format_fin : (Str × Int) → V × List V := fun r => (.tup [(Sr r.1), (I r.2)], [])
theorem f28r0 (k : Nat) (a0 : T_api_Base) (a1 : Int) (a2 : (List (List T_api_Term))) : RE k f28a0 f28o0 false ⟨[(0, (eBase a0)), (1, (I a1)), (2, (V.sl 0 1 (List.map sTerm a2)))], [], 66⟩ = some ⟨[(1, (I a1)), (2, (V.sl 0 1 (List.map sTerm a2))), (3, (Pt 3))], [(3, vS 4 (eBase a0))], 66⟩ :=
  rE rfl
theorem f28r1 (k : Nat) (a0 : T_api_Base) (a1 : Int) (a2 : (List (List T_api_Term))) : RE k f28a1 f28o1 false ⟨[(1, (I a1)), (2, (V.sl 0 1 (List.map sTerm a2))), (3, (Pt 3))], [(3, vS 4 (eBase a0))], 66⟩ = (((match_conditions k a0 a1 ([a2] : List (List (List T_api_Term)))).bind fun v1 => (some (v1.2)))).map (fun (o : Int) => (⟨[(2, (V.sl 0 1 (List.map sTerm a2))), (9, (I o))], [], 66⟩ : St)) := by
  refine rg ?_
  refine ra 4 4 ⟨[(1, (I a1)), (2, (V.sl 0 1 (List.map sTerm a2))), (3, (Pt 3)), (17, (eBase a0)), (18, (I a1)), (19, (V.sl 0 1 (List.map sTerm a2))), (20, (V.sl 0 1 (List.map (fun x => (V.sl 0 1 (List.map sTerm x))) ([a2] : List (List (List T_api_Term))))))], [(3, vS 4 (eBase a0))], 66⟩ rfl rfl rfl ?_
  refine et (reg_pure (x := (match_conditions k a0 a1 ([a2] : List (List (List T_api_Term))))) (w := fun v1 => (V.tup [(eType v1.1), (I v1.2)])) rfl rfl rfl rfl (p_call rfl rfl rfl rfl rfl (match_conditions_ok k a0 a1 ([a2] : List (List (List T_api_Term)))) (.inl rfl))) ?_
  refine bindE (fun v1 => ?_)
  exact bind_end rfl
theorem f28r2 (k : Nat) (a2 : (List (List T_api_Term))) (o2 : Int) : RE k f28a2 f28o2 false ⟨[(2, (V.sl 0 1 (List.map sTerm a2))), (9, (I o2))], [], 66⟩ = some ⟨[(2, (V.sl 0 1 (List.map sTerm a2))), (9, (I o2)), (25, (Bo (o2 != 0)))], [], 66⟩ :=
  rE rfl
theorem f28r3 (k : Nat) (a2 : (List (List T_api_Term))) (o2 : Int) : RE k f28a3 f28o3 false ⟨[(2, (V.sl 0 1 (List.map sTerm a2))), (9, (I o2)), (25, (Bo true))], [], 66⟩ = some ⟨[(6, (Sr ([] : Str))), (7, (I o2))], [], 66⟩ :=
  rE rfl
theorem f28r4 (k : Nat) (a2 : (List (List T_api_Term))) (o2 : Int) : RE k f28a4 f28o4 false ⟨[(2, (V.sl 0 1 (List.map sTerm a2))), (9, (I o2)), (25, (Bo false))], [], 66⟩ = some ⟨[(2, (V.sl 0 1 (List.map sTerm a2))), (10, (V.sl 1 1 (List.map V.str ([] : List Str))))], [], 66⟩ :=
  rE rfl
theorem f28r5 (k : Nat) (a2 : (List (List T_api_Term))) : RE k f28a5 f28o5 false ⟨[(2, (V.sl 0 1 (List.map sTerm a2))), (10, (V.sl 1 1 (List.map V.str ([] : List Str))))], [], 66⟩ = some ⟨[(10, (V.sl 1 1 (List.map V.str ([] : List Str)))), (27, (V.sl 0 1 (List.map sTerm a2))), (28, (I (a2.length : Int))), (29, (I 0))], [], 66⟩ := by
  refine rg ?_
  refine ra 1 1 ⟨[(2, (V.sl 0 1 (List.map sTerm a2))), (10, (V.sl 1 1 (List.map V.str ([] : List Str)))), (27, (V.sl 0 1 (List.map sTerm a2)))], [], 66⟩ rfl rfl rfl ?_
  refine et (reg_pure (x := some ()) (w := fun _ => (I (a2.length : Int))) rfl rfl rfl rfl (p_len (e := sTerm) rfl rfl rfl rfl rfl rfl underlying26)) ?_
  refine et some_bind ?_
  exact bind_end rfl
theorem f28r6 (k : Nat) (a2 : (List (List T_api_Term))) (x30 : (List Str)) (x31 : Int) : RE k f28a6 f28o6 false ⟨[(10, (V.sl 1 1 (List.map V.str x30))), (27, (V.sl 0 1 (List.map sTerm a2))), (28, (I (a2.length : Int))), (29, (I x31))], [], 66⟩ = some ⟨[(10, (V.sl 1 1 (List.map V.str x30))), (27, (V.sl 0 1 (List.map sTerm a2))), (28, (I (a2.length : Int))), (29, (I x31)), (30, (Bo (decide (x31 < (a2.length : Int)))))], [], 66⟩ :=
  rE rfl
theorem f28r7 (k : Nat) (a2 : (List (List T_api_Term))) (x30 : (List Str)) (x31 : Int) : RE k f28a7 f28o7 false ⟨[(10, (V.sl 1 1 (List.map V.str x30))), (27, (V.sl 0 1 (List.map sTerm a2))), (28, (I (a2.length : Int))), (29, (I x31)), (30, (Bo true))], [], 66⟩ = ((idx a2 x31)).map (fun (o : (List T_api_Term)) => (⟨[(10, (V.sl 1 1 (List.map V.str x30))), (12, (sTerm o)), (27, (V.sl 0 1 (List.map sTerm a2))), (28, (I (a2.length : Int))), (29, (I x31))], [], 66⟩ : St)) := by
  refine rg ?_
  refine et (reg_pure (x := (idx a2 x31)) (w := fun v32 => (Pr (sTerm v32))) rfl rfl rfl rfl (p_index (e := sTerm) rfl rfl rfl underlying26 rfl (by decide))) ?_
  refine bind_self (fun v32 => ?_)
  exact bind_end rfl
theorem f28r8 (k : Nat) (a2 : (List (List T_api_Term))) (x30 : (List Str)) (x31 : Int) (o33 : (List T_api_Term)) : RE k f28a8 f28o8 false ⟨[(10, (V.sl 1 1 (List.map V.str x30))), (12, (sTerm o33)), (27, (V.sl 0 1 (List.map sTerm a2))), (28, (I (a2.length : Int))), (29, (I x31))], [], 66⟩ = some ⟨[(10, (V.sl 1 1 (List.map V.str x30))), (12, (sTerm o33)), (13, (aL 13 V.str ([] : List Str))), (27, (V.sl 0 1 (List.map sTerm a2))), (28, (I (a2.length : Int))), (29, (I x31))], [(13, ⟨true, 1, List.map V.str ([] : List Str)⟩)], 66⟩ :=
  rE rfl
theorem f28r9 (k : Nat) (a2 : (List (List T_api_Term))) (x30 : (List Str)) (x31 : Int) (o33 : (List T_api_Term)) : RE k f28a9 f28o9 false ⟨[(10, (V.sl 1 1 (List.map V.str x30))), (12, (sTerm o33)), (13, (aL 13 V.str ([] : List Str))), (27, (V.sl 0 1 (List.map sTerm a2))), (28, (I (a2.length : Int))), (29, (I x31))], [(13, ⟨true, 1, List.map V.str ([] : List Str)⟩)], 66⟩ = some ⟨[(10, (V.sl 1 1 (List.map V.str x30))), (13, (aL 13 V.str ([] : List Str))), (27, (V.sl 0 1 (List.map sTerm a2))), (28, (I (a2.length : Int))), (29, (I x31)), (33, (sTerm o33)), (34, (I (o33.length : Int))), (35, (I 0))], [(13, ⟨true, 1, List.map V.str ([] : List Str)⟩)], 66⟩ := by
  refine rg ?_
  refine ra 1 1 ⟨[(10, (V.sl 1 1 (List.map V.str x30))), (12, (sTerm o33)), (13, (aL 13 V.str ([] : List Str))), (27, (V.sl 0 1 (List.map sTerm a2))), (28, (I (a2.length : Int))), (29, (I x31)), (33, (sTerm o33))], [(13, ⟨true, 1, List.map V.str ([] : List Str)⟩)], 66⟩ rfl rfl rfl ?_
  refine et (reg_pure (x := some ()) (w := fun _ => (I (o33.length : Int))) rfl rfl rfl rfl (p_len (e := eTerm) rfl rfl rfl rfl rfl rfl underlying50)) ?_
  refine et some_bind ?_
  exact bind_end rfl
theorem f28r10 (k : Nat) (a2 : (List (List T_api_Term))) (x30 : (List Str)) (x31 : Int) (o33 : (List T_api_Term)) (x43 : Int) (x44 : (List Str)) : RE k f28a10 f28o10 false ⟨[(10, (V.sl 1 1 (List.map V.str x30))), (13, (aL 13 V.str x44)), (27, (V.sl 0 1 (List.map sTerm a2))), (28, (I (a2.length : Int))), (29, (I x31)), (33, (sTerm o33)), (34, (I (o33.length : Int))), (35, (I x43))], [(13, ⟨true, 1, List.map V.str x44⟩)], 66⟩ = some ⟨[(10, (V.sl 1 1 (List.map V.str x30))), (13, (aL 13 V.str x44)), (27, (V.sl 0 1 (List.map sTerm a2))), (28, (I (a2.length : Int))), (29, (I x31)), (33, (sTerm o33)), (34, (I (o33.length : Int))), (35, (I x43)), (36, (Bo (decide (x43 < (o33.length : Int)))))], [(13, ⟨true, 1, List.map V.str x44⟩)], 66⟩ :=
  rE rfl
theorem f28r11 (k : Nat) (a2 : (List (List T_api_Term))) (x30 : (List Str)) (x31 : Int) (o33 : (List T_api_Term)) (x43 : Int) (x44 : (List Str)) : RE k f28a11 f28o11 false ⟨[(10, (V.sl 1 1 (List.map V.str x30))), (13, (aL 13 V.str x44)), (27, (V.sl 0 1 (List.map sTerm a2))), (28, (I (a2.length : Int))), (29, (I x31)), (33, (sTerm o33)), (34, (I (o33.length : Int))), (35, (I x43)), (36, (Bo true))], [(13, ⟨true, 1, List.map V.str x44⟩)], 66⟩ = ((idx o33 x43)).map (fun (o : T_api_Term) => (⟨[(10, (V.sl 1 1 (List.map V.str x30))), (13, (aL 13 V.str x44)), (15, (Pt 15)), (27, (V.sl 0 1 (List.map sTerm a2))), (28, (I (a2.length : Int))), (29, (I x31)), (33, (sTerm o33)), (34, (I (o33.length : Int))), (35, (I x43))], [(13, ⟨true, 1, List.map V.str x44⟩), (15, vS 3 (eTerm o))], 66⟩ : St)) := by
  refine rg ?_
  refine et (reg_pure (x := (idx o33 x43)) (w := fun v45 => (Pr (eTerm v45))) rfl rfl rfl rfl (p_index (e := eTerm) rfl rfl rfl underlying50 rfl (by decide))) ?_
  refine bind_self (fun v45 => ?_)
  exact bind_end rfl
theorem f28r12 (k : Nat) (a2 : (List (List T_api_Term))) (x30 : (List Str)) (x31 : Int) (o33 : (List T_api_Term)) (x43 : Int) (x44 : (List Str)) (o46 : T_api_Term) : RE k f28a12 f28o12 true ⟨[(10, (V.sl 1 1 (List.map V.str x30))), (13, (aL 13 V.str x44)), (15, (Pt 15)), (27, (V.sl 0 1 (List.map sTerm a2))), (28, (I (a2.length : Int))), (29, (I x31)), (33, (sTerm o33)), (34, (I (o33.length : Int))), (35, (I x43))], [(13, ⟨true, 1, List.map V.str x44⟩), (15, vS 3 (eTerm o46))], 66⟩ = (((strings_Repeat k ([32] : Str) (Go.IntKind.wrap .i64 (8 - (o46.fField.length : Int)))).bind fun v47 => ((cat o46.fField v47).bind fun v48 => ((match_sign k o46.fOp).bind fun v49 => ((cat v48 v49).bind fun v50 => ((cat v50 o46.fValue).bind fun v51 => (app x44 ([v51] : List Str)))))))).map (fun (o : (List Str)) => (⟨[(10, (V.sl 1 1 (List.map V.str x30))), (13, (aL 13 V.str o)), (27, (V.sl 0 1 (List.map sTerm a2))), (28, (I (a2.length : Int))), (29, (I x31)), (33, (sTerm o33)), (34, (I (o33.length : Int))), (35, (I x43))], [(13, ⟨true, 1, List.map V.str o⟩)], 66⟩ : St)) := by
  refine et (regionE_regp (p := 17) (dk := true) (t := [(10, (V.sl 1 1 (List.map V.str x30))), (13, (aL 13 V.str x44)), (15, (Pt 15)), (27, (V.sl 0 1 (List.map sTerm a2))), (28, (I (a2.length : Int))), (29, (I x31)), (33, (sTerm o33)), (34, (I (o33.length : Int))), (35, (I x43))]) (σ := [(13, ⟨true, 1, List.map V.str x44⟩), (15, vS 3 (eTerm o46))]) (n := 66) rfl (by decide) (by decide) rfl) ?_
  refine et (regp_adv (m := 7) (j := 7) (t' := [(10, (V.sl 1 1 (List.map V.str x30))), (13, (aL 13 V.str x44)), (15, (Pt 15)), (27, (V.sl 0 1 (List.map sTerm a2))), (28, (I (a2.length : Int))), (29, (I x31)), (33, (sTerm o33)), (34, (I (o33.length : Int))), (35, (I x43)), (39, (aL 13 V.str x44)), (40, (Pt 15)), (41, (Sr o46.fField)), (42, (Pt 15)), (43, (Sr o46.fField)), (44, (I (o46.fField.length : Int))), (45, (I (Go.IntKind.wrap .i64 (8 - (o46.fField.length : Int)))))]) rfl rfl rfl) ?_
  refine et (regp_pure (x := (strings_Repeat k ([32] : Str) (Go.IntKind.wrap .i64 (8 - (o46.fField.length : Int))))) (w := fun v47 => (Sr v47)) rfl rfl rfl rfl rfl (p_call rfl rfl rfl rfl rfl (strings_Repeat_ok k ([32] : Str) (Go.IntKind.wrap .i64 (8 - (o46.fField.length : Int)))) (.inl rfl))) ?_
  refine bindE (fun v47 => ?_)
  refine et (putp_adv (m := 0) (j := 8) (t' := [(10, (V.sl 1 1 (List.map V.str x30))), (13, (aL 13 V.str x44)), (15, (Pt 15)), (27, (V.sl 0 1 (List.map sTerm a2))), (28, (I (a2.length : Int))), (29, (I x31)), (33, (sTerm o33)), (34, (I (o33.length : Int))), (35, (I x43)), (39, (aL 13 V.str x44)), (40, (Pt 15)), (41, (Sr o46.fField)), (42, (Pt 15)), (43, (Sr o46.fField)), (44, (I (o46.fField.length : Int))), (45, (I (Go.IntKind.wrap .i64 (8 - (o46.fField.length : Int))))), (46, (Sr v47))]) rfl rfl rfl) ?_
  refine et (regp_pure (x := (cat o46.fField v47)) (w := fun v48 => (Sr v48)) rfl rfl rfl rfl rfl (p_cat rfl rfl rfl)) ?_
  refine bindE (fun v48 => ?_)
  refine et (putp_adv (m := 2) (j := 11) (t' := [(10, (V.sl 1 1 (List.map V.str x30))), (13, (aL 13 V.str x44)), (15, (Pt 15)), (27, (V.sl 0 1 (List.map sTerm a2))), (28, (I (a2.length : Int))), (29, (I x31)), (33, (sTerm o33)), (34, (I (o33.length : Int))), (35, (I x43)), (39, (aL 13 V.str x44)), (40, (Pt 15)), (41, (Sr o46.fField)), (42, (Pt 15)), (43, (Sr o46.fField)), (44, (I (o46.fField.length : Int))), (45, (I (Go.IntKind.wrap .i64 (8 - (o46.fField.length : Int))))), (46, (Sr v47)), (47, (Sr v48)), (48, (V.ptr 15 0 1)), (49, (I o46.fOp))]) rfl rfl rfl) ?_
  refine et (regp_pure (x := (match_sign k o46.fOp)) (w := fun v49 => (Sr v49)) rfl rfl rfl rfl rfl (p_call rfl rfl rfl rfl rfl (match_sign_ok k o46.fOp) (.inl rfl))) ?_
  refine bindE (fun v49 => ?_)
  refine et (putp_adv (m := 0) (j := 12) (t' := [(10, (V.sl 1 1 (List.map V.str x30))), (13, (aL 13 V.str x44)), (15, (Pt 15)), (27, (V.sl 0 1 (List.map sTerm a2))), (28, (I (a2.length : Int))), (29, (I x31)), (33, (sTerm o33)), (34, (I (o33.length : Int))), (35, (I x43)), (39, (aL 13 V.str x44)), (40, (Pt 15)), (41, (Sr o46.fField)), (42, (Pt 15)), (43, (Sr o46.fField)), (44, (I (o46.fField.length : Int))), (45, (I (Go.IntKind.wrap .i64 (8 - (o46.fField.length : Int))))), (46, (Sr v47)), (47, (Sr v48)), (48, (V.ptr 15 0 1)), (49, (I o46.fOp)), (50, (Sr v49))]) rfl rfl rfl) ?_
  refine et (regp_pure (x := (cat v48 v49)) (w := fun v50 => (Sr v50)) rfl rfl rfl rfl rfl (p_cat rfl rfl rfl)) ?_
  refine bindE (fun v50 => ?_)
  refine et (putp_adv (m := 2) (j := 15) (t' := [(10, (V.sl 1 1 (List.map V.str x30))), (13, (aL 13 V.str x44)), (15, (Pt 15)), (27, (V.sl 0 1 (List.map sTerm a2))), (28, (I (a2.length : Int))), (29, (I x31)), (33, (sTerm o33)), (34, (I (o33.length : Int))), (35, (I x43)), (39, (aL 13 V.str x44)), (40, (Pt 15)), (41, (Sr o46.fField)), (42, (Pt 15)), (43, (Sr o46.fField)), (44, (I (o46.fField.length : Int))), (45, (I (Go.IntKind.wrap .i64 (8 - (o46.fField.length : Int))))), (46, (Sr v47)), (47, (Sr v48)), (48, (V.ptr 15 0 1)), (49, (I o46.fOp)), (50, (Sr v49)), (51, (Sr v50)), (52, (V.ptr 15 0 2)), (53, (Sr o46.fValue))]) rfl rfl rfl) ?_
  refine et (regp_pure (x := (cat v50 o46.fValue)) (w := fun v51 => (Sr v51)) rfl rfl rfl rfl rfl (p_cat rfl rfl rfl)) ?_
  refine bindE (fun v51 => ?_)
  refine et (regp_reg (m := 0) (j := 17) (st' := ⟨[(10, (V.sl 1 1 (List.map V.str x30))), (13, (aL 13 V.str x44)), (15, (Pt 15)), (27, (V.sl 0 1 (List.map sTerm a2))), (28, (I (a2.length : Int))), (29, (I x31)), (33, (sTerm o33)), (34, (I (o33.length : Int))), (35, (I x43)), (39, (aL 13 V.str x44)), (40, (Pt 15)), (41, (Sr o46.fField)), (42, (Pt 15)), (43, (Sr o46.fField)), (44, (I (o46.fField.length : Int))), (45, (I (Go.IntKind.wrap .i64 (8 - (o46.fField.length : Int))))), (46, (Sr v47)), (47, (Sr v48)), (48, (V.ptr 15 0 1)), (49, (I o46.fOp)), (50, (Sr v49)), (51, (Sr v50)), (52, (V.ptr 15 0 2)), (53, (Sr o46.fValue)), (54, (Sr v51)), (55, (sS (([v51] : List Str))))], [(13, ⟨true, 1, List.map V.str x44⟩), (15, vS 3 (eTerm o46))], 66⟩) rfl rfl rfl) ?_
  refine et (reg_eff (x := (app x44 ([v51] : List Str))) (w := fun v52 => ((aL 13 V.str v52), _)) rfl rfl rfl rfl (p_appF (e := V.str) (l := x44) rfl rfl rfl rfl rfl rfl rfl rfl rfl rfl rfl (of_decide_eq_true rfl))) ?_
  refine bind_self (fun v52 => ?_)
  exact bind_end rfl
theorem f28r13 (k : Nat) (a2 : (List (List T_api_Term))) (x30 : (List Str)) (x31 : Int) (o33 : (List T_api_Term)) (x43 : Int) (o53 : (List Str)) : RE k f28a13 f28o13 false ⟨[(10, (V.sl 1 1 (List.map V.str x30))), (13, (aL 13 V.str o53)), (27, (V.sl 0 1 (List.map sTerm a2))), (28, (I (a2.length : Int))), (29, (I x31)), (33, (sTerm o33)), (34, (I (o33.length : Int))), (35, (I x43))], [(13, ⟨true, 1, List.map V.str o53⟩)], 66⟩ = some ⟨[(10, (V.sl 1 1 (List.map V.str x30))), (13, (aL 13 V.str o53)), (27, (V.sl 0 1 (List.map sTerm a2))), (28, (I (a2.length : Int))), (29, (I x31)), (33, (sTerm o33)), (34, (I (o33.length : Int))), (35, (I (Go.IntKind.wrap .i64 (x43 + 1))))], [(13, ⟨true, 1, List.map V.str o53⟩)], 66⟩ :=
  rE rfl
theorem match_Format_L2_ok (k : Nat) (a0 : T_api_Base) (a1 : Int) (a2 : (List (List T_api_Term))) (x30 : (List Str)) (x31 : Int) (o33 : (List T_api_Term))  (K0 : Int → (List Str) → Option (Str × Int)) (Kst : X × St → Option (V × List V)) (hK0 : ∀ (y0 : Int) (y1 : (List Str)), Kst (X.exit 2, ⟨[(10, (V.sl 1 1 (List.map V.str x30))), (13, (aL 13 V.str y1)), (27, (V.sl 0 1 (List.map sTerm a2))), (28, (I (a2.length : Int))), (29, (I x31)), (33, (sTerm o33)), (34, (I (o33.length : Int))), (35, (I y0)), (36, (Bo false))], [(13, ⟨true, 1, List.map V.str y1⟩)], 66⟩) = (K0 y0 y1).map match_Format_fin) (hret : ∀ s, Kst (X.ret, s) = endK prog 66 [(eBase a0), (I a1), (V.sl 0 1 (List.map sTerm a2))] [] [.tmp 6, .tmp 7] (X.ret, s)) :
    ∀ (m : Nat) (x43 : Int) (x44 : (List Str)), (iter (exec prog (EV k) f28n k f28b0) m ⟨[(10, (V.sl 1 1 (List.map V.str x30))), (13, (aL 13 V.str x44)), (27, (V.sl 0 1 (List.map sTerm a2))), (28, (I (a2.length : Int))), (29, (I x31)), (33, (sTerm o33)), (34, (I (o33.length : Int))), (35, (I x43))], [(13, ⟨true, 1, List.map V.str x44⟩)], 66⟩).bind Kst = (match_Format_L2 k o33 K0 m x43 x44).map match_Format_fin := by
  intro m
  induction m with
  | zero => intros; rfl
  | succ m ih =>
    intro x43 x44
    unfold match_Format_L2
    refine et k_round ?_
    refine et (k_region0 rfl (f28r10 k a2 x30 x31 o33 x43 x44)) ?_
    refine et (k_cond (t := (decide (x43 < (o33.length : Int)))) rfl rfl) ?_
    refine bifE2 (fun hc => ?_) fun hc => ?_
    · rw [hc]
      refine et k_skip ?_
      refine et (k_block rfl) ?_
      refine et (k_region rfl (f28r11 k a2 x30 x31 o33 x43 x44)) ?_
      refine bindE (fun o46 => ?_)
      refine et (k_lregion rfl (f28r12 k a2 x30 x31 o33 x43 x44 o46)) ?_
      refine bindE (fun o53 => ?_)
      refine et blk_normal ?_
      refine et (k_lregion0 rfl (f28r13 k a2 x30 x31 o33 x43 o53)) ?_
      refine et loop_normal ?_
      exact ih (Go.IntKind.wrap .i64 (x43 + 1)) o53
    · rw [hc]
      refine et k_exit ?_
      refine et loop_exit ?_
      exact hK0 x43 x44
theorem f28r14 (k : Nat) (a2 : (List (List T_api_Term))) (x30 : (List Str)) (x31 : Int) (o33 : (List T_api_Term)) (y54 : Int) (y55 : (List Str)) : RE k f28a14 f28o14 false ⟨[(10, (V.sl 1 1 (List.map V.str x30))), (13, (aL 13 V.str y55)), (27, (V.sl 0 1 (List.map sTerm a2))), (28, (I (a2.length : Int))), (29, (I x31)), (33, (sTerm o33)), (34, (I (o33.length : Int))), (35, (I y54)), (36, (Bo false))], [(13, ⟨true, 1, List.map V.str y55⟩)], 66⟩ = (((strings_Join k y55 ([38] : Str)).bind fun v56 => (app x30 ([v56] : List Str)))).map (fun (o : (List Str)) => (⟨[(10, (V.sl 1 1 (List.map V.str o))), (27, (V.sl 0 1 (List.map sTerm a2))), (28, (I (a2.length : Int))), (29, (I x31))], [], 66⟩ : St)) := by
  refine rg ?_
  refine ra 2 2 ⟨[(10, (sS x30)), (13, (aL 13 V.str y55)), (27, (V.sl 0 1 (List.map sTerm a2))), (28, (I (a2.length : Int))), (29, (I x31)), (33, (sTerm o33)), (34, (I (o33.length : Int))), (35, (I y54)), (36, (Bo false)), (58, (V.sl 1 1 (List.map V.str x30))), (59, (aL 13 V.str y55))], [(13, ⟨true, 1, List.map V.str y55⟩)], 66⟩ rfl rfl rfl ?_
  refine et (reg_pure (x := (strings_Join k y55 ([38] : Str))) (w := fun v56 => (Sr v56)) rfl rfl rfl rfl (p_call rfl rfl rfl rfl (argsL (lendA (e := V.str) rfl) (by intro s i q h; cases h) (argsL rfl (by intro s i q h; cases h) rfl)) (strings_Join_ok k y55 ([38] : Str)) (.inr (fun _ => rfl)))) ?_
  refine bindE (fun v56 => ?_)
  refine ba 1 4 ⟨[(10, (sS x30)), (13, (aL 13 V.str y55)), (27, (V.sl 0 1 (List.map sTerm a2))), (28, (I (a2.length : Int))), (29, (I x31)), (33, (sTerm o33)), (34, (I (o33.length : Int))), (35, (I y54)), (36, (Bo false)), (58, (V.sl 1 1 (List.map V.str x30))), (59, (aL 13 V.str y55)), (60, (Sr v56)), (61, (sS (([v56] : List Str))))], [(13, ⟨true, 1, List.map V.str y55⟩)], 66⟩ rfl rfl rfl ?_
  refine et (reg_eff (x := (app x30 ([v56] : List Str))) (w := fun v57 => ((V.sl 1 1 (List.map V.str v57)), _)) rfl rfl rfl rfl (p_app (e := V.str) rfl rfl rfl rfl rfl rfl rfl rfl rfl rfl (by decide))) ?_
  refine bind_self (fun v57 => ?_)
  exact bind_end rfl
theorem f28r15 (k : Nat) (a2 : (List (List T_api_Term))) (x31 : Int) (o58 : (List Str)) : RE k f28a15 f28o15 false ⟨[(10, (V.sl 1 1 (List.map V.str o58))), (27, (V.sl 0 1 (List.map sTerm a2))), (28, (I (a2.length : Int))), (29, (I x31))], [], 66⟩ = some ⟨[(10, (V.sl 1 1 (List.map V.str o58))), (27, (V.sl 0 1 (List.map sTerm a2))), (28, (I (a2.length : Int))), (29, (I (Go.IntKind.wrap .i64 (x31 + 1))))], [], 66⟩ :=
  rE rfl
theorem match_Format_L1_ok (k : Nat) (a0 : T_api_Base) (a1 : Int) (a2 : (List (List T_api_Term)))  (K0 : (List Str) → Int → Option (Str × Int)) (Kst : X × St → Option (V × List V)) (hK0 : ∀ (y0 : (List Str)) (y1 : Int), Kst (X.exit 0, ⟨[(10, (V.sl 1 1 (List.map V.str y0))), (27, (V.sl 0 1 (List.map sTerm a2))), (28, (I (a2.length : Int))), (29, (I y1)), (30, (Bo false))], [], 66⟩) = (K0 y0 y1).map match_Format_fin) (hret : ∀ s, Kst (X.ret, s) = endK prog 66 [(eBase a0), (I a1), (V.sl 0 1 (List.map sTerm a2))] [] [.tmp 6, .tmp 7] (X.ret, s)) :
    ∀ (m : Nat) (x30 : (List Str)) (x31 : Int), (iter (exec prog (EV k) f28n k f28b1) m ⟨[(10, (V.sl 1 1 (List.map V.str x30))), (27, (V.sl 0 1 (List.map sTerm a2))), (28, (I (a2.length : Int))), (29, (I x31))], [], 66⟩).bind Kst = (match_Format_L1 k a2 K0 m x30 x31).map match_Format_fin := by
  intro m
  induction m with
  | zero => intros; rfl
  | succ m ih =>
    intro x30 x31
    unfold match_Format_L1
    refine et k_round ?_
    refine et (k_region0 rfl (f28r6 k a2 x30 x31)) ?_
    refine et (k_cond (t := (decide (x31 < (a2.length : Int)))) rfl rfl) ?_
    refine bifE2 (fun hc => ?_) fun hc => ?_
    · rw [hc]
      refine et k_skip ?_
      refine et (k_block rfl) ?_
      refine et (k_region rfl (f28r7 k a2 x30 x31)) ?_
      refine bindE (fun o33 => ?_)
      refine et (k_region0 rfl (f28r8 k a2 x30 x31 o33)) ?_
      refine et k_assoc ?_
      refine et (k_region0 rfl (f28r9 k a2 x30 x31 o33)) ?_
      refine et (k_block rfl) ?_
      refine et k_loop ?_
      refine match_Format_L2_ok k a0 a1 a2 x30 x31 o33 _ _ ?h_match_Format_L2_0 ?hr_match_Format_L2 k 0 ([] : List Str)
      · intro y54 y55
        refine et blk_exit ?_
        refine et (k_lregion rfl (f28r14 k a2 x30 x31 o33 y54 y55)) ?_
        refine bindE (fun o58 => ?_)
        refine et blk_normal ?_
        refine et (k_lregion0 rfl (f28r15 k a2 x31 o58)) ?_
        refine et loop_normal ?_
        exact ih o58 (Go.IntKind.wrap .i64 (x31 + 1))
      · intro s; exact hret s
    · rw [hc]
      refine et k_exit ?_
      refine et loop_exit ?_
      exact hK0 x30 x31
theorem f28r16 (k : Nat) (a2 : (List (List T_api_Term))) (y59 : (List Str)) (y60 : Int) : RE k f28a16 f28o16 false ⟨[(10, (V.sl 1 1 (List.map V.str y59))), (27, (V.sl 0 1 (List.map sTerm a2))), (28, (I (a2.length : Int))), (29, (I y60)), (30, (Bo false))], [], 66⟩ = (((strings_Join k y59 ([124] : Str)).bind fun v61 => (some (v61, 0)))).map (fun (o : Str × Int) => (⟨[(6, (Sr o.1)), (7, (I o.2))], [], 66⟩ : St)) := by
  refine rg ?_
  refine ra 1 1 ⟨[(10, (V.sl 1 1 (List.map V.str y59))), (27, (V.sl 0 1 (List.map sTerm a2))), (28, (I (a2.length : Int))), (29, (I y60)), (30, (Bo false)), (64, (sS y59))], [], 66⟩ rfl rfl rfl ?_
  refine et (reg_pure (x := (strings_Join k y59 ([124] : Str))) (w := fun v61 => (Sr v61)) rfl rfl rfl rfl (p_call rfl rfl rfl rfl rfl (strings_Join_ok k y59 ([124] : Str)) (.inl rfl))) ?_
  refine bindE (fun v61 => ?_)
  exact bind_end rfl
theorem match_Format_ok (k : Nat) (a0 : T_api_Base) (a1 : Int) (a2 : (List (List T_api_Term))) : EV k 28 [(eBase a0), (I a1), (V.sl 0 1 (List.map sTerm a2))] = (match_Format k a0 a1 a2).map match_Format_fin := by
  cases k with
  | zero => rfl
  | succ k =>
    unfold match_Format
    refine et (evF_succ (c := f28c) (N := 66) (regs := f28n) rfl func28 rfl (by decide) rfl rfl rfl) ?_
    refine et (k_region0 rfl (f28r0 k a0 a1 a2)) ?_
    refine et k_assoc ?_
    refine et (k_region rfl (f28r1 k a0 a1 a2)) ?_
    refine bindE (fun o2 => ?_)
    refine et k_assoc ?_
    refine et (k_region0 rfl (f28r2 k a2 o2)) ?_
    refine et (k_cond (t := (o2 != 0)) rfl rfl) ?_
    refine bifE2 (fun hc => ?_) fun hc => ?_
    · rw [hc]
      refine et k_assoc ?_
      refine et (k_region0 rfl (f28r3 k a2 o2)) ?_
      refine et k_ret ?_
      rfl
    · rw [hc]
      refine et k_skip ?_
      refine et (k_region0 rfl (f28r4 k a2 o2)) ?_
      refine et k_assoc ?_
      refine et (k_region0 rfl (f28r5 k a2)) ?_
      refine et (k_block rfl) ?_
      refine et k_loop ?_
      refine match_Format_L1_ok k a0 a1 a2 _ _ ?h_match_Format_L1_0 ?hr_match_Format_L1 k ([] : List Str) 0
      · intro y59 y60
        refine et blk_exit ?_
        refine et (k_region rfl (f28r16 k a2 y59 y60)) ?_
        refine bindE (fun o62 => ?_)
        refine et k_lret ?_
        rfl
      · intro s; exact rfl
def match_span_fin : (Str × Str) → V × List V := fun r => (.tup [(Sr r.1), (Sr r.2)], [])
theorem f30r0 (k : Nat) (a0 : Str) (a1 : Int) (a2 : (List T_api_Term)) : RE k f30a0 f30o0 false ⟨[(0, (Sr a0)), (1, (I a1)), (2, (sTerm a2))], [], 59⟩ = some ⟨[(0, (Sr a0)), (1, (I a1)), (2, (sTerm a2)), (6, (Sr ([] : Str)))], [], 59⟩ :=
  rE rfl
theorem f30r1 (k : Nat) (a0 : Str) (a1 : Int) (a2 : (List T_api_Term)) : RE k f30a1 f30o1 false ⟨[(0, (Sr a0)), (1, (I a1)), (2, (sTerm a2)), (6, (Sr ([] : Str)))], [], 59⟩ = ((strings_Repeat k ([255] : Str) a1)).map (fun (o : Str) => (⟨[(0, (Sr a0)), (2, (sTerm a2)), (6, (Sr ([] : Str))), (7, (Sr o))], [], 59⟩ : St)) := by
  refine rg ?_
  refine ra 1 1 ⟨[(0, (Sr a0)), (1, (I a1)), (2, (sTerm a2)), (6, (Sr ([] : Str))), (10, (I a1))], [], 59⟩ rfl rfl rfl ?_
  refine et (reg_pure (x := (strings_Repeat k ([255] : Str) a1)) (w := fun v1 => (Sr v1)) rfl rfl rfl rfl (p_call rfl rfl rfl rfl rfl (strings_Repeat_ok k ([255] : Str) a1) (.inl rfl))) ?_
  refine bind_self (fun v1 => ?_)
  exact bind_end rfl
theorem f30r2 (k : Nat) (a0 : Str) (a2 : (List T_api_Term)) (o2 : Str) : RE k f30a2 f30o2 false ⟨[(0, (Sr a0)), (2, (sTerm a2)), (6, (Sr ([] : Str))), (7, (Sr o2))], [], 59⟩ = some ⟨[(0, (Sr a0)), (6, (Sr ([] : Str))), (7, (Sr o2)), (12, (sTerm a2)), (13, (I (a2.length : Int))), (14, (I 0))], [], 59⟩ := by
  refine rg ?_
  refine ra 1 1 ⟨[(0, (Sr a0)), (2, (sTerm a2)), (6, (Sr ([] : Str))), (7, (Sr o2)), (12, (sTerm a2))], [], 59⟩ rfl rfl rfl ?_
  refine et (reg_pure (x := some ()) (w := fun _ => (I (a2.length : Int))) rfl rfl rfl rfl (p_len (e := eTerm) rfl rfl rfl rfl rfl rfl underlying50)) ?_
  refine et some_bind ?_
  exact bind_end rfl
theorem f30r3 (k : Nat) (a0 : Str) (a2 : (List T_api_Term)) (x8 : Int) (x9 : Str) (x10 : Str) : RE k f30a3 f30o3 false ⟨[(0, (Sr a0)), (6, (Sr x9)), (7, (Sr x10)), (12, (sTerm a2)), (13, (I (a2.length : Int))), (14, (I x8))], [], 59⟩ = some ⟨[(0, (Sr a0)), (6, (Sr x9)), (7, (Sr x10)), (12, (sTerm a2)), (13, (I (a2.length : Int))), (14, (I x8)), (15, (Bo (decide (x8 < (a2.length : Int)))))], [], 59⟩ :=
  rE rfl
theorem f30r4 (k : Nat) (a0 : Str) (a2 : (List T_api_Term)) (x8 : Int) (x9 : Str) (x10 : Str) : RE k f30a4 f30o4 false ⟨[(0, (Sr a0)), (6, (Sr x9)), (7, (Sr x10)), (12, (sTerm a2)), (13, (I (a2.length : Int))), (14, (I x8)), (15, (Bo true))], [], 59⟩ = ((idx a2 x8)).map (fun (o : T_api_Term) => (⟨[(0, (Sr a0)), (6, (Sr x9)), (7, (Sr x10)), (9, (Pt 9)), (12, (sTerm a2)), (13, (I (a2.length : Int))), (14, (I x8))], [(9, vS 3 (eTerm o))], 59⟩ : St)) := by
  refine rg ?_
  refine et (reg_pure (x := (idx a2 x8)) (w := fun v11 => (Pr (eTerm v11))) rfl rfl rfl rfl (p_index (e := eTerm) rfl rfl rfl underlying50 rfl (by decide))) ?_
  refine bind_self (fun v11 => ?_)
  exact bind_end rfl
theorem f30r5 (k : Nat) (a0 : Str) (a2 : (List T_api_Term)) (x8 : Int) (x9 : Str) (x10 : Str) (o12 : T_api_Term) : RE k f30a5 f30o5 false ⟨[(0, (Sr a0)), (6, (Sr x9)), (7, (Sr x10)), (9, (Pt 9)), (12, (sTerm a2)), (13, (I (a2.length : Int))), (14, (I x8))], [(9, vS 3 (eTerm o12))], 59⟩ = some ⟨[(0, (Sr a0)), (6, (Sr x9)), (7, (Sr x10)), (9, (Pt 9)), (12, (sTerm a2)), (13, (I (a2.length : Int))), (14, (I x8)), (21, (Bo (!(o12.fField == a0))))], [(9, vS 3 (eTerm o12))], 59⟩ :=
  rE rfl
theorem f30r10 (k : Nat) (a0 : Str) (a2 : (List T_api_Term)) (x8 : Int) (x9 : Str) (x10 : Str) (o12 : T_api_Term) : RE k f30a10 f30o10 false ⟨[(0, (Sr a0)), (6, (Sr x9)), (7, (Sr x10)), (9, (Pt 9)), (12, (sTerm a2)), (13, (I (a2.length : Int))), (14, (I x8)), (21, (Bo true))], [(9, vS 3 (eTerm o12))], 59⟩ = some ⟨[(0, (Sr a0)), (6, (Sr x9)), (7, (Sr x10)), (12, (sTerm a2)), (13, (I (a2.length : Int))), (14, (I (Go.IntKind.wrap .i64 (x8 + 1))))], [], 59⟩ :=
  rE rfl
theorem f30r6 (k : Nat) (a0 : Str) (a2 : (List T_api_Term)) (x8 : Int) (x9 : Str) (x10 : Str) (o12 : T_api_Term) : RE k f30a6 f30o6 false ⟨[(0, (Sr a0)), (6, (Sr x9)), (7, (Sr x10)), (9, (Pt 9)), (12, (sTerm a2)), (13, (I (a2.length : Int))), (14, (I x8)), (21, (Bo false))], [(9, vS 3 (eTerm o12))], 59⟩ = ((bif (o12.fOp == 1) then (some (true)) else (bif (o12.fOp == 5) then (some (true)) else (some ((o12.fOp == 6)))))).map (fun (o : Bool) => (⟨[(0, (Sr a0)), (6, (Sr x9)), (7, (Sr x10)), (9, (Pt 9)), (12, (sTerm a2)), (13, (I (a2.length : Int))), (14, (I x8)), (34, (Bo o))], [(9, vS 3 (eTerm o12))], 59⟩ : St)) := by
  refine rg ?_
  refine ra 4 4 ⟨[(0, (Sr a0)), (6, (Sr x9)), (7, (Sr x10)), (9, (Pt 9)), (12, (sTerm a2)), (13, (I (a2.length : Int))), (14, (I x8)), (21, (Bo false)), (22, (V.ptr 9 0 1)), (23, (I o12.fOp)), (24, (Bo (o12.fOp == 1))), (25, (Bo (o12.fOp == 1)))], [(9, vS 3 (eTerm o12))], 59⟩ rfl rfl rfl ?_
  refine bifE (c := (o12.fOp == 1)) (fun hc => ?_) fun hc => ?_
  · rw [hc]
    exact reg_end rfl
  · rw [hc]
    refine ra 5 9 ⟨[(0, (Sr a0)), (6, (Sr x9)), (7, (Sr x10)), (9, (Pt 9)), (12, (sTerm a2)), (13, (I (a2.length : Int))), (14, (I x8)), (21, (Bo false)), (22, (V.ptr 9 0 1)), (23, (I o12.fOp)), (24, (Bo false)), (25, (Bo false)), (26, (V.ptr 9 0 1)), (27, (I o12.fOp)), (28, (Bo (o12.fOp == 5))), (29, (Bo (o12.fOp == 5))), (30, (Bo (o12.fOp == 5)))], [(9, vS 3 (eTerm o12))], 59⟩ rfl rfl rfl ?_
    refine bifE (c := (o12.fOp == 5)) (fun hc => ?_) fun hc => ?_
    · rw [hc]
      exact reg_end rfl
    · rw [hc]
      exact reg_end rfl
theorem f30r7 (k : Nat) (a0 : Str) (a2 : (List T_api_Term)) (x8 : Int) (x9 : Str) (x10 : Str) (o12 : T_api_Term) : RE k f30a7 f30o7 false ⟨[(0, (Sr a0)), (6, (Sr x9)), (7, (Sr x10)), (9, (Pt 9)), (12, (sTerm a2)), (13, (I (a2.length : Int))), (14, (I x8)), (34, (Bo true))], [(9, vS 3 (eTerm o12))], 59⟩ = some ⟨[(0, (Sr a0)), (6, (Sr (Go.AE.maxS x9 o12.fValue))), (7, (Sr x10)), (9, (Pt 9)), (12, (sTerm a2)), (13, (I (a2.length : Int))), (14, (I x8))], [(9, vS 3 (eTerm o12))], 59⟩ :=
  rE rfl
theorem f30r8 (k : Nat) (a0 : Str) (a2 : (List T_api_Term)) (x8 : Int) (x9 : Str) (x10 : Str) (o12 : T_api_Term) : RE k f30a8 f30o8 false ⟨[(0, (Sr a0)), (6, (Sr (Go.AE.maxS x9 o12.fValue))), (7, (Sr x10)), (9, (Pt 9)), (12, (sTerm a2)), (13, (I (a2.length : Int))), (14, (I x8))], [(9, vS 3 (eTerm o12))], 59⟩ = ((bif (o12.fOp == 1) then (some (true)) else (bif (o12.fOp == 3) then (some (true)) else (some ((o12.fOp == 4)))))).map (fun (o : Bool) => (⟨[(0, (Sr a0)), (6, (Sr (Go.AE.maxS x9 o12.fValue))), (7, (Sr x10)), (9, (Pt 9)), (12, (sTerm a2)), (13, (I (a2.length : Int))), (14, (I x8)), (51, (Bo o))], [(9, vS 3 (eTerm o12))], 59⟩ : St)) := by
  refine rg ?_
  refine ra 4 4 ⟨[(0, (Sr a0)), (6, (Sr (Go.AE.maxS x9 o12.fValue))), (7, (Sr x10)), (9, (Pt 9)), (12, (sTerm a2)), (13, (I (a2.length : Int))), (14, (I x8)), (39, (V.ptr 9 0 1)), (40, (I o12.fOp)), (41, (Bo (o12.fOp == 1))), (42, (Bo (o12.fOp == 1)))], [(9, vS 3 (eTerm o12))], 59⟩ rfl rfl rfl ?_
  refine bifE (c := (o12.fOp == 1)) (fun hc => ?_) fun hc => ?_
  · rw [hc]
    exact reg_end rfl
  · rw [hc]
    refine ra 5 9 ⟨[(0, (Sr a0)), (6, (Sr (Go.AE.maxS x9 o12.fValue))), (7, (Sr x10)), (9, (Pt 9)), (12, (sTerm a2)), (13, (I (a2.length : Int))), (14, (I x8)), (39, (V.ptr 9 0 1)), (40, (I o12.fOp)), (41, (Bo false)), (42, (Bo false)), (43, (V.ptr 9 0 1)), (44, (I o12.fOp)), (45, (Bo (o12.fOp == 3))), (46, (Bo (o12.fOp == 3))), (47, (Bo (o12.fOp == 3)))], [(9, vS 3 (eTerm o12))], 59⟩ rfl rfl rfl ?_
    refine bifE (c := (o12.fOp == 3)) (fun hc => ?_) fun hc => ?_
    · rw [hc]
      exact reg_end rfl
    · rw [hc]
      exact reg_end rfl
theorem f30r9 (k : Nat) (a0 : Str) (a2 : (List T_api_Term)) (x8 : Int) (x9 : Str) (x10 : Str) (o12 : T_api_Term) : RE k f30a9 f30o9 false ⟨[(0, (Sr a0)), (6, (Sr (Go.AE.maxS x9 o12.fValue))), (7, (Sr x10)), (9, (Pt 9)), (12, (sTerm a2)), (13, (I (a2.length : Int))), (14, (I x8)), (51, (Bo true))], [(9, vS 3 (eTerm o12))], 59⟩ = some ⟨[(0, (Sr a0)), (6, (Sr (Go.AE.maxS x9 o12.fValue))), (7, (Sr (Go.AE.minS x10 o12.fValue))), (12, (sTerm a2)), (13, (I (a2.length : Int))), (14, (I x8))], [], 59⟩ :=
  rE rfl
theorem match_span_r10' (k : Nat) (a0 : Str) (a2 : (List T_api_Term)) (x8 : Int) (x9 : Str) (x10 : Str) (o12 : T_api_Term) : RE k f30a10 f30o10 false ⟨[(0, (Sr a0)), (6, (Sr (Go.AE.maxS x9 o12.fValue))), (7, (Sr (Go.AE.minS x10 o12.fValue))), (12, (sTerm a2)), (13, (I (a2.length : Int))), (14, (I x8))], [], 59⟩ = some ⟨[(0, (Sr a0)), (6, (Sr (Go.AE.maxS x9 o12.fValue))), (7, (Sr (Go.AE.minS x10 o12.fValue))), (12, (sTerm a2)), (13, (I (a2.length : Int))), (14, (I (Go.IntKind.wrap .i64 (x8 + 1))))], [], 59⟩ :=
  rE rfl
theorem match_span_r10'' (k : Nat) (a0 : Str) (a2 : (List T_api_Term)) (x8 : Int) (x9 : Str) (x10 : Str) (o12 : T_api_Term) : RE k f30a10 f30o10 false ⟨[(0, (Sr a0)), (6, (Sr (Go.AE.maxS x9 o12.fValue))), (7, (Sr x10)), (9, (Pt 9)), (12, (sTerm a2)), (13, (I (a2.length : Int))), (14, (I x8)), (51, (Bo false))], [(9, vS 3 (eTerm o12))], 59⟩ = some ⟨[(0, (Sr a0)), (6, (Sr (Go.AE.maxS x9 o12.fValue))), (7, (Sr x10)), (12, (sTerm a2)), (13, (I (a2.length : Int))), (14, (I (Go.IntKind.wrap .i64 (x8 + 1))))], [], 59⟩ :=
  rE rfl
theorem match_span_r8' (k : Nat) (a0 : Str) (a2 : (List T_api_Term)) (x8 : Int) (x9 : Str) (x10 : Str) (o12 : T_api_Term) : RE k f30a8 f30o8 false ⟨[(0, (Sr a0)), (6, (Sr x9)), (7, (Sr x10)), (9, (Pt 9)), (12, (sTerm a2)), (13, (I (a2.length : Int))), (14, (I x8)), (34, (Bo false))], [(9, vS 3 (eTerm o12))], 59⟩ = ((bif (o12.fOp == 1) then (some (true)) else (bif (o12.fOp == 3) then (some (true)) else (some ((o12.fOp == 4)))))).map (fun (o : Bool) => (⟨[(0, (Sr a0)), (6, (Sr x9)), (7, (Sr x10)), (9, (Pt 9)), (12, (sTerm a2)), (13, (I (a2.length : Int))), (14, (I x8)), (51, (Bo o))], [(9, vS 3 (eTerm o12))], 59⟩ : St)) := by
  refine rg ?_
  refine ra 4 4 ⟨[(0, (Sr a0)), (6, (Sr x9)), (7, (Sr x10)), (9, (Pt 9)), (12, (sTerm a2)), (13, (I (a2.length : Int))), (14, (I x8)), (34, (Bo false)), (39, (V.ptr 9 0 1)), (40, (I o12.fOp)), (41, (Bo (o12.fOp == 1))), (42, (Bo (o12.fOp == 1)))], [(9, vS 3 (eTerm o12))], 59⟩ rfl rfl rfl ?_
  refine bifE (c := (o12.fOp == 1)) (fun hc => ?_) fun hc => ?_
  · rw [hc]
    exact reg_end rfl
  · rw [hc]
    refine ra 5 9 ⟨[(0, (Sr a0)), (6, (Sr x9)), (7, (Sr x10)), (9, (Pt 9)), (12, (sTerm a2)), (13, (I (a2.length : Int))), (14, (I x8)), (34, (Bo false)), (39, (V.ptr 9 0 1)), (40, (I o12.fOp)), (41, (Bo false)), (42, (Bo false)), (43, (V.ptr 9 0 1)), (44, (I o12.fOp)), (45, (Bo (o12.fOp == 3))), (46, (Bo (o12.fOp == 3))), (47, (Bo (o12.fOp == 3)))], [(9, vS 3 (eTerm o12))], 59⟩ rfl rfl rfl ?_
    refine bifE (c := (o12.fOp == 3)) (fun hc => ?_) fun hc => ?_
    · rw [hc]
      exact reg_end rfl
    · rw [hc]
      exact reg_end rfl
theorem match_span_r9' (k : Nat) (a0 : Str) (a2 : (List T_api_Term)) (x8 : Int) (x9 : Str) (x10 : Str) (o12 : T_api_Term) : RE k f30a9 f30o9 false ⟨[(0, (Sr a0)), (6, (Sr x9)), (7, (Sr x10)), (9, (Pt 9)), (12, (sTerm a2)), (13, (I (a2.length : Int))), (14, (I x8)), (51, (Bo true))], [(9, vS 3 (eTerm o12))], 59⟩ = some ⟨[(0, (Sr a0)), (6, (Sr x9)), (7, (Sr (Go.AE.minS x10 o12.fValue))), (12, (sTerm a2)), (13, (I (a2.length : Int))), (14, (I x8))], [], 59⟩ :=
  rE rfl
theorem match_span_r10''' (k : Nat) (a0 : Str) (a2 : (List T_api_Term)) (x8 : Int) (x9 : Str) (x10 : Str) (o12 : T_api_Term) : RE k f30a10 f30o10 false ⟨[(0, (Sr a0)), (6, (Sr x9)), (7, (Sr (Go.AE.minS x10 o12.fValue))), (12, (sTerm a2)), (13, (I (a2.length : Int))), (14, (I x8))], [], 59⟩ = some ⟨[(0, (Sr a0)), (6, (Sr x9)), (7, (Sr (Go.AE.minS x10 o12.fValue))), (12, (sTerm a2)), (13, (I (a2.length : Int))), (14, (I (Go.IntKind.wrap .i64 (x8 + 1))))], [], 59⟩ :=
  rE rfl
theorem match_span_r10'''' (k : Nat) (a0 : Str) (a2 : (List T_api_Term)) (x8 : Int) (x9 : Str) (x10 : Str) (o12 : T_api_Term) : RE k f30a10 f30o10 false ⟨[(0, (Sr a0)), (6, (Sr x9)), (7, (Sr x10)), (9, (Pt 9)), (12, (sTerm a2)), (13, (I (a2.length : Int))), (14, (I x8)), (51, (Bo false))], [(9, vS 3 (eTerm o12))], 59⟩ = some ⟨[(0, (Sr a0)), (6, (Sr x9)), (7, (Sr x10)), (12, (sTerm a2)), (13, (I (a2.length : Int))), (14, (I (Go.IntKind.wrap .i64 (x8 + 1))))], [], 59⟩ :=
  rE rfl
theorem match_span_L1_ok (k : Nat) (a0 : Str) (a1 : Int) (a2 : (List T_api_Term))  (K0 : Str → Str → Int → Option (Str × Str)) (Kst : X × St → Option (V × List V)) (hK0 : ∀ (y0 : Str) (y1 : Str) (y2 : Int), Kst (X.exit 0, ⟨[(0, (Sr a0)), (6, (Sr y0)), (7, (Sr y1)), (12, (sTerm a2)), (13, (I (a2.length : Int))), (14, (I y2)), (15, (Bo false))], [], 59⟩) = (K0 y0 y1 y2).map match_span_fin) (hret : ∀ s, Kst (X.ret, s) = endK prog 59 [(Sr a0), (I a1), (sTerm a2)] [] [.tmp 6, .tmp 7] (X.ret, s)) :
    ∀ (m : Nat) (x8 : Int) (x9 : Str) (x10 : Str), (iter (exec prog (EV k) f30n k f30b0) m ⟨[(0, (Sr a0)), (6, (Sr x9)), (7, (Sr x10)), (12, (sTerm a2)), (13, (I (a2.length : Int))), (14, (I x8))], [], 59⟩).bind Kst = (match_span_L1 a0 a2 K0 m x8 x9 x10).map match_span_fin := by
  intro m
  induction m with
  | zero => intros; rfl
  | succ m ih =>
    intro x8 x9 x10
    unfold match_span_L1
    refine et k_round ?_
    refine et (k_region0 rfl (f30r3 k a0 a2 x8 x9 x10)) ?_
    refine et (k_cond (t := (decide (x8 < (a2.length : Int)))) rfl rfl) ?_
    refine bifE2 (fun hc => ?_) fun hc => ?_
    · rw [hc]
      refine et k_skip ?_
      refine et (k_block rfl) ?_
      refine et (k_region rfl (f30r4 k a0 a2 x8 x9 x10)) ?_
      refine bindE (fun o12 => ?_)
      refine et k_assoc ?_
      refine et (k_region0 rfl (f30r5 k a0 a2 x8 x9 x10 o12)) ?_
      refine et (k_cond (t := (!(o12.fField == a0))) rfl rfl) ?_
      refine bifE2 (fun hc => ?_) fun hc => ?_
      · rw [hc]
        refine et k_exit ?_
        refine et blk_exit ?_
        refine et (k_lregion0 rfl (f30r10 k a0 a2 x8 x9 x10 o12)) ?_
        refine et loop_normal ?_
        exact ih (Go.IntKind.wrap .i64 (x8 + 1)) x9 x10
      · rw [hc]
        refine et k_skip ?_
        refine et k_assoc ?_
        refine et (k_region rfl (f30r6 k a0 a2 x8 x9 x10 o12)) ?_
        refine bindE (fun o13 => ?_)
        refine et (k_cond (t := o13) rfl rfl) ?_
        refine bifE2 (fun hc => ?_) fun hc => ?_
        · rw [hc]
          refine et (k_region0 rfl (f30r7 k a0 a2 x8 x9 x10 o12)) ?_
          refine et (k_region rfl (f30r8 k a0 a2 x8 x9 x10 o12)) ?_
          refine bindE (fun o14 => ?_)
          refine et (k_lcond (t := o14) rfl rfl) ?_
          refine bifE2 (fun hc => ?_) fun hc => ?_
          · rw [hc]
            refine et (k_lregion0 rfl (f30r9 k a0 a2 x8 x9 x10 o12)) ?_
            refine et blk_normal ?_
            refine et (k_lregion0 rfl (match_span_r10' k a0 a2 x8 x9 x10 o12)) ?_
            refine et loop_normal ?_
            exact ih (Go.IntKind.wrap .i64 (x8 + 1)) (Go.AE.maxS x9 o12.fValue) (Go.AE.minS x10 o12.fValue)
          · rw [hc]
            refine et k_lskip ?_
            refine et blk_normal ?_
            refine et (k_lregion0 rfl (match_span_r10'' k a0 a2 x8 x9 x10 o12)) ?_
            refine et loop_normal ?_
            exact ih (Go.IntKind.wrap .i64 (x8 + 1)) (Go.AE.maxS x9 o12.fValue) x10
        · rw [hc]
          refine et k_skip ?_
          refine et (k_region rfl (match_span_r8' k a0 a2 x8 x9 x10 o12)) ?_
          refine bindE (fun o15 => ?_)
          refine et (k_lcond (t := o15) rfl rfl) ?_
          refine bifE2 (fun hc => ?_) fun hc => ?_
          · rw [hc]
            refine et (k_lregion0 rfl (match_span_r9' k a0 a2 x8 x9 x10 o12)) ?_
            refine et blk_normal ?_
            refine et (k_lregion0 rfl (match_span_r10''' k a0 a2 x8 x9 x10 o12)) ?_
            refine et loop_normal ?_
            exact ih (Go.IntKind.wrap .i64 (x8 + 1)) x9 (Go.AE.minS x10 o12.fValue)
          · rw [hc]
            refine et k_lskip ?_
            refine et blk_normal ?_
            refine et (k_lregion0 rfl (match_span_r10'''' k a0 a2 x8 x9 x10 o12)) ?_
            refine et loop_normal ?_
            exact ih (Go.IntKind.wrap .i64 (x8 + 1)) x9 x10
    · rw [hc]
      refine et k_exit ?_
      refine et loop_exit ?_
      exact hK0 x9 x10 x8
theorem f30r11 (k : Nat) (a0 : Str) (a2 : (List T_api_Term)) (y16 : Str) (y17 : Str) (y18 : Int) : RE k f30a11 f30o11 false ⟨[(0, (Sr a0)), (6, (Sr y16)), (7, (Sr y17)), (12, (sTerm a2)), (13, (I (a2.length : Int))), (14, (I y18)), (15, (Bo false))], [], 59⟩ = some ⟨[(6, (Sr y16)), (7, (Sr y17))], [], 59⟩ :=
  rE rfl
theorem match_span_ok (k : Nat) (a0 : Str) (a1 : Int) (a2 : (List T_api_Term)) : EV k 30 [(Sr a0), (I a1), (sTerm a2)] = (match_span k a0 a1 a2).map match_span_fin := by
  cases k with
  | zero => rfl
  | succ k =>
    unfold match_span
    refine et (evF_succ (c := f30c) (N := 59) (regs := f30n) rfl func30 rfl (by decide) rfl rfl rfl) ?_
    refine et (k_region0 rfl (f30r0 k a0 a1 a2)) ?_
    refine et (k_region rfl (f30r1 k a0 a1 a2)) ?_
    refine bindE (fun o2 => ?_)
    refine et k_assoc ?_
    refine et (k_region0 rfl (f30r2 k a0 a2 o2)) ?_
    refine et (k_block rfl) ?_
    refine et k_loop ?_
    refine match_span_L1_ok k a0 a1 a2 _ _ ?h_match_span_L1_0 ?hr_match_span_L1 k 0 ([] : Str) o2
    · intro y16 y17 y18
      refine et blk_exit ?_
      refine et (k_region0 rfl (f30r11 k a0 a2 y16 y17 y18)) ?_
      refine et k_lret ?_
      rfl
    · intro s; exact rfl
def match_Range_fin : (Str × Str × Int) → V × List V := fun r => (.tup [(Sr r.1), (Sr r.2.1), (I r.2.2)], [])
theorem f11r0 (k : Nat) (a0 : T_api_Base) (a1 : Int) (a2 : (List (List T_api_Term))) : RE k f11a0 f11o0 false ⟨[(0, (eBase a0)), (1, (I a1)), (2, (V.sl 0 1 (List.map sTerm a2)))], [], 78⟩ = some ⟨[(1, (I a1)), (2, (V.sl 0 1 (List.map sTerm a2))), (3, (Pt 3)), (6, (Sr ([] : Str))), (7, (Sr ([] : Str)))], [(3, vS 4 (eBase a0))], 78⟩ :=
  rE rfl
theorem f11r1 (k : Nat) (a0 : T_api_Base) (a1 : Int) (a2 : (List (List T_api_Term))) : RE k f11a1 f11o1 false ⟨[(1, (I a1)), (2, (V.sl 0 1 (List.map sTerm a2))), (3, (Pt 3)), (6, (Sr ([] : Str))), (7, (Sr ([] : Str)))], [(3, vS 4 (eBase a0))], 78⟩ = (((match_conditions k a0 a1 ([a2] : List (List (List T_api_Term)))).bind fun v1 => (some (v1.2, v1.1)))).map (fun (o : Int × T_api_Type) => (⟨[(2, (V.sl 0 1 (List.map sTerm a2))), (6, (Sr ([] : Str))), (7, (Sr ([] : Str))), (9, (Pt 9)), (10, (I o.1))], [(9, vS 8 (eType o.2))], 78⟩ : St)) := by
  refine rg ?_
  refine ra 4 4 ⟨[(1, (I a1)), (2, (V.sl 0 1 (List.map sTerm a2))), (3, (Pt 3)), (6, (Sr ([] : Str))), (7, (Sr ([] : Str))), (17, (eBase a0)), (18, (I a1)), (19, (V.sl 0 1 (List.map sTerm a2))), (20, (V.sl 0 1 (List.map (fun x => (V.sl 0 1 (List.map sTerm x))) ([a2] : List (List (List T_api_Term))))))], [(3, vS 4 (eBase a0))], 78⟩ rfl rfl rfl ?_
  refine et (reg_pure (x := (match_conditions k a0 a1 ([a2] : List (List (List T_api_Term))))) (w := fun v1 => (V.tup [(eType v1.1), (I v1.2)])) rfl rfl rfl rfl (p_call rfl rfl rfl rfl rfl (match_conditions_ok k a0 a1 ([a2] : List (List (List T_api_Term)))) (.inl rfl))) ?_
  refine bindE (fun v1 => ?_)
  exact bind_end rfl
theorem f11r2 (k : Nat) (a2 : (List (List T_api_Term))) (o2 : Int × T_api_Type) : RE k f11a2 f11o2 false ⟨[(2, (V.sl 0 1 (List.map sTerm a2))), (6, (Sr ([] : Str))), (7, (Sr ([] : Str))), (9, (Pt 9)), (10, (I o2.1))], [(9, vS 8 (eType o2.2))], 78⟩ = some ⟨[(2, (V.sl 0 1 (List.map sTerm a2))), (6, (Sr ([] : Str))), (7, (Sr ([] : Str))), (9, (Pt 9)), (10, (I o2.1)), (24, (Bo (o2.1 != 0)))], [(9, vS 8 (eType o2.2))], 78⟩ :=
  rE rfl
theorem f11r3 (k : Nat) (a2 : (List (List T_api_Term))) (o2 : Int × T_api_Type) : RE k f11a3 f11o3 false ⟨[(2, (V.sl 0 1 (List.map sTerm a2))), (6, (Sr ([] : Str))), (7, (Sr ([] : Str))), (9, (Pt 9)), (10, (I o2.1)), (24, (Bo true))], [(9, vS 8 (eType o2.2))], 78⟩ = some ⟨[(6, (Sr ([] : Str))), (7, (Sr ([] : Str))), (8, (I o2.1))], [], 78⟩ :=
  rE rfl
theorem f11r4 (k : Nat) (a2 : (List (List T_api_Term))) (o2 : Int × T_api_Type) : RE k f11a4 f11o4 false ⟨[(2, (V.sl 0 1 (List.map sTerm a2))), (6, (Sr ([] : Str))), (7, (Sr ([] : Str))), (9, (Pt 9)), (10, (I o2.1)), (24, (Bo false))], [(9, vS 8 (eType o2.2))], 78⟩ = some ⟨[(2, (V.sl 0 1 (List.map sTerm a2))), (6, (Sr ([] : Str))), (7, (Sr ([] : Str))), (9, (Pt 9)), (28, (Bo (decide (o2.2.fKey < 0))))], [(9, vS 8 (eType o2.2))], 78⟩ :=
  rE rfl
theorem f11r5 (k : Nat) (a2 : (List (List T_api_Term))) (o2 : Int × T_api_Type) : RE k f11a5 f11o5 false ⟨[(2, (V.sl 0 1 (List.map sTerm a2))), (6, (Sr ([] : Str))), (7, (Sr ([] : Str))), (9, (Pt 9)), (28, (Bo true))], [(9, vS 8 (eType o2.2))], 78⟩ = some ⟨[(6, (Sr ([] : Str))), (7, (Sr ([] : Str))), (8, (I 5))], [], 78⟩ :=
  rE rfl
theorem f11r6 (k : Nat) (a2 : (List (List T_api_Term))) (o2 : Int × T_api_Type) : RE k f11a6 f11o6 false ⟨[(2, (V.sl 0 1 (List.map sTerm a2))), (6, (Sr ([] : Str))), (7, (Sr ([] : Str))), (9, (Pt 9)), (28, (Bo false))], [(9, vS 8 (eType o2.2))], 78⟩ = ((idx o2.2.fFields o2.2.fKey)).map (fun (o : T_api_Field) => (⟨[(2, (V.sl 0 1 (List.map sTerm a2))), (6, (Sr ([] : Str))), (7, (Sr ([] : Str))), (11, (Pt 11))], [(11, vS 3 (eField o))], 78⟩ : St)) := by
  refine rg ?_
  refine ra 4 4 ⟨[(2, (V.sl 0 1 (List.map sTerm a2))), (6, (Sr ([] : Str))), (7, (Sr ([] : Str))), (9, (Pt 9)), (28, (Bo false)), (32, (V.ptr 9 0 4)), (33, (sField o2.2.fFields)), (34, (V.ptr 9 0 5)), (35, (I o2.2.fKey))], [(9, vS 8 (eType o2.2))], 78⟩ rfl rfl rfl ?_
  refine et (reg_pure (x := (idx o2.2.fFields o2.2.fKey)) (w := fun v3 => (Pr (eField v3))) rfl rfl rfl rfl (p_index (e := eField) rfl rfl rfl underlying43 rfl (by decide))) ?_
  refine bind_self (fun v3 => ?_)
  exact bind_end rfl
theorem f11r7 (k : Nat) (a2 : (List (List T_api_Term))) (o4 : T_api_Field) : RE k f11a7 f11o7 false ⟨[(2, (V.sl 0 1 (List.map sTerm a2))), (6, (Sr ([] : Str))), (7, (Sr ([] : Str))), (11, (Pt 11))], [(11, vS 3 (eField o4))], 78⟩ = some ⟨[(2, (V.sl 0 1 (List.map sTerm a2))), (6, (Sr ([] : Str))), (7, (Sr ([] : Str))), (11, (Pt 11)), (38, (V.sl 0 1 (List.map sTerm a2))), (39, (I (a2.length : Int))), (40, (I 0))], [(11, vS 3 (eField o4))], 78⟩ := by
  refine rg ?_
  refine ra 1 1 ⟨[(2, (V.sl 0 1 (List.map sTerm a2))), (6, (Sr ([] : Str))), (7, (Sr ([] : Str))), (11, (Pt 11)), (38, (V.sl 0 1 (List.map sTerm a2)))], [(11, vS 3 (eField o4))], 78⟩ rfl rfl rfl ?_
  refine et (reg_pure (x := some ()) (w := fun _ => (I (a2.length : Int))) rfl rfl rfl rfl (p_len (e := sTerm) rfl rfl rfl rfl rfl rfl underlying26)) ?_
  refine et some_bind ?_
  exact bind_end rfl
theorem f11r8 (k : Nat) (a2 : (List (List T_api_Term))) (o4 : T_api_Field) (x9 : Str) (x10 : Str) (x11 : Int) : RE k f11a8 f11o8 false ⟨[(2, (V.sl 0 1 (List.map sTerm a2))), (6, (Sr x9)), (7, (Sr x10)), (11, (Pt 11)), (38, (V.sl 0 1 (List.map sTerm a2))), (39, (I (a2.length : Int))), (40, (I x11))], [(11, vS 3 (eField o4))], 78⟩ = some ⟨[(2, (V.sl 0 1 (List.map sTerm a2))), (6, (Sr x9)), (7, (Sr x10)), (11, (Pt 11)), (38, (V.sl 0 1 (List.map sTerm a2))), (39, (I (a2.length : Int))), (40, (I x11)), (41, (Bo (decide (x11 < (a2.length : Int)))))], [(11, vS 3 (eField o4))], 78⟩ :=
  rE rfl
theorem f11r9 (k : Nat) (a2 : (List (List T_api_Term))) (o4 : T_api_Field) (x9 : Str) (x10 : Str) (x11 : Int) : RE k f11a9 f11o9 false ⟨[(2, (V.sl 0 1 (List.map sTerm a2))), (6, (Sr x9)), (7, (Sr x10)), (11, (Pt 11)), (38, (V.sl 0 1 (List.map sTerm a2))), (39, (I (a2.length : Int))), (40, (I x11)), (41, (Bo true))], [(11, vS 3 (eField o4))], 78⟩ = (((idx a2 x11).bind fun v12 => (some (x11, v12)))).map (fun (o : Int × (List T_api_Term)) => (⟨[(2, (V.sl 0 1 (List.map sTerm a2))), (6, (Sr x9)), (7, (Sr x10)), (11, (Pt 11)), (12, (I o.1)), (13, (sTerm o.2)), (38, (V.sl 0 1 (List.map sTerm a2))), (39, (I (a2.length : Int))), (40, (I x11))], [(11, vS 3 (eField o4))], 78⟩ : St)) := by
  refine rg ?_
  refine ra 1 1 ⟨[(2, (V.sl 0 1 (List.map sTerm a2))), (6, (Sr x9)), (7, (Sr x10)), (11, (Pt 11)), (38, (V.sl 0 1 (List.map sTerm a2))), (39, (I (a2.length : Int))), (40, (I x11)), (41, (Bo true)), (42, (I x11))], [(11, vS 3 (eField o4))], 78⟩ rfl rfl rfl ?_
  refine et (reg_pure (x := (idx a2 x11)) (w := fun v12 => (Pr (sTerm v12))) rfl rfl rfl rfl (p_index (e := sTerm) rfl rfl rfl underlying26 rfl (by decide))) ?_
  refine bindE (fun v12 => ?_)
  exact bind_end rfl
theorem f11r10 (k : Nat) (a2 : (List (List T_api_Term))) (o4 : T_api_Field) (x9 : Str) (x10 : Str) (x11 : Int) (o13 : Int × (List T_api_Term)) : RE k f11a10 f11o10 false ⟨[(2, (V.sl 0 1 (List.map sTerm a2))), (6, (Sr x9)), (7, (Sr x10)), (11, (Pt 11)), (12, (I o13.1)), (13, (sTerm o13.2)), (38, (V.sl 0 1 (List.map sTerm a2))), (39, (I (a2.length : Int))), (40, (I x11))], [(11, vS 3 (eField o4))], 78⟩ = (((match_span k o4.fName o4.fBytes o13.2).bind fun v14 => (some (v14.1, v14.2)))).map (fun (o : Str × Str) => (⟨[(2, (V.sl 0 1 (List.map sTerm a2))), (6, (Sr x9)), (7, (Sr x10)), (11, (Pt 11)), (12, (I o13.1)), (14, (Sr o.1)), (15, (Sr o.2)), (38, (V.sl 0 1 (List.map sTerm a2))), (39, (I (a2.length : Int))), (40, (I x11))], [(11, vS 3 (eField o4))], 78⟩ : St)) := by
  refine rg ?_
  refine ra 5 5 ⟨[(2, (V.sl 0 1 (List.map sTerm a2))), (6, (Sr x9)), (7, (Sr x10)), (11, (Pt 11)), (12, (I o13.1)), (13, (sTerm o13.2)), (38, (V.sl 0 1 (List.map sTerm a2))), (39, (I (a2.length : Int))), (40, (I x11)), (46, (Pt 11)), (47, (Sr o4.fName)), (48, (V.ptr 11 0 2)), (49, (I o4.fBytes)), (50, (sTerm o13.2))], [(11, vS 3 (eField o4))], 78⟩ rfl rfl rfl ?_
  refine et (reg_pure (x := (match_span k o4.fName o4.fBytes o13.2)) (w := fun v14 => (V.tup [(Sr v14.1), (Sr v14.2)])) rfl rfl rfl rfl (p_call rfl rfl rfl rfl rfl (match_span_ok k o4.fName o4.fBytes o13.2) (.inl rfl))) ?_
  refine bindE (fun v14 => ?_)
  exact bind_end rfl
theorem f11r11 (k : Nat) (a2 : (List (List T_api_Term))) (o4 : T_api_Field) (x9 : Str) (x10 : Str) (x11 : Int) (o13 : Int × (List T_api_Term)) (o15 : Str × Str) : RE k f11a11 f11o11 false ⟨[(2, (V.sl 0 1 (List.map sTerm a2))), (6, (Sr x9)), (7, (Sr x10)), (11, (Pt 11)), (12, (I o13.1)), (14, (Sr o15.1)), (15, (Sr o15.2)), (38, (V.sl 0 1 (List.map sTerm a2))), (39, (I (a2.length : Int))), (40, (I x11))], [(11, vS 3 (eField o4))], 78⟩ = some ⟨[(2, (V.sl 0 1 (List.map sTerm a2))), (6, (Sr x9)), (7, (Sr x10)), (11, (Pt 11)), (14, (Sr o15.1)), (15, (Sr o15.2)), (38, (V.sl 0 1 (List.map sTerm a2))), (39, (I (a2.length : Int))), (40, (I x11)), (55, (Bo (o13.1 == 0)))], [(11, vS 3 (eField o4))], 78⟩ :=
  rE rfl
theorem f11r12 (k : Nat) (a2 : (List (List T_api_Term))) (o4 : T_api_Field) (x9 : Str) (x10 : Str) (x11 : Int) (o15 : Str × Str) : RE k f11a12 f11o12 false ⟨[(2, (V.sl 0 1 (List.map sTerm a2))), (6, (Sr x9)), (7, (Sr x10)), (11, (Pt 11)), (14, (Sr o15.1)), (15, (Sr o15.2)), (38, (V.sl 0 1 (List.map sTerm a2))), (39, (I (a2.length : Int))), (40, (I x11)), (55, (Bo true))], [(11, vS 3 (eField o4))], 78⟩ = some ⟨[(2, (V.sl 0 1 (List.map sTerm a2))), (6, (Sr o15.1)), (7, (Sr o15.2)), (11, (Pt 11)), (14, (Sr o15.1)), (15, (Sr o15.2)), (38, (V.sl 0 1 (List.map sTerm a2))), (39, (I (a2.length : Int))), (40, (I x11))], [(11, vS 3 (eField o4))], 78⟩ :=
  rE rfl
theorem f11r13 (k : Nat) (a2 : (List (List T_api_Term))) (o4 : T_api_Field) (x11 : Int) (o15 : Str × Str) : RE k f11a13 f11o13 false ⟨[(2, (V.sl 0 1 (List.map sTerm a2))), (6, (Sr o15.1)), (7, (Sr o15.2)), (11, (Pt 11)), (14, (Sr o15.1)), (15, (Sr o15.2)), (38, (V.sl 0 1 (List.map sTerm a2))), (39, (I (a2.length : Int))), (40, (I x11))], [(11, vS 3 (eField o4))], 78⟩ = some ⟨[(2, (V.sl 0 1 (List.map sTerm a2))), (6, (Sr (Go.AE.minS o15.1 o15.1))), (7, (Sr (Go.AE.maxS o15.2 o15.2))), (11, (Pt 11)), (38, (V.sl 0 1 (List.map sTerm a2))), (39, (I (a2.length : Int))), (40, (I x11))], [(11, vS 3 (eField o4))], 78⟩ :=
  rE rfl
theorem f11r14 (k : Nat) (a2 : (List (List T_api_Term))) (o4 : T_api_Field) (x11 : Int) (o15 : Str × Str) : RE k f11a14 f11o14 false ⟨[(2, (V.sl 0 1 (List.map sTerm a2))), (6, (Sr (Go.AE.minS o15.1 o15.1))), (7, (Sr (Go.AE.maxS o15.2 o15.2))), (11, (Pt 11)), (38, (V.sl 0 1 (List.map sTerm a2))), (39, (I (a2.length : Int))), (40, (I x11))], [(11, vS 3 (eField o4))], 78⟩ = some ⟨[(2, (V.sl 0 1 (List.map sTerm a2))), (6, (Sr (Go.AE.minS o15.1 o15.1))), (7, (Sr (Go.AE.maxS o15.2 o15.2))), (11, (Pt 11)), (38, (V.sl 0 1 (List.map sTerm a2))), (39, (I (a2.length : Int))), (40, (I (Go.IntKind.wrap .i64 (x11 + 1))))], [(11, vS 3 (eField o4))], 78⟩ :=
  rE rfl
theorem match_Range_r13' (k : Nat) (a2 : (List (List T_api_Term))) (o4 : T_api_Field) (x9 : Str) (x10 : Str) (x11 : Int) (o15 : Str × Str) : RE k f11a13 f11o13 false ⟨[(2, (V.sl 0 1 (List.map sTerm a2))), (6, (Sr x9)), (7, (Sr x10)), (11, (Pt 11)), (14, (Sr o15.1)), (15, (Sr o15.2)), (38, (V.sl 0 1 (List.map sTerm a2))), (39, (I (a2.length : Int))), (40, (I x11)), (55, (Bo false))], [(11, vS 3 (eField o4))], 78⟩ = some ⟨[(2, (V.sl 0 1 (List.map sTerm a2))), (6, (Sr (Go.AE.minS x9 o15.1))), (7, (Sr (Go.AE.maxS x10 o15.2))), (11, (Pt 11)), (38, (V.sl 0 1 (List.map sTerm a2))), (39, (I (a2.length : Int))), (40, (I x11))], [(11, vS 3 (eField o4))], 78⟩ :=
  rE rfl
theorem match_Range_r14' (k : Nat) (a2 : (List (List T_api_Term))) (o4 : T_api_Field) (x9 : Str) (x10 : Str) (x11 : Int) (o15 : Str × Str) : RE k f11a14 f11o14 false ⟨[(2, (V.sl 0 1 (List.map sTerm a2))), (6, (Sr (Go.AE.minS x9 o15.1))), (7, (Sr (Go.AE.maxS x10 o15.2))), (11, (Pt 11)), (38, (V.sl 0 1 (List.map sTerm a2))), (39, (I (a2.length : Int))), (40, (I x11))], [(11, vS 3 (eField o4))], 78⟩ = some ⟨[(2, (V.sl 0 1 (List.map sTerm a2))), (6, (Sr (Go.AE.minS x9 o15.1))), (7, (Sr (Go.AE.maxS x10 o15.2))), (11, (Pt 11)), (38, (V.sl 0 1 (List.map sTerm a2))), (39, (I (a2.length : Int))), (40, (I (Go.IntKind.wrap .i64 (x11 + 1))))], [(11, vS 3 (eField o4))], 78⟩ :=
  rE rfl
theorem match_Range_L1_ok (k : Nat) (a0 : T_api_Base) (a1 : Int) (a2 : (List (List T_api_Term))) (o4 : T_api_Field)  (K0 : Str → Str → Int → Option (Str × Str × Int)) (Kst : X × St → Option (V × List V)) (hK0 : ∀ (y0 : Str) (y1 : Str) (y2 : Int), Kst (X.exit 1, ⟨[(2, (V.sl 0 1 (List.map sTerm a2))), (6, (Sr y0)), (7, (Sr y1)), (11, (Pt 11)), (38, (V.sl 0 1 (List.map sTerm a2))), (39, (I (a2.length : Int))), (40, (I y2)), (41, (Bo false))], [(11, vS 3 (eField o4))], 78⟩) = (K0 y0 y1 y2).map match_Range_fin) (hret : ∀ s, Kst (X.ret, s) = endK prog 78 [(eBase a0), (I a1), (V.sl 0 1 (List.map sTerm a2))] [] [.tmp 6, .tmp 7, .tmp 8] (X.ret, s)) :
    ∀ (m : Nat) (x9 : Str) (x10 : Str) (x11 : Int), (iter (exec prog (EV k) f11n k f11b0) m ⟨[(2, (V.sl 0 1 (List.map sTerm a2))), (6, (Sr x9)), (7, (Sr x10)), (11, (Pt 11)), (38, (V.sl 0 1 (List.map sTerm a2))), (39, (I (a2.length : Int))), (40, (I x11))], [(11, vS 3 (eField o4))], 78⟩).bind Kst = (match_Range_L1 k a2 o4 K0 m x9 x10 x11).map match_Range_fin := by
  intro m
  induction m with
  | zero => intros; rfl
  | succ m ih =>
    intro x9 x10 x11
    unfold match_Range_L1
    refine et k_round ?_
    refine et (k_region0 rfl (f11r8 k a2 o4 x9 x10 x11)) ?_
    refine et (k_cond (t := (decide (x11 < (a2.length : Int)))) rfl rfl) ?_
    refine bifE2 (fun hc => ?_) fun hc => ?_
    · rw [hc]
      refine et k_skip ?_
      refine et (k_block rfl) ?_
      refine et (k_region rfl (f11r9 k a2 o4 x9 x10 x11)) ?_
      refine bindE (fun o13 => ?_)
      refine et (k_region rfl (f11r10 k a2 o4 x9 x10 x11 o13)) ?_
      refine bindE (fun o15 => ?_)
      refine et k_assoc ?_
      refine et (k_region0 rfl (f11r11 k a2 o4 x9 x10 x11 o13 o15)) ?_
      refine et (k_cond (t := (o13.1 == 0)) rfl rfl) ?_
      refine bifE2 (fun hc => ?_) fun hc => ?_
      · rw [hc]
        refine et (k_region0 rfl (f11r12 k a2 o4 x9 x10 x11 o15)) ?_
        refine et (k_lregion0 rfl (f11r13 k a2 o4 x11 o15)) ?_
        refine et blk_normal ?_
        refine et (k_lregion0 rfl (f11r14 k a2 o4 x11 o15)) ?_
        refine et loop_normal ?_
        exact ih (Go.AE.minS o15.1 o15.1) (Go.AE.maxS o15.2 o15.2) (Go.IntKind.wrap .i64 (x11 + 1))
      · rw [hc]
        refine et k_skip ?_
        refine et (k_lregion0 rfl (match_Range_r13' k a2 o4 x9 x10 x11 o15)) ?_
        refine et blk_normal ?_
        refine et (k_lregion0 rfl (match_Range_r14' k a2 o4 x9 x10 x11 o15)) ?_
        refine et loop_normal ?_
        exact ih (Go.AE.minS x9 o15.1) (Go.AE.maxS x10 o15.2) (Go.IntKind.wrap .i64 (x11 + 1))
    · rw [hc]
      refine et k_exit ?_
      refine et loop_exit ?_
      exact hK0 x9 x10 x11
theorem f11r15 (k : Nat) (a2 : (List (List T_api_Term))) (o4 : T_api_Field) (y16 : Str) (y17 : Str) (y18 : Int) : RE k f11a15 f11o15 false ⟨[(2, (V.sl 0 1 (List.map sTerm a2))), (6, (Sr y16)), (7, (Sr y17)), (11, (Pt 11)), (38, (V.sl 0 1 (List.map sTerm a2))), (39, (I (a2.length : Int))), (40, (I y18)), (41, (Bo false))], [(11, vS 3 (eField o4))], 78⟩ = some ⟨[(6, (Sr y16)), (7, (Sr y17)), (11, (Pt 11)), (67, (Bo ((a2.length : Int) == 0)))], [(11, vS 3 (eField o4))], 78⟩ := by
  refine rg ?_
  refine ra 1 1 ⟨[(2, (V.sl 0 1 (List.map sTerm a2))), (6, (Sr y16)), (7, (Sr y17)), (11, (Pt 11)), (38, (V.sl 0 1 (List.map sTerm a2))), (39, (I (a2.length : Int))), (40, (I y18)), (41, (Bo false)), (65, (V.sl 0 1 (List.map sTerm a2)))], [(11, vS 3 (eField o4))], 78⟩ rfl rfl rfl ?_
  refine et (reg_pure (x := some ()) (w := fun _ => (I (a2.length : Int))) rfl rfl rfl rfl (p_len (e := sTerm) rfl rfl rfl rfl rfl rfl underlying26)) ?_
  refine et some_bind ?_
  exact bind_end rfl
theorem f11r16 (k : Nat) (o4 : T_api_Field) (y16 : Str) (y17 : Str) : RE k f11a16 f11o16 false ⟨[(6, (Sr y16)), (7, (Sr y17)), (11, (Pt 11)), (67, (Bo true))], [(11, vS 3 (eField o4))], 78⟩ = (((match_span k o4.fName o4.fBytes ([] : List T_api_Term)).bind fun v19 => (some (v19.1, v19.2)))).map (fun (o : Str × Str) => (⟨[(6, (Sr o.1)), (7, (Sr o.2))], [], 78⟩ : St)) := by
  refine rg ?_
  refine ra 4 4 ⟨[(6, (Sr y16)), (7, (Sr y17)), (11, (Pt 11)), (67, (Bo true)), (69, (Pt 11)), (70, (Sr o4.fName)), (71, (V.ptr 11 0 2)), (72, (I o4.fBytes))], [(11, vS 3 (eField o4))], 78⟩ rfl rfl rfl ?_
  refine et (reg_pure (x := (match_span k o4.fName o4.fBytes ([] : List T_api_Term))) (w := fun v19 => (V.tup [(Sr v19.1), (Sr v19.2)])) rfl rfl rfl rfl (p_call rfl rfl rfl rfl rfl (match_span_ok k o4.fName o4.fBytes ([] : List T_api_Term)) (.inl rfl))) ?_
  refine bindE (fun v19 => ?_)
  exact bind_end rfl
theorem f11r17 (k : Nat) (o20 : Str × Str) : RE k f11a17 f11o17 false ⟨[(6, (Sr o20.1)), (7, (Sr o20.2))], [], 78⟩ = some ⟨[(6, (Sr o20.1)), (7, (Sr o20.2)), (8, (I 0))], [], 78⟩ :=
  rE rfl
theorem match_Range_r17' (k : Nat) (o4 : T_api_Field) (y16 : Str) (y17 : Str) : RE k f11a17 f11o17 false ⟨[(6, (Sr y16)), (7, (Sr y17)), (11, (Pt 11)), (67, (Bo false))], [(11, vS 3 (eField o4))], 78⟩ = some ⟨[(6, (Sr y16)), (7, (Sr y17)), (8, (I 0))], [], 78⟩ :=
  rE rfl
theorem match_Range_ok (k : Nat) (a0 : T_api_Base) (a1 : Int) (a2 : (List (List T_api_Term))) : EV k 11 [(eBase a0), (I a1), (V.sl 0 1 (List.map sTerm a2))] = (match_Range k a0 a1 a2).map match_Range_fin := by
  cases k with
  | zero => rfl
  | succ k =>
    unfold match_Range
    refine et (evF_succ (c := f11c) (N := 78) (regs := f11n) rfl func11 rfl (by decide) rfl rfl rfl) ?_
    refine et (k_region0 rfl (f11r0 k a0 a1 a2)) ?_
    refine et (k_region rfl (f11r1 k a0 a1 a2)) ?_
    refine bindE (fun o2 => ?_)
    refine et (k_block rfl) ?_
    refine et (k_region0 rfl (f11r2 k a2 o2)) ?_
    refine et (k_lcond (t := (o2.1 != 0)) rfl rfl) ?_
    refine bifE2 (fun hc => ?_) fun hc => ?_
    · rw [hc]
      refine et (k_region0 rfl (f11r3 k a2 o2)) ?_
      refine et k_lret ?_
      refine et blk_ret ?_
      rfl
    · rw [hc]
      refine et (k_region0 rfl (f11r4 k a2 o2)) ?_
      refine et (k_lcond (t := (decide (o2.2.fKey < 0))) rfl rfl) ?_
      refine bifE2 (fun hc => ?_) fun hc => ?_
      · rw [hc]
        refine et (k_region0 rfl (f11r5 k a2 o2)) ?_
        refine et k_lret ?_
        refine et blk_ret ?_
        rfl
      · rw [hc]
        refine et k_lskip ?_
        refine et blk_normal ?_
        refine et (k_region rfl (f11r6 k a2 o2)) ?_
        refine bindE (fun o4 => ?_)
        refine et k_assoc ?_
        refine et (k_region0 rfl (f11r7 k a2 o4)) ?_
        refine et (k_block rfl) ?_
        refine et k_loop ?_
        refine match_Range_L1_ok k a0 a1 a2 o4 _ _ ?h_match_Range_L1_0 ?hr_match_Range_L1 k ([] : Str) ([] : Str) 0
        · intro y16 y17 y18
          refine et blk_exit ?_
          refine et k_assoc ?_
          refine et (k_region0 rfl (f11r15 k a2 o4 y16 y17 y18)) ?_
          refine et (k_cond (t := ((a2.length : Int) == 0)) rfl rfl) ?_
          refine bifE2 (fun hc => ?_) fun hc => ?_
          · rw [hc]
            refine et (k_region rfl (f11r16 k o4 y16 y17)) ?_
            refine bindE (fun o20 => ?_)
            refine et (k_region0 rfl (f11r17 k o20)) ?_
            refine et k_lret ?_
            rfl
          · rw [hc]
            refine et k_skip ?_
            refine et (k_region0 rfl (match_Range_r17' k o4 y16 y17)) ?_
            refine et k_lret ?_
            rfl
        · intro s; exact rfl
def law12_Awake_fin : Bool → V × List V := fun r => ((Bo r), [])
theorem f10r0 (k : Nat)  : RE k f10a0 f10o0 false ⟨[], [], 42⟩ = some ⟨[], [], 42⟩ :=
  rE rfl
theorem f10r1 (k : Nat)  : RE k f10a1 f10o1 false ⟨[], [], 42⟩ = some ⟨[(1, (V.sl 0 1 (List.map sTerm ([([({ fField := ([67, 85, 83, 84, 78, 79] : Str), fOp := 6, fValue := ([48, 49, 48, 48] : Str) } : T_api_Term), ({ fField := ([67, 85, 83, 84, 78, 79] : Str), fOp := 4, fValue := ([48, 49, 57, 57] : Str) } : T_api_Term)] : List T_api_Term)] : List (List T_api_Term)))))], [], 42⟩ :=
  rE rfl
theorem f10r2 (k : Nat)  : RE k f10a2 f10o2 false ⟨[(1, (V.sl 0 1 (List.map sTerm ([([({ fField := ([67, 85, 83, 84, 78, 79] : Str), fOp := 6, fValue := ([48, 49, 48, 48] : Str) } : T_api_Term), ({ fField := ([67, 85, 83, 84, 78, 79] : Str), fOp := 4, fValue := ([48, 49, 57, 57] : Str) } : T_api_Term)] : List T_api_Term)] : List (List T_api_Term)))))], [], 42⟩ = (((law12_shop k).bind fun v1 => ((match_Format k v1 0 ([([({ fField := ([67, 85, 83, 84, 78, 79] : Str), fOp := 6, fValue := ([48, 49, 48, 48] : Str) } : T_api_Term), ({ fField := ([67, 85, 83, 84, 78, 79] : Str), fOp := 4, fValue := ([48, 49, 57, 57] : Str) } : T_api_Term)] : List T_api_Term)] : List (List T_api_Term))).bind fun v2 => (some (v2.1, v2.2))))).map (fun (o : Str × Int) => (⟨[(1, (V.sl 0 1 (List.map sTerm ([([({ fField := ([67, 85, 83, 84, 78, 79] : Str), fOp := 6, fValue := ([48, 49, 48, 48] : Str) } : T_api_Term), ({ fField := ([67, 85, 83, 84, 78, 79] : Str), fOp := 4, fValue := ([48, 49, 57, 57] : Str) } : T_api_Term)] : List T_api_Term)] : List (List T_api_Term))))), (2, (Sr o.1)), (3, (I o.2))], [], 42⟩ : St)) := by
  refine rg ?_
  refine et (reg_pure (x := (law12_shop k)) (w := fun v1 => (eBase v1)) rfl rfl rfl rfl (p_call rfl rfl rfl rfl rfl (law12_shop_ok k) (.inl rfl))) ?_
  refine bindE (fun v1 => ?_)
  refine ba 1 2 ⟨[(1, (V.sl 0 1 (List.map sTerm ([([({ fField := ([67, 85, 83, 84, 78, 79] : Str), fOp := 6, fValue := ([48, 49, 48, 48] : Str) } : T_api_Term), ({ fField := ([67, 85, 83, 84, 78, 79] : Str), fOp := 4, fValue := ([48, 49, 57, 57] : Str) } : T_api_Term)] : List T_api_Term)] : List (List T_api_Term))))), (12, (eBase v1)), (13, (V.sl 0 1 (List.map sTerm ([([({ fField := ([67, 85, 83, 84, 78, 79] : Str), fOp := 6, fValue := ([48, 49, 48, 48] : Str) } : T_api_Term), ({ fField := ([67, 85, 83, 84, 78, 79] : Str), fOp := 4, fValue := ([48, 49, 57, 57] : Str) } : T_api_Term)] : List T_api_Term)] : List (List T_api_Term)))))], [], 42⟩ rfl rfl rfl ?_
  refine et (reg_pure (x := (match_Format k v1 0 ([([({ fField := ([67, 85, 83, 84, 78, 79] : Str), fOp := 6, fValue := ([48, 49, 48, 48] : Str) } : T_api_Term), ({ fField := ([67, 85, 83, 84, 78, 79] : Str), fOp := 4, fValue := ([48, 49, 57, 57] : Str) } : T_api_Term)] : List T_api_Term)] : List (List T_api_Term)))) (w := fun v2 => (V.tup [(Sr v2.1), (I v2.2)])) rfl rfl rfl rfl (p_call rfl rfl rfl rfl rfl (match_Format_ok k v1 0 ([([({ fField := ([67, 85, 83, 84, 78, 79] : Str), fOp := 6, fValue := ([48, 49, 48, 48] : Str) } : T_api_Term), ({ fField := ([67, 85, 83, 84, 78, 79] : Str), fOp := 4, fValue := ([48, 49, 57, 57] : Str) } : T_api_Term)] : List T_api_Term)] : List (List T_api_Term))) (.inl rfl))) ?_
  refine bindE (fun v2 => ?_)
  exact bind_end rfl
theorem f10r3 (k : Nat) (o3 : Str × Int) : RE k f10a3 f10o3 false ⟨[(1, (V.sl 0 1 (List.map sTerm ([([({ fField := ([67, 85, 83, 84, 78, 79] : Str), fOp := 6, fValue := ([48, 49, 48, 48] : Str) } : T_api_Term), ({ fField := ([67, 85, 83, 84, 78, 79] : Str), fOp := 4, fValue := ([48, 49, 57, 57] : Str) } : T_api_Term)] : List T_api_Term)] : List (List T_api_Term))))), (2, (Sr o3.1)), (3, (I o3.2))], [], 42⟩ = (((law12_shop k).bind fun v4 => ((match_Range k v4 0 ([([({ fField := ([67, 85, 83, 84, 78, 79] : Str), fOp := 6, fValue := ([48, 49, 48, 48] : Str) } : T_api_Term), ({ fField := ([67, 85, 83, 84, 78, 79] : Str), fOp := 4, fValue := ([48, 49, 57, 57] : Str) } : T_api_Term)] : List T_api_Term)] : List (List T_api_Term))).bind fun v5 => (some (v5.1, v5.2.1, v5.2.2))))).map (fun (o : Str × Str × Int) => (⟨[(2, (Sr o3.1)), (3, (I o3.2)), (4, (Sr o.1)), (5, (Sr o.2.1)), (6, (I o.2.2))], [], 42⟩ : St)) := by
  refine rg ?_
  refine et (reg_pure (x := (law12_shop k)) (w := fun v4 => (eBase v4)) rfl rfl rfl rfl (p_call rfl rfl rfl rfl rfl (law12_shop_ok k) (.inl rfl))) ?_
  refine bindE (fun v4 => ?_)
  refine ba 1 2 ⟨[(1, (V.sl 0 1 (List.map sTerm ([([({ fField := ([67, 85, 83, 84, 78, 79] : Str), fOp := 6, fValue := ([48, 49, 48, 48] : Str) } : T_api_Term), ({ fField := ([67, 85, 83, 84, 78, 79] : Str), fOp := 4, fValue := ([48, 49, 57, 57] : Str) } : T_api_Term)] : List T_api_Term)] : List (List T_api_Term))))), (2, (Sr o3.1)), (3, (I o3.2)), (18, (eBase v4)), (19, (V.sl 0 1 (List.map sTerm ([([({ fField := ([67, 85, 83, 84, 78, 79] : Str), fOp := 6, fValue := ([48, 49, 48, 48] : Str) } : T_api_Term), ({ fField := ([67, 85, 83, 84, 78, 79] : Str), fOp := 4, fValue := ([48, 49, 57, 57] : Str) } : T_api_Term)] : List T_api_Term)] : List (List T_api_Term)))))], [], 42⟩ rfl rfl rfl ?_
  refine et (reg_pure (x := (match_Range k v4 0 ([([({ fField := ([67, 85, 83, 84, 78, 79] : Str), fOp := 6, fValue := ([48, 49, 48, 48] : Str) } : T_api_Term), ({ fField := ([67, 85, 83, 84, 78, 79] : Str), fOp := 4, fValue := ([48, 49, 57, 57] : Str) } : T_api_Term)] : List T_api_Term)] : List (List T_api_Term)))) (w := fun v5 => (V.tup [(Sr v5.1), (Sr v5.2.1), (I v5.2.2)])) rfl rfl rfl rfl (p_call rfl rfl rfl rfl rfl (match_Range_ok k v4 0 ([([({ fField := ([67, 85, 83, 84, 78, 79] : Str), fOp := 6, fValue := ([48, 49, 48, 48] : Str) } : T_api_Term), ({ fField := ([67, 85, 83, 84, 78, 79] : Str), fOp := 4, fValue := ([48, 49, 57, 57] : Str) } : T_api_Term)] : List T_api_Term)] : List (List T_api_Term))) (.inl rfl))) ?_
  refine bindE (fun v5 => ?_)
  exact bind_end rfl
theorem f10r4 (k : Nat) (o3 : Str × Int) (o6 : Str × Str × Int) : RE k f10a4 f10o4 false ⟨[(2, (Sr o3.1)), (3, (I o3.2)), (4, (Sr o6.1)), (5, (Sr o6.2.1)), (6, (I o6.2.2))], [], 42⟩ = ((bif (o3.2 == 0) then (bif (o6.2.2 == 0) then (bif (o3.1 == ([67, 85, 83, 84, 78, 79, 32, 32, 62, 61, 48, 49, 48, 48, 38, 67, 85, 83, 84, 78, 79, 32, 32, 60, 61, 48, 49, 57, 57] : Str)) then (bif (o6.1 == ([48, 49, 48, 48] : Str)) then (some ((o6.2.1 == ([48, 49, 57, 57] : Str)))) else (some (false))) else (some (false))) else (some (false))) else (some (false)))).map (fun (o : Bool) => (⟨[(0, (Bo o))], [], 42⟩ : St)) := by
  refine rg ?_
  refine ra 3 3 ⟨[(2, (Sr o3.1)), (3, (I o3.2)), (4, (Sr o6.1)), (5, (Sr o6.2.1)), (6, (I o6.2.2)), (24, (I o3.2)), (25, (Bo (o3.2 == 0))), (26, (Bo (o3.2 == 0)))], [], 42⟩ rfl rfl rfl ?_
  refine bifE (c := (o3.2 == 0)) (fun hc => ?_) fun hc => ?_
  · rw [hc]
    refine ra 4 7 ⟨[(2, (Sr o3.1)), (3, (I o3.2)), (4, (Sr o6.1)), (5, (Sr o6.2.1)), (6, (I o6.2.2)), (24, (I o3.2)), (25, (Bo true)), (26, (Bo true)), (27, (I o6.2.2)), (28, (Bo (o6.2.2 == 0))), (29, (Bo (o6.2.2 == 0))), (30, (Bo (o6.2.2 == 0)))], [], 42⟩ rfl rfl rfl ?_
    refine bifE (c := (o6.2.2 == 0)) (fun hc => ?_) fun hc => ?_
    · rw [hc]
      refine ra 4 11 ⟨[(2, (Sr o3.1)), (3, (I o3.2)), (4, (Sr o6.1)), (5, (Sr o6.2.1)), (6, (I o6.2.2)), (24, (I o3.2)), (25, (Bo true)), (26, (Bo true)), (27, (I o6.2.2)), (28, (Bo true)), (29, (Bo true)), (30, (Bo true)), (31, (Sr o3.1)), (32, (Bo (o3.1 == ([67, 85, 83, 84, 78, 79, 32, 32, 62, 61, 48, 49, 48, 48, 38, 67, 85, 83, 84, 78, 79, 32, 32, 60, 61, 48, 49, 57, 57] : Str)))), (33, (Bo (o3.1 == ([67, 85, 83, 84, 78, 79, 32, 32, 62, 61, 48, 49, 48, 48, 38, 67, 85, 83, 84, 78, 79, 32, 32, 60, 61, 48, 49, 57, 57] : Str)))), (34, (Bo (o3.1 == ([67, 85, 83, 84, 78, 79, 32, 32, 62, 61, 48, 49, 48, 48, 38, 67, 85, 83, 84, 78, 79, 32, 32, 60, 61, 48, 49, 57, 57] : Str))))], [], 42⟩ rfl rfl rfl ?_
      refine bifE (c := (o3.1 == ([67, 85, 83, 84, 78, 79, 32, 32, 62, 61, 48, 49, 48, 48, 38, 67, 85, 83, 84, 78, 79, 32, 32, 60, 61, 48, 49, 57, 57] : Str))) (fun hc => ?_) fun hc => ?_
      · rw [hc]
        refine ra 4 15 ⟨[(2, (Sr o3.1)), (3, (I o3.2)), (4, (Sr o6.1)), (5, (Sr o6.2.1)), (6, (I o6.2.2)), (24, (I o3.2)), (25, (Bo true)), (26, (Bo true)), (27, (I o6.2.2)), (28, (Bo true)), (29, (Bo true)), (30, (Bo true)), (31, (Sr o3.1)), (32, (Bo true)), (33, (Bo true)), (34, (Bo true)), (35, (Sr o6.1)), (36, (Bo (o6.1 == ([48, 49, 48, 48] : Str)))), (37, (Bo (o6.1 == ([48, 49, 48, 48] : Str)))), (38, (Bo (o6.1 == ([48, 49, 48, 48] : Str))))], [], 42⟩ rfl rfl rfl ?_
        refine bifE (c := (o6.1 == ([48, 49, 48, 48] : Str))) (fun hc => ?_) fun hc => ?_
        · rw [hc]
          exact reg_end rfl
        · rw [hc]
          exact reg_end rfl
      · rw [hc]
        exact reg_end rfl
    · rw [hc]
      exact reg_end rfl
  · rw [hc]
    exact reg_end rfl
theorem law12_Awake_ok (k : Nat)  : EV k 10 [] = (law12_Awake k).map law12_Awake_fin := by
  cases k with
  | zero => rfl
  | succ k =>
    unfold law12_Awake
    refine et (evF_succ (c := f10c) (N := 42) (regs := f10n) rfl func10 rfl (by decide) rfl rfl rfl) ?_
    refine et (k_region0 rfl (f10r0 k)) ?_
    refine et (k_region0 rfl (f10r1 k)) ?_
    refine et (k_region rfl (f10r2 k)) ?_
    refine bindE (fun o3 => ?_)
    refine et (k_region rfl (f10r3 k o3)) ?_
    refine bindE (fun o6 => ?_)
    refine et (k_region rfl (f10r4 k o3 o6)) ?_
    refine bindE (fun o7 => ?_)
    refine et k_lret ?_
    rfl
def match_Valid_fin : (Bool × Int) → V × List V := fun r => (.tup [(Bo r.1), (I r.2)], [])
theorem f15r0 (k : Nat) (a0 : T_api_Base) (a1 : Int) (a2 : (List (List T_api_Term))) : RE k f15a0 f15o0 false ⟨[(0, (eBase a0)), (1, (I a1)), (2, (V.sl 0 1 (List.map sTerm a2)))], [], 22⟩ = some ⟨[(1, (I a1)), (2, (V.sl 0 1 (List.map sTerm a2))), (3, (Pt 3))], [(3, vS 4 (eBase a0))], 22⟩ :=
  rE rfl
theorem f15r1 (k : Nat) (a0 : T_api_Base) (a1 : Int) (a2 : (List (List T_api_Term))) : RE k f15a1 f15o1 false ⟨[(1, (I a1)), (2, (V.sl 0 1 (List.map sTerm a2))), (3, (Pt 3))], [(3, vS 4 (eBase a0))], 22⟩ = ((match_asked k a0 a1)).map (fun (o : Int) => (⟨[(1, (I a1)), (2, (V.sl 0 1 (List.map sTerm a2))), (3, (Pt 3)), (8, (I o))], [(3, vS 4 (eBase a0))], 22⟩ : St)) := by
  refine rg ?_
  refine ra 2 2 ⟨[(1, (I a1)), (2, (V.sl 0 1 (List.map sTerm a2))), (3, (Pt 3)), (9, (eBase a0)), (10, (I a1))], [(3, vS 4 (eBase a0))], 22⟩ rfl rfl rfl ?_
  refine et (reg_pure (x := (match_asked k a0 a1)) (w := fun v1 => (I v1)) rfl rfl rfl rfl (p_call rfl rfl rfl rfl rfl (match_asked_ok k a0 a1) (.inl rfl))) ?_
  refine bind_self (fun v1 => ?_)
  exact bind_end rfl
theorem f15r2 (k : Nat) (a0 : T_api_Base) (a1 : Int) (a2 : (List (List T_api_Term))) (o2 : Int) : RE k f15a2 f15o2 false ⟨[(1, (I a1)), (2, (V.sl 0 1 (List.map sTerm a2))), (3, (Pt 3)), (8, (I o2))], [(3, vS 4 (eBase a0))], 22⟩ = some ⟨[(1, (I a1)), (2, (V.sl 0 1 (List.map sTerm a2))), (3, (Pt 3)), (8, (I o2)), (13, (Bo (o2 != 0)))], [(3, vS 4 (eBase a0))], 22⟩ :=
  rE rfl
theorem f15r3 (k : Nat) (a0 : T_api_Base) (a1 : Int) (a2 : (List (List T_api_Term))) (o2 : Int) : RE k f15a3 f15o3 false ⟨[(1, (I a1)), (2, (V.sl 0 1 (List.map sTerm a2))), (3, (Pt 3)), (8, (I o2)), (13, (Bo true))], [(3, vS 4 (eBase a0))], 22⟩ = some ⟨[(6, (Bo false)), (7, (I o2))], [], 22⟩ :=
  rE rfl
theorem f15r4 (k : Nat) (a0 : T_api_Base) (a1 : Int) (a2 : (List (List T_api_Term))) (o2 : Int) : RE k f15a4 f15o4 false ⟨[(1, (I a1)), (2, (V.sl 0 1 (List.map sTerm a2))), (3, (Pt 3)), (8, (I o2)), (13, (Bo false))], [(3, vS 4 (eBase a0))], 22⟩ = (((idx a0.fTypes a1).bind fun v3 => ((match_valid k v3 a2).bind fun v4 => (some (v4, 0))))).map (fun (o : Bool × Int) => (⟨[(6, (Bo o.1)), (7, (I o.2))], [], 22⟩ : St)) := by
  refine rg ?_
  refine ra 3 3 ⟨[(1, (I a1)), (2, (V.sl 0 1 (List.map sTerm a2))), (3, (Pt 3)), (8, (I o2)), (13, (Bo false)), (15, (V.ptr 3 0 2)), (16, (sType a0.fTypes)), (17, (I a1))], [(3, vS 4 (eBase a0))], 22⟩ rfl rfl rfl ?_
  refine et (reg_pure (x := (idx a0.fTypes a1)) (w := fun v3 => (Pr (eType v3))) rfl rfl rfl rfl (p_index (e := eType) rfl rfl rfl underlying22 rfl (by decide))) ?_
  refine bindE (fun v3 => ?_)
  refine ba 2 6 ⟨[(1, (I a1)), (2, (V.sl 0 1 (List.map sTerm a2))), (3, (Pt 3)), (8, (I o2)), (13, (Bo false)), (15, (V.ptr 3 0 2)), (16, (sType a0.fTypes)), (17, (I a1)), (18, (Pr (eType v3))), (19, (eType v3)), (20, (V.sl 0 1 (List.map sTerm a2)))], [(3, vS 4 (eBase a0))], 22⟩ rfl rfl rfl ?_
  refine et (reg_pure (x := (match_valid k v3 a2)) (w := fun v4 => (Bo v4)) rfl rfl rfl rfl (p_call rfl rfl rfl rfl rfl (match_valid_ok k v3 a2) (.inl rfl))) ?_
  refine bindE (fun v4 => ?_)
  exact bind_end rfl
theorem match_Valid_ok (k : Nat) (a0 : T_api_Base) (a1 : Int) (a2 : (List (List T_api_Term))) : EV k 15 [(eBase a0), (I a1), (V.sl 0 1 (List.map sTerm a2))] = (match_Valid k a0 a1 a2).map match_Valid_fin := by
  cases k with
  | zero => rfl
  | succ k =>
    unfold match_Valid
    refine et (evF_succ (c := f15c) (N := 22) (regs := f15n) rfl func15 rfl (by decide) rfl rfl rfl) ?_
    refine et (k_region0 rfl (f15r0 k a0 a1 a2)) ?_
    refine et k_assoc ?_
    refine et (k_region rfl (f15r1 k a0 a1 a2)) ?_
    refine bindE (fun o2 => ?_)
    refine et k_assoc ?_
    refine et (k_region0 rfl (f15r2 k a0 a1 a2 o2)) ?_
    refine et (k_cond (t := (o2 != 0)) rfl rfl) ?_
    refine bifE2 (fun hc => ?_) fun hc => ?_
    · rw [hc]
      refine et k_assoc ?_
      refine et (k_region0 rfl (f15r3 k a0 a1 a2 o2)) ?_
      refine et k_ret ?_
      rfl
    · rw [hc]
      refine et k_skip ?_
      refine et (k_region rfl (f15r4 k a0 a1 a2 o2)) ?_
      refine bindE (fun o5 => ?_)
      refine et k_lret ?_
      rfl
def ref11_IsName_fin : Bool → V × List V := fun r => ((Bo r), [])
theorem f86r0 (k : Nat) (a0 : Str) : RE k f86a0 f86o0 false ⟨[(0, (Sr a0))], [], 47⟩ = some ⟨[(0, (Sr a0))], [], 47⟩ :=
  rE rfl
theorem f86r1 (k : Nat) (a0 : Str) : RE k f86a1 f86o1 false ⟨[(0, (Sr a0))], [], 47⟩ = some ⟨[(0, (Sr a0)), (3, (I 0))], [], 47⟩ :=
  rE rfl
theorem f86r2 (k : Nat) (a0 : Str) (x7 : Int) : RE k f86a2 f86o2 false ⟨[(0, (Sr a0)), (3, (I x7))], [], 47⟩ = some ⟨[(0, (Sr a0)), (3, (I x7)), (8, (Bo (decide (x7 < (a0.length : Int)))))], [], 47⟩ :=
  rE rfl
theorem f86r4 (k : Nat) (a0 : Str) (x7 : Int) : RE k f86a4 f86o4 false ⟨[(0, (Sr a0)), (3, (I x7)), (8, (Bo true))], [], 47⟩ = (((idxS a0 x7).bind fun v8 => (bif (decide (v8 ≥ 65)) then ((idxS a0 x7).bind fun v9 => (some ((decide (v9 ≤ 90))))) else (some (false))))).map (fun (o : Bool) => (⟨[(0, (Sr a0)), (3, (I x7)), (4, (Bo o))], [], 47⟩ : St)) := by
  refine rg ?_
  refine ra 2 2 ⟨[(0, (Sr a0)), (3, (I x7)), (8, (Bo true)), (11, (Sr a0)), (12, (I x7))], [], 47⟩ rfl rfl rfl ?_
  refine et (reg_pure (x := (idxS a0 x7)) (w := fun v8 => (V.int .u8 v8)) rfl rfl rfl rfl (p_indexS rfl rfl rfl underlying9)) ?_
  refine bindE (fun v8 => ?_)
  refine ba 2 5 ⟨[(0, (Sr a0)), (3, (I x7)), (8, (Bo true)), (11, (Sr a0)), (12, (I x7)), (13, (V.int .u8 v8)), (14, (Bo (decide (v8 ≥ 65)))), (15, (Bo (decide (v8 ≥ 65))))], [], 47⟩ rfl rfl rfl ?_
  refine bifE (c := (decide (v8 ≥ 65))) (fun hc => ?_) fun hc => ?_
  · rw [hc]
    refine ra 2 7 ⟨[(0, (Sr a0)), (3, (I x7)), (8, (Bo true)), (11, (Sr a0)), (12, (I x7)), (13, (V.int .u8 v8)), (14, (Bo true)), (15, (Bo true)), (16, (Sr a0)), (17, (I x7))], [], 47⟩ rfl rfl rfl ?_
    refine et (reg_pure (x := (idxS a0 x7)) (w := fun v9 => (V.int .u8 v9)) rfl rfl rfl rfl (p_indexS rfl rfl rfl underlying9)) ?_
    refine bindE (fun v9 => ?_)
    exact bind_end rfl
  · rw [hc]
    exact reg_end rfl
theorem f86r5 (k : Nat) (a0 : Str) (x7 : Int) (o10 : Bool) : RE k f86a5 f86o5 false ⟨[(0, (Sr a0)), (3, (I x7)), (4, (Bo o10))], [], 47⟩ = ((bif (!o10) then (bif (x7 == 0) then (some (true)) else ((idxS a0 x7).bind fun v11 => (bif (decide (v11 < 48)) then (some (true)) else ((idxS a0 x7).bind fun v12 => (some ((decide (v12 > 57)))))))) else (some (false)))).map (fun (o : Bool) => (⟨[(0, (Sr a0)), (3, (I x7)), (38, (Bo o))], [], 47⟩ : St)) := by
  refine rg ?_
  refine ra 3 3 ⟨[(0, (Sr a0)), (3, (I x7)), (4, (Bo o10)), (21, (Bo o10)), (22, (Bo (!o10))), (23, (Bo (!o10)))], [], 47⟩ rfl rfl rfl ?_
  refine bifE (c := (!o10)) (fun hc => ?_) fun hc => ?_
  · rw [hc]
    refine ra 3 6 ⟨[(0, (Sr a0)), (3, (I x7)), (4, (Bo o10)), (21, (Bo o10)), (22, (Bo true)), (23, (Bo true)), (24, (I x7)), (25, (Bo (x7 == 0))), (26, (Bo (x7 == 0)))], [], 47⟩ rfl rfl rfl ?_
    refine bifE (c := (x7 == 0)) (fun hc => ?_) fun hc => ?_
    · rw [hc]
      exact reg_end rfl
    · rw [hc]
      refine ra 2 8 ⟨[(0, (Sr a0)), (3, (I x7)), (4, (Bo o10)), (21, (Bo o10)), (22, (Bo true)), (23, (Bo true)), (24, (I x7)), (25, (Bo false)), (26, (Bo false)), (27, (Sr a0)), (28, (I x7))], [], 47⟩ rfl rfl rfl ?_
      refine et (reg_pure (x := (idxS a0 x7)) (w := fun v11 => (V.int .u8 v11)) rfl rfl rfl rfl (p_indexS rfl rfl rfl underlying9)) ?_
      refine bindE (fun v11 => ?_)
      refine ba 3 12 ⟨[(0, (Sr a0)), (3, (I x7)), (4, (Bo o10)), (21, (Bo o10)), (22, (Bo true)), (23, (Bo true)), (24, (I x7)), (25, (Bo false)), (26, (Bo false)), (27, (Sr a0)), (28, (I x7)), (29, (V.int .u8 v11)), (30, (Bo (decide (v11 < 48)))), (31, (Bo (decide (v11 < 48)))), (32, (Bo (decide (v11 < 48))))], [], 47⟩ rfl rfl rfl ?_
      refine bifE (c := (decide (v11 < 48))) (fun hc => ?_) fun hc => ?_
      · rw [hc]
        exact reg_end rfl
      · rw [hc]
        refine ra 2 14 ⟨[(0, (Sr a0)), (3, (I x7)), (4, (Bo o10)), (21, (Bo o10)), (22, (Bo true)), (23, (Bo true)), (24, (I x7)), (25, (Bo false)), (26, (Bo false)), (27, (Sr a0)), (28, (I x7)), (29, (V.int .u8 v11)), (30, (Bo false)), (31, (Bo false)), (32, (Bo false)), (33, (Sr a0)), (34, (I x7))], [], 47⟩ rfl rfl rfl ?_
        refine et (reg_pure (x := (idxS a0 x7)) (w := fun v12 => (V.int .u8 v12)) rfl rfl rfl rfl (p_indexS rfl rfl rfl underlying9)) ?_
        refine bindE (fun v12 => ?_)
        exact bind_end rfl
  · rw [hc]
    exact reg_end rfl
theorem f86r6 (k : Nat) (a0 : Str) (x7 : Int) : RE k f86a6 f86o6 false ⟨[(0, (Sr a0)), (3, (I x7)), (38, (Bo true))], [], 47⟩ = some ⟨[(2, (Bo false))], [], 47⟩ :=
  rE rfl
theorem f86r3 (k : Nat) (a0 : Str) (x7 : Int) : RE k f86a3 f86o3 false ⟨[(0, (Sr a0)), (3, (I x7)), (38, (Bo false))], [], 47⟩ = some ⟨[(0, (Sr a0)), (3, (I (Go.IntKind.wrap .i64 (x7 + 1))))], [], 47⟩ :=
  rE rfl
theorem ref11_IsName_L1_ok (k : Nat) (a0 : Str)  (K0 : Int → Option Bool) (Kst : X × St → Option (V × List V)) (hK0 : ∀ (y0 : Int), Kst (X.exit 0, ⟨[(0, (Sr a0)), (3, (I y0)), (8, (Bo false))], [], 47⟩) = (K0 y0).map ref11_IsName_fin) (hret : ∀ s, Kst (X.ret, s) = endK prog 47 [(Sr a0)] [] [.tmp 2] (X.ret, s)) :
    ∀ (m : Nat) (x7 : Int), (iter (exec prog (EV k) f86n k f86b0) m ⟨[(0, (Sr a0)), (3, (I x7))], [], 47⟩).bind Kst = (ref11_IsName_L1 a0 K0 m x7).map ref11_IsName_fin := by
  intro m
  induction m with
  | zero => intros; rfl
  | succ m ih =>
    intro x7
    unfold ref11_IsName_L1
    refine et k_round ?_
    refine et k_assoc ?_
    refine et (k_region0 rfl (f86r2 k a0 x7)) ?_
    refine et (k_cond (t := (decide (x7 < (a0.length : Int)))) rfl rfl) ?_
    refine bifE2 (fun hc => ?_) fun hc => ?_
    · rw [hc]
      refine et k_skip ?_
      refine et (k_block rfl) ?_
      refine et (k_region rfl (f86r4 k a0 x7)) ?_
      refine bindE (fun o10 => ?_)
      refine et (k_region rfl (f86r5 k a0 x7 o10)) ?_
      refine bindE (fun o13 => ?_)
      refine et (k_lcond (t := o13) rfl rfl) ?_
      refine bifE2 (fun hc => ?_) fun hc => ?_
      · rw [hc]
        refine et (k_region0 rfl (f86r6 k a0 x7)) ?_
        refine et k_lret ?_
        refine et blk_ret ?_
        refine et loop_ret ?_
        refine et (hret _) ?_
        rfl
      · rw [hc]
        refine et k_lskip ?_
        refine et blk_normal ?_
        refine et (k_lregion0 rfl (f86r3 k a0 x7)) ?_
        refine et loop_normal ?_
        exact ih (Go.IntKind.wrap .i64 (x7 + 1))
    · rw [hc]
      refine et k_exit ?_
      refine et loop_exit ?_
      exact hK0 x7
theorem f86r7 (k : Nat) (a0 : Str) (y14 : Int) : RE k f86a7 f86o7 false ⟨[(0, (Sr a0)), (3, (I y14)), (8, (Bo false))], [], 47⟩ = ((bif (decide ((a0.length : Int) ≥ 1)) then (some ((decide ((a0.length : Int) ≤ 8)))) else (some (false)))).map (fun (o : Bool) => (⟨[(2, (Bo o))], [], 47⟩ : St)) := by
  refine rg ?_
  refine ra 4 4 ⟨[(0, (Sr a0)), (3, (I y14)), (8, (Bo false)), (39, (Sr a0)), (40, (I (a0.length : Int))), (41, (Bo (decide ((a0.length : Int) ≥ 1)))), (42, (Bo (decide ((a0.length : Int) ≥ 1))))], [], 47⟩ rfl rfl rfl ?_
  refine bifE (c := (decide ((a0.length : Int) ≥ 1))) (fun hc => ?_) fun hc => ?_
  · rw [hc]
    exact reg_end rfl
  · rw [hc]
    exact reg_end rfl
theorem ref11_IsName_ok (k : Nat) (a0 : Str) : EV k 86 [(Sr a0)] = (ref11_IsName k a0).map ref11_IsName_fin := by
  cases k with
  | zero => rfl
  | succ k =>
    unfold ref11_IsName
    refine et (evF_succ (c := f86c) (N := 47) (regs := f86n) rfl func86 rfl (by decide) rfl rfl rfl) ?_
    refine et (k_region0 rfl (f86r0 k a0)) ?_
    refine et k_assoc ?_
    refine et (k_region0 rfl (f86r1 k a0)) ?_
    refine et (k_block rfl) ?_
    refine et k_loop ?_
    refine ref11_IsName_L1_ok k a0 _ _ ?h_ref11_IsName_L1_0 ?hr_ref11_IsName_L1 k 0
    · intro y14
      refine et blk_exit ?_
      refine et (k_region rfl (f86r7 k a0 y14)) ?_
      refine bindE (fun o15 => ?_)
      refine et k_lret ?_
      rfl
    · intro s; exact rfl
def ref11_fields_fin : Bool → V × List V := fun r => ((Bo r), [])
theorem f87r0 (k : Nat) (a0 : T_api_Type) : RE k f87a0 f87o0 false ⟨[(0, (eType a0))], [], 112⟩ = some ⟨[(1, (Pt 1))], [(1, vS 8 (eType a0))], 112⟩ :=
  rE rfl
theorem f87r1 (k : Nat) (a0 : T_api_Type) : RE k f87a1 f87o1 false ⟨[(1, (Pt 1))], [(1, vS 8 (eType a0))], 112⟩ = some ⟨[(1, (Pt 1)), (3, (I 0))], [(1, vS 8 (eType a0))], 112⟩ :=
  rE rfl
theorem f87r2 (k : Nat) (a0 : T_api_Type) (x11 : Int) : RE k f87a2 f87o2 false ⟨[(1, (Pt 1)), (3, (I x11))], [(1, vS 8 (eType a0))], 112⟩ = some ⟨[(1, (Pt 1)), (3, (I x11)), (10, (Bo (decide (x11 < (a0.fFields.length : Int)))))], [(1, vS 8 (eType a0))], 112⟩ := by
  refine rg ?_
  refine ra 3 3 ⟨[(1, (Pt 1)), (3, (I x11)), (6, (I x11)), (7, (V.ptr 1 0 4)), (8, (sField a0.fFields))], [(1, vS 8 (eType a0))], 112⟩ rfl rfl rfl ?_
  refine et (reg_pure (x := some ()) (w := fun _ => (I (a0.fFields.length : Int))) rfl rfl rfl rfl (p_len (e := eField) rfl rfl rfl rfl rfl rfl underlying43)) ?_
  refine et some_bind ?_
  exact bind_end rfl
theorem f87r4 (k : Nat) (a0 : T_api_Type) (x11 : Int) : RE k f87a4 f87o4 false ⟨[(1, (Pt 1)), (3, (I x11)), (10, (Bo true))], [(1, vS 8 (eType a0))], 112⟩ = ((idx a0.fFields x11)).map (fun (o : T_api_Field) => (⟨[(1, (Pt 1)), (3, (I x11)), (4, (Pt 4))], [(1, vS 8 (eType a0)), (4, vS 3 (eField o))], 112⟩ : St)) := by
  refine rg ?_
  refine ra 3 3 ⟨[(1, (Pt 1)), (3, (I x11)), (10, (Bo true)), (13, (V.ptr 1 0 4)), (14, (sField a0.fFields)), (15, (I x11))], [(1, vS 8 (eType a0))], 112⟩ rfl rfl rfl ?_
  refine et (reg_pure (x := (idx a0.fFields x11)) (w := fun v12 => (Pr (eField v12))) rfl rfl rfl rfl (p_index (e := eField) rfl rfl rfl underlying43 rfl (by decide))) ?_
  refine bind_self (fun v12 => ?_)
  exact bind_end rfl
theorem f87r5 (k : Nat) (a0 : T_api_Type) (x11 : Int) (o13 : T_api_Field) : RE k f87a5 f87o5 false ⟨[(1, (Pt 1)), (3, (I x11)), (4, (Pt 4))], [(1, vS 8 (eType a0)), (4, vS 3 (eField o13))], 112⟩ = (((ref11_IsName k o13.fName).bind fun v14 => (bif (!v14) then (some (true)) else (bif (decide (o13.fAt < 0)) then (some (true)) else (bif (decide (o13.fAt > a0.fSize)) then (some (true)) else (bif (decide (o13.fBytes < 1)) then (some (true)) else (some ((decide (o13.fBytes > (Go.IntKind.wrap .i64 (a0.fSize - o13.fAt)))))))))))).map (fun (o : Bool) => (⟨[(1, (Pt 1)), (3, (I x11)), (4, (Pt 4)), (48, (Bo o))], [(1, vS 8 (eType a0)), (4, vS 3 (eField o13))], 112⟩ : St)) := by
  refine rg ?_
  refine ra 2 2 ⟨[(1, (Pt 1)), (3, (I x11)), (4, (Pt 4)), (18, (Pt 4)), (19, (Sr o13.fName))], [(1, vS 8 (eType a0)), (4, vS 3 (eField o13))], 112⟩ rfl rfl rfl ?_
  refine et (reg_pure (x := (ref11_IsName k o13.fName)) (w := fun v14 => (Bo v14)) rfl rfl rfl rfl (p_call rfl rfl rfl rfl rfl (ref11_IsName_ok k o13.fName) (.inl rfl))) ?_
  refine bindE (fun v14 => ?_)
  refine ba 2 5 ⟨[(1, (Pt 1)), (3, (I x11)), (4, (Pt 4)), (18, (Pt 4)), (19, (Sr o13.fName)), (20, (Bo v14)), (21, (Bo (!v14))), (22, (Bo (!v14)))], [(1, vS 8 (eType a0)), (4, vS 3 (eField o13))], 112⟩ rfl rfl rfl ?_
  refine bifE (c := (!v14)) (fun hc => ?_) fun hc => ?_
  · rw [hc]
    exact reg_end rfl
  · rw [hc]
    refine ra 5 10 ⟨[(1, (Pt 1)), (3, (I x11)), (4, (Pt 4)), (18, (Pt 4)), (19, (Sr o13.fName)), (20, (Bo v14)), (21, (Bo false)), (22, (Bo false)), (23, (V.ptr 4 0 1)), (24, (I o13.fAt)), (25, (Bo (decide (o13.fAt < 0)))), (26, (Bo (decide (o13.fAt < 0)))), (27, (Bo (decide (o13.fAt < 0))))], [(1, vS 8 (eType a0)), (4, vS 3 (eField o13))], 112⟩ rfl rfl rfl ?_
    refine bifE (c := (decide (o13.fAt < 0))) (fun hc => ?_) fun hc => ?_
    · rw [hc]
      exact reg_end rfl
    · rw [hc]
      refine ra 7 17 ⟨[(1, (Pt 1)), (3, (I x11)), (4, (Pt 4)), (18, (Pt 4)), (19, (Sr o13.fName)), (20, (Bo v14)), (21, (Bo false)), (22, (Bo false)), (23, (V.ptr 4 0 1)), (24, (I o13.fAt)), (25, (Bo false)), (26, (Bo false)), (27, (Bo false)), (28, (V.ptr 4 0 1)), (29, (I o13.fAt)), (30, (V.ptr 1 0 3)), (31, (I a0.fSize)), (32, (Bo (decide (o13.fAt > a0.fSize)))), (33, (Bo (decide (o13.fAt > a0.fSize)))), (34, (Bo (decide (o13.fAt > a0.fSize))))], [(1, vS 8 (eType a0)), (4, vS 3 (eField o13))], 112⟩ rfl rfl rfl ?_
      refine bifE (c := (decide (o13.fAt > a0.fSize))) (fun hc => ?_) fun hc => ?_
      · rw [hc]
        exact reg_end rfl
      · rw [hc]
        refine ra 5 22 ⟨[(1, (Pt 1)), (3, (I x11)), (4, (Pt 4)), (18, (Pt 4)), (19, (Sr o13.fName)), (20, (Bo v14)), (21, (Bo false)), (22, (Bo false)), (23, (V.ptr 4 0 1)), (24, (I o13.fAt)), (25, (Bo false)), (26, (Bo false)), (27, (Bo false)), (28, (V.ptr 4 0 1)), (29, (I o13.fAt)), (30, (V.ptr 1 0 3)), (31, (I a0.fSize)), (32, (Bo false)), (33, (Bo false)), (34, (Bo false)), (35, (V.ptr 4 0 2)), (36, (I o13.fBytes)), (37, (Bo (decide (o13.fBytes < 1)))), (38, (Bo (decide (o13.fBytes < 1)))), (39, (Bo (decide (o13.fBytes < 1))))], [(1, vS 8 (eType a0)), (4, vS 3 (eField o13))], 112⟩ rfl rfl rfl ?_
        refine bifE (c := (decide (o13.fBytes < 1))) (fun hc => ?_) fun hc => ?_
        · rw [hc]
          exact reg_end rfl
        · rw [hc]
          exact reg_end rfl
theorem f87r6 (k : Nat) (a0 : T_api_Type) (x11 : Int) (o13 : T_api_Field) : RE k f87a6 f87o6 false ⟨[(1, (Pt 1)), (3, (I x11)), (4, (Pt 4)), (48, (Bo true))], [(1, vS 8 (eType a0)), (4, vS 3 (eField o13))], 112⟩ = some ⟨[(2, (Bo false))], [], 112⟩ :=
  rE rfl
theorem f87r7 (k : Nat) (a0 : T_api_Type) (x11 : Int) (o13 : T_api_Field) : RE k f87a7 f87o7 false ⟨[(1, (Pt 1)), (3, (I x11)), (4, (Pt 4)), (48, (Bo false))], [(1, vS 8 (eType a0)), (4, vS 3 (eField o13))], 112⟩ = some ⟨[(1, (Pt 1)), (3, (I x11)), (4, (Pt 4)), (5, (I 0))], [(1, vS 8 (eType a0)), (4, vS 3 (eField o13))], 112⟩ :=
  rE rfl
theorem f87r8 (k : Nat) (a0 : T_api_Type) (x11 : Int) (o13 : T_api_Field) (x18 : Int) : RE k f87a8 f87o8 false ⟨[(1, (Pt 1)), (3, (I x11)), (4, (Pt 4)), (5, (I x18))], [(1, vS 8 (eType a0)), (4, vS 3 (eField o13))], 112⟩ = some ⟨[(1, (Pt 1)), (3, (I x11)), (4, (Pt 4)), (5, (I x18)), (51, (Bo (decide (x18 < x11))))], [(1, vS 8 (eType a0)), (4, vS 3 (eField o13))], 112⟩ :=
  rE rfl
theorem f87r10 (k : Nat) (a0 : T_api_Type) (x11 : Int) (o13 : T_api_Field) (x18 : Int) : RE k f87a10 f87o10 true ⟨[(1, (Pt 1)), (3, (I x11)), (4, (Pt 4)), (5, (I x18)), (51, (Bo true))], [(1, vS 8 (eType a0)), (4, vS 3 (eField o13))], 112⟩ = (((idx a0.fFields x18).bind fun v19 => (some ((v19.fName == o13.fName))))).map (fun (o : Bool) => (⟨[(1, (Pt 1)), (3, (I x11)), (4, (Pt 4)), (5, (I x18)), (62, (Bo o))], [(1, vS 8 (eType a0)), (4, vS 3 (eField o13))], 112⟩ : St)) := by
  refine et (regionE_regp (p := 9) (dk := true) (t := [(1, (Pt 1)), (3, (I x11)), (4, (Pt 4)), (5, (I x18)), (51, (Bo true))]) (σ := [(1, vS 8 (eType a0)), (4, vS 3 (eField o13))]) (n := 112) rfl (by decide) (by decide) rfl) ?_
  refine et (regp_adv (m := 3) (j := 3) (t' := [(1, (Pt 1)), (3, (I x11)), (4, (Pt 4)), (5, (I x18)), (51, (Bo true)), (54, (V.ptr 1 0 4)), (55, (sField a0.fFields)), (56, (I x18))]) rfl rfl rfl) ?_
  refine et (regp_pure (x := (idx a0.fFields x18)) (w := fun v19 => (Pr (eField v19))) rfl rfl rfl rfl rfl (p_index (e := eField) rfl rfl rfl underlying43 rfl (by decide))) ?_
  refine bindE (fun v19 => ?_)
  exact regp_end rfl
theorem f87r11 (k : Nat) (a0 : T_api_Type) (x11 : Int) (o13 : T_api_Field) (x18 : Int) : RE k f87a11 f87o11 false ⟨[(1, (Pt 1)), (3, (I x11)), (4, (Pt 4)), (5, (I x18)), (62, (Bo true))], [(1, vS 8 (eType a0)), (4, vS 3 (eField o13))], 112⟩ = some ⟨[(2, (Bo false))], [], 112⟩ :=
  rE rfl
theorem f87r9 (k : Nat) (a0 : T_api_Type) (x11 : Int) (o13 : T_api_Field) (x18 : Int) : RE k f87a9 f87o9 false ⟨[(1, (Pt 1)), (3, (I x11)), (4, (Pt 4)), (5, (I x18)), (62, (Bo false))], [(1, vS 8 (eType a0)), (4, vS 3 (eField o13))], 112⟩ = some ⟨[(1, (Pt 1)), (3, (I x11)), (4, (Pt 4)), (5, (I (Go.IntKind.wrap .i64 (x18 + 1))))], [(1, vS 8 (eType a0)), (4, vS 3 (eField o13))], 112⟩ :=
  rE rfl
theorem ref11_fields_L2_ok (k : Nat) (a0 : T_api_Type) (x11 : Int) (o13 : T_api_Field)  (K0 : Int → Option Bool) (Kst : X × St → Option (V × List V)) (hK0 : ∀ (y0 : Int), Kst (X.exit 2, ⟨[(1, (Pt 1)), (3, (I x11)), (4, (Pt 4)), (5, (I y0)), (51, (Bo false))], [(1, vS 8 (eType a0)), (4, vS 3 (eField o13))], 112⟩) = (K0 y0).map ref11_fields_fin) (hret : ∀ s, Kst (X.ret, s) = endK prog 112 [(eType a0)] [] [.tmp 2] (X.ret, s)) :
    ∀ (m : Nat) (x18 : Int), (iter (exec prog (EV k) f87n k f87b0) m ⟨[(1, (Pt 1)), (3, (I x11)), (4, (Pt 4)), (5, (I x18))], [(1, vS 8 (eType a0)), (4, vS 3 (eField o13))], 112⟩).bind Kst = (ref11_fields_L2 a0 x11 o13 K0 m x18).map ref11_fields_fin := by
  intro m
  induction m with
  | zero => intros; rfl
  | succ m ih =>
    intro x18
    unfold ref11_fields_L2
    refine et k_round ?_
    refine et k_assoc ?_
    refine et (k_region0 rfl (f87r8 k a0 x11 o13 x18)) ?_
    refine et (k_cond (t := (decide (x18 < x11))) rfl rfl) ?_
    refine bifE2 (fun hc => ?_) fun hc => ?_
    · rw [hc]
      refine et k_skip ?_
      refine et (k_block rfl) ?_
      refine et (k_region rfl (f87r10 k a0 x11 o13 x18)) ?_
      refine bindE (fun o20 => ?_)
      refine et (k_lcond (t := o20) rfl rfl) ?_
      refine bifE2 (fun hc => ?_) fun hc => ?_
      · rw [hc]
        refine et (k_region0 rfl (f87r11 k a0 x11 o13 x18)) ?_
        refine et k_lret ?_
        refine et blk_ret ?_
        refine et loop_ret ?_
        refine et (hret _) ?_
        rfl
      · rw [hc]
        refine et k_lskip ?_
        refine et blk_normal ?_
        refine et (k_lregion0 rfl (f87r9 k a0 x11 o13 x18)) ?_
        refine et loop_normal ?_
        exact ih (Go.IntKind.wrap .i64 (x18 + 1))
    · rw [hc]
      refine et k_exit ?_
      refine et loop_exit ?_
      exact hK0 x18
theorem f87r3 (k : Nat) (a0 : T_api_Type) (x11 : Int) (o13 : T_api_Field) (y21 : Int) : RE k f87a3 f87o3 false ⟨[(1, (Pt 1)), (3, (I x11)), (4, (Pt 4)), (5, (I y21)), (51, (Bo false))], [(1, vS 8 (eType a0)), (4, vS 3 (eField o13))], 112⟩ = some ⟨[(1, (Pt 1)), (3, (I (Go.IntKind.wrap .i64 (x11 + 1))))], [(1, vS 8 (eType a0))], 112⟩ :=
  rE rfl
theorem ref11_fields_L1_ok (k : Nat) (a0 : T_api_Type)  (K0 : Int → Option Bool) (Kst : X × St → Option (V × List V)) (hK0 : ∀ (y0 : Int), Kst (X.exit 0, ⟨[(1, (Pt 1)), (3, (I y0)), (10, (Bo false))], [(1, vS 8 (eType a0))], 112⟩) = (K0 y0).map ref11_fields_fin) (hret : ∀ s, Kst (X.ret, s) = endK prog 112 [(eType a0)] [] [.tmp 2] (X.ret, s)) :
    ∀ (m : Nat) (x11 : Int), (iter (exec prog (EV k) f87n k f87b1) m ⟨[(1, (Pt 1)), (3, (I x11))], [(1, vS 8 (eType a0))], 112⟩).bind Kst = (ref11_fields_L1 k a0 K0 m x11).map ref11_fields_fin := by
  intro m
  induction m with
  | zero => intros; rfl
  | succ m ih =>
    intro x11
    unfold ref11_fields_L1
    refine et k_round ?_
    refine et k_assoc ?_
    refine et (k_region0 rfl (f87r2 k a0 x11)) ?_
    refine et (k_cond (t := (decide (x11 < (a0.fFields.length : Int)))) rfl rfl) ?_
    refine bifE2 (fun hc => ?_) fun hc => ?_
    · rw [hc]
      refine et k_skip ?_
      refine et (k_block rfl) ?_
      refine et (k_region rfl (f87r4 k a0 x11)) ?_
      refine bindE (fun o13 => ?_)
      refine et k_assoc ?_
      refine et (k_region rfl (f87r5 k a0 x11 o13)) ?_
      refine bindE (fun o15 => ?_)
      refine et (k_cond (t := o15) rfl rfl) ?_
      refine bifE2 (fun hc => ?_) fun hc => ?_
      · rw [hc]
        refine et k_assoc ?_
        refine et (k_region0 rfl (f87r6 k a0 x11 o13)) ?_
        refine et k_ret ?_
        refine et blk_ret ?_
        refine et loop_ret ?_
        refine et (hret _) ?_
        rfl
      · rw [hc]
        refine et k_skip ?_
        refine et (k_region0 rfl (f87r7 k a0 x11 o13)) ?_
        refine et (k_lblock rfl) ?_
        refine et k_loop ?_
        refine ref11_fields_L2_ok k a0 x11 o13 _ _ ?h_ref11_fields_L2_0 ?hr_ref11_fields_L2 k 0
        · intro y21
          refine et blk_exit ?_
          refine et k_lskip ?_
          refine et blk_normal ?_
          refine et (k_lregion0 rfl (f87r3 k a0 x11 o13 y21)) ?_
          refine et loop_normal ?_
          exact ih (Go.IntKind.wrap .i64 (x11 + 1))
        · intro s; exact hret s
    · rw [hc]
      refine et k_exit ?_
      refine et loop_exit ?_
      exact hK0 x11
theorem f87r12 (k : Nat) (a0 : T_api_Type) (y22 : Int) : RE k f87a12 f87o12 false ⟨[(1, (Pt 1)), (3, (I y22)), (10, (Bo false))], [(1, vS 8 (eType a0))], 112⟩ = ((bif (decide (a0.fKey < (-1))) then (some (true)) else (bif (decide (a0.fKey ≥ (a0.fFields.length : Int))) then (some (true)) else (bif (decide (a0.fKey < 0)) then (some (a0.fUnique)) else (some (false)))))).map (fun (o : Bool) => (⟨[(1, (Pt 1)), (82, (Bo o))], [(1, vS 8 (eType a0))], 112⟩ : St)) := by
  refine rg ?_
  refine ra 4 4 ⟨[(1, (Pt 1)), (3, (I y22)), (10, (Bo false)), (63, (V.ptr 1 0 5)), (64, (I a0.fKey)), (65, (Bo (decide (a0.fKey < (-1))))), (66, (Bo (decide (a0.fKey < (-1)))))], [(1, vS 8 (eType a0))], 112⟩ rfl rfl rfl ?_
  refine bifE (c := (decide (a0.fKey < (-1)))) (fun hc => ?_) fun hc => ?_
  · rw [hc]
    exact reg_end rfl
  · rw [hc]
    refine ra 4 8 ⟨[(1, (Pt 1)), (3, (I y22)), (10, (Bo false)), (63, (V.ptr 1 0 5)), (64, (I a0.fKey)), (65, (Bo false)), (66, (Bo false)), (67, (V.ptr 1 0 5)), (68, (I a0.fKey)), (69, (V.ptr 1 0 4)), (70, (sField a0.fFields))], [(1, vS 8 (eType a0))], 112⟩ rfl rfl rfl ?_
    refine et (reg_pure (x := some ()) (w := fun _ => (I (a0.fFields.length : Int))) rfl rfl rfl rfl (p_len (e := eField) rfl rfl rfl rfl rfl rfl underlying43)) ?_
    refine et some_bind ?_
    refine ba 3 12 ⟨[(1, (Pt 1)), (3, (I y22)), (10, (Bo false)), (63, (V.ptr 1 0 5)), (64, (I a0.fKey)), (65, (Bo false)), (66, (Bo false)), (67, (V.ptr 1 0 5)), (68, (I a0.fKey)), (69, (V.ptr 1 0 4)), (70, (sField a0.fFields)), (71, (I (a0.fFields.length : Int))), (72, (Bo (decide (a0.fKey ≥ (a0.fFields.length : Int))))), (73, (Bo (decide (a0.fKey ≥ (a0.fFields.length : Int))))), (74, (Bo (decide (a0.fKey ≥ (a0.fFields.length : Int)))))], [(1, vS 8 (eType a0))], 112⟩ rfl rfl rfl ?_
    refine bifE (c := (decide (a0.fKey ≥ (a0.fFields.length : Int)))) (fun hc => ?_) fun hc => ?_
    · rw [hc]
      exact reg_end rfl
    · rw [hc]
      refine ra 4 16 ⟨[(1, (Pt 1)), (3, (I y22)), (10, (Bo false)), (63, (V.ptr 1 0 5)), (64, (I a0.fKey)), (65, (Bo false)), (66, (Bo false)), (67, (V.ptr 1 0 5)), (68, (I a0.fKey)), (69, (V.ptr 1 0 4)), (70, (sField a0.fFields)), (71, (I (a0.fFields.length : Int))), (72, (Bo false)), (73, (Bo false)), (74, (Bo false)), (75, (V.ptr 1 0 5)), (76, (I a0.fKey)), (77, (Bo (decide (a0.fKey < 0)))), (78, (Bo (decide (a0.fKey < 0))))], [(1, vS 8 (eType a0))], 112⟩ rfl rfl rfl ?_
      refine bifE (c := (decide (a0.fKey < 0))) (fun hc => ?_) fun hc => ?_
      · rw [hc]
        exact reg_end rfl
      · rw [hc]
        exact reg_end rfl
theorem f87r13 (k : Nat) (a0 : T_api_Type) : RE k f87a13 f87o13 false ⟨[(1, (Pt 1)), (82, (Bo true))], [(1, vS 8 (eType a0))], 112⟩ = some ⟨[(2, (Bo false))], [], 112⟩ :=
  rE rfl
theorem f87r14 (k : Nat) (a0 : T_api_Type) : RE k f87a14 f87o14 true ⟨[(1, (Pt 1)), (82, (Bo false))], [(1, vS 8 (eType a0))], 112⟩ = ((bif (decide ((a0.fFields.length : Int) ≤ 5)) then (bif (decide (a0.fKey < 0)) then (some (true)) else ((idx a0.fFields a0.fKey).bind fun v24 => ((idx a0.fFields a0.fKey).bind fun v25 => (some ((decide ((Go.IntKind.wrap .i64 (v24.fAt + v25.fBytes)) ≤ a0.fMin))))))) else (some (false)))).map (fun (o : Bool) => (⟨[(2, (Bo o))], [], 112⟩ : St)) := by
  refine et (regionE_regp (p := 30) (dk := true) (t := [(1, (Pt 1)), (82, (Bo false))]) (σ := [(1, vS 8 (eType a0))]) (n := 112) rfl (by decide) (by decide) rfl) ?_
  refine et (regp_adv (m := 2) (j := 2) (t' := [(1, (Pt 1)), (82, (Bo false)), (83, (V.ptr 1 0 4)), (84, (sField a0.fFields))]) rfl rfl rfl) ?_
  refine et (regp_pure (x := some ()) (w := fun _ => (I (a0.fFields.length : Int))) rfl rfl rfl rfl rfl (p_len (e := eField) rfl rfl rfl rfl rfl rfl underlying43)) ?_
  refine et some_bind ?_
  refine et (putp_adv (m := 2) (j := 5) (t' := [(1, (Pt 1)), (82, (Bo false)), (83, (V.ptr 1 0 4)), (84, (sField a0.fFields)), (85, (I (a0.fFields.length : Int))), (86, (Bo (decide ((a0.fFields.length : Int) ≤ 5)))), (87, (Bo (decide ((a0.fFields.length : Int) ≤ 5))))]) rfl rfl rfl) ?_
  refine bifE (c := (decide ((a0.fFields.length : Int) ≤ 5))) (fun hc => ?_) fun hc => ?_
  · rw [hc]
    refine et (regp_adv (m := 4) (j := 9) (t' := [(1, (Pt 1)), (82, (Bo false)), (83, (V.ptr 1 0 4)), (84, (sField a0.fFields)), (85, (I (a0.fFields.length : Int))), (86, (Bo true)), (87, (Bo true)), (88, (V.ptr 1 0 5)), (89, (I a0.fKey)), (90, (Bo (decide (a0.fKey < 0)))), (91, (Bo (decide (a0.fKey < 0))))]) rfl rfl rfl) ?_
    refine bifE (c := (decide (a0.fKey < 0))) (fun hc => ?_) fun hc => ?_
    · rw [hc]
      exact regp_end rfl
    · rw [hc]
      refine et (regp_adv (m := 4) (j := 13) (t' := [(1, (Pt 1)), (82, (Bo false)), (83, (V.ptr 1 0 4)), (84, (sField a0.fFields)), (85, (I (a0.fFields.length : Int))), (86, (Bo true)), (87, (Bo true)), (88, (V.ptr 1 0 5)), (89, (I a0.fKey)), (90, (Bo false)), (91, (Bo false)), (92, (V.ptr 1 0 4)), (93, (sField a0.fFields)), (94, (V.ptr 1 0 5)), (95, (I a0.fKey))]) rfl rfl rfl) ?_
      refine et (regp_pure (x := (idx a0.fFields a0.fKey)) (w := fun v24 => (Pr (eField v24))) rfl rfl rfl rfl rfl (p_index (e := eField) rfl rfl rfl underlying43 rfl (by decide))) ?_
      refine bindE (fun v24 => ?_)
      refine et (putp_adv (m := 6) (j := 20) (t' := [(1, (Pt 1)), (82, (Bo false)), (83, (V.ptr 1 0 4)), (84, (sField a0.fFields)), (85, (I (a0.fFields.length : Int))), (86, (Bo true)), (87, (Bo true)), (88, (V.ptr 1 0 5)), (89, (I a0.fKey)), (90, (Bo false)), (91, (Bo false)), (92, (V.ptr 1 0 4)), (93, (sField a0.fFields)), (94, (V.ptr 1 0 5)), (95, (I a0.fKey)), (96, (Pr (eField v24))), (97, (Pr (I v24.fAt))), (98, (I v24.fAt)), (99, (V.ptr 1 0 4)), (100, (sField a0.fFields)), (101, (V.ptr 1 0 5)), (102, (I a0.fKey))]) rfl rfl rfl) ?_
      refine et (regp_pure (x := (idx a0.fFields a0.fKey)) (w := fun v25 => (Pr (eField v25))) rfl rfl rfl rfl rfl (p_index (e := eField) rfl rfl rfl underlying43 rfl (by decide))) ?_
      refine bindE (fun v25 => ?_)
      exact regp_end rfl
  · rw [hc]
    exact regp_end rfl
theorem ref11_fields_ok (k : Nat) (a0 : T_api_Type) : EV k 87 [(eType a0)] = (ref11_fields k a0).map ref11_fields_fin := by
  cases k with
  | zero => rfl
  | succ k =>
    unfold ref11_fields
    refine et (evF_succ (c := f87c) (N := 112) (regs := f87n) rfl func87 rfl (by decide) rfl rfl rfl) ?_
    refine et (k_region0 rfl (f87r0 k a0)) ?_
    refine et k_assoc ?_
    refine et (k_region0 rfl (f87r1 k a0)) ?_
    refine et (k_block rfl) ?_
    refine et k_loop ?_
    refine ref11_fields_L1_ok k a0 _ _ ?h_ref11_fields_L1_0 ?hr_ref11_fields_L1 k 0
    · intro y22
      refine et blk_exit ?_
      refine et k_assoc ?_
      refine et (k_region rfl (f87r12 k a0 y22)) ?_
      refine bindE (fun o23 => ?_)
      refine et (k_cond (t := o23) rfl rfl) ?_
      refine bifE2 (fun hc => ?_) fun hc => ?_
      · rw [hc]
        refine et k_assoc ?_
        refine et (k_region0 rfl (f87r13 k a0)) ?_
        refine et k_ret ?_
        rfl
      · rw [hc]
        refine et k_skip ?_
        refine et (k_region rfl (f87r14 k a0)) ?_
        refine bindE (fun o26 => ?_)
        refine et k_lret ?_
        rfl
    · intro s; exact rfl
def ref11_above_fin : Bool → V × List V := fun r => ((Bo r), [])
theorem f88r0 (k : Nat) (a0 : T_api_Base) (a1 : Int) (a2 : Int) : RE k f88a0 f88o0 false ⟨[(0, (eBase a0)), (1, (I a1)), (2, (I a2))], [], 24⟩ = some ⟨[(1, (I a1)), (2, (I a2)), (3, (Pt 3))], [(3, vS 4 (eBase a0))], 24⟩ :=
  rE rfl
theorem f88r1 (k : Nat) (a0 : T_api_Base) (a1 : Int) (a2 : Int) : RE k f88a1 f88o1 false ⟨[(1, (I a1)), (2, (I a2)), (3, (Pt 3))], [(3, vS 4 (eBase a0))], 24⟩ = (((idx a0.fTypes a2).bind fun v1 => (some (v1.fParent)))).map (fun (o : Int) => (⟨[(1, (I a1)), (2, (I o)), (3, (Pt 3))], [(3, vS 4 (eBase a0))], 24⟩ : St)) := by
  refine rg ?_
  refine ra 3 3 ⟨[(1, (I a1)), (2, (I a2)), (3, (Pt 3)), (7, (V.ptr 3 0 2)), (8, (sType a0.fTypes)), (9, (I a2))], [(3, vS 4 (eBase a0))], 24⟩ rfl rfl rfl ?_
  refine et (reg_pure (x := (idx a0.fTypes a2)) (w := fun v1 => (Pr (eType v1))) rfl rfl rfl rfl (p_index (e := eType) rfl rfl rfl underlying22 rfl (by decide))) ?_
  refine bindE (fun v1 => ?_)
  exact bind_end rfl
theorem f88r2 (k : Nat) (a0 : T_api_Base) (a1 : Int) (x5 : Int) : RE k f88a2 f88o2 false ⟨[(1, (I a1)), (2, (I x5)), (3, (Pt 3))], [(3, vS 4 (eBase a0))], 24⟩ = some ⟨[(1, (I a1)), (2, (I x5)), (3, (Pt 3)), (14, (Bo (decide (x5 ≥ 0))))], [(3, vS 4 (eBase a0))], 24⟩ :=
  rE rfl
theorem f88r4 (k : Nat) (a0 : T_api_Base) (a1 : Int) (x5 : Int) : RE k f88a4 f88o4 false ⟨[(1, (I a1)), (2, (I x5)), (3, (Pt 3)), (14, (Bo true))], [(3, vS 4 (eBase a0))], 24⟩ = some ⟨[(1, (I a1)), (2, (I x5)), (3, (Pt 3)), (23, (Bo (x5 == a1)))], [(3, vS 4 (eBase a0))], 24⟩ :=
  rE rfl
theorem f88r5 (k : Nat) (a0 : T_api_Base) (a1 : Int) (x5 : Int) : RE k f88a5 f88o5 false ⟨[(1, (I a1)), (2, (I x5)), (3, (Pt 3)), (23, (Bo true))], [(3, vS 4 (eBase a0))], 24⟩ = some ⟨[(6, (Bo true))], [], 24⟩ :=
  rE rfl
theorem f88r3 (k : Nat) (a0 : T_api_Base) (a1 : Int) (x5 : Int) : RE k f88a3 f88o3 false ⟨[(1, (I a1)), (2, (I x5)), (3, (Pt 3)), (23, (Bo false))], [(3, vS 4 (eBase a0))], 24⟩ = (((idx a0.fTypes x5).bind fun v6 => (some (v6.fParent)))).map (fun (o : Int) => (⟨[(1, (I a1)), (2, (I o)), (3, (Pt 3))], [(3, vS 4 (eBase a0))], 24⟩ : St)) := by
  refine rg ?_
  refine ra 3 3 ⟨[(1, (I a1)), (2, (I x5)), (3, (Pt 3)), (15, (V.ptr 3 0 2)), (16, (sType a0.fTypes)), (17, (I x5)), (23, (Bo false))], [(3, vS 4 (eBase a0))], 24⟩ rfl rfl rfl ?_
  refine et (reg_pure (x := (idx a0.fTypes x5)) (w := fun v6 => (Pr (eType v6))) rfl rfl rfl rfl (p_index (e := eType) rfl rfl rfl underlying22 rfl (by decide))) ?_
  refine bindE (fun v6 => ?_)
  exact bind_end rfl
theorem ref11_above_L1_ok (k : Nat) (a0 : T_api_Base) (a1 : Int) (a2 : Int)  (K0 : Int → Option Bool) (Kst : X × St → Option (V × List V)) (hK0 : ∀ (y0 : Int), Kst (X.exit 0, ⟨[(1, (I a1)), (2, (I y0)), (3, (Pt 3)), (14, (Bo false))], [(3, vS 4 (eBase a0))], 24⟩) = (K0 y0).map ref11_above_fin) (hret : ∀ s, Kst (X.ret, s) = endK prog 24 [(eBase a0), (I a1), (I a2)] [] [.tmp 6] (X.ret, s)) :
    ∀ (m : Nat) (x5 : Int), (iter (exec prog (EV k) f88n k f88b0) m ⟨[(1, (I a1)), (2, (I x5)), (3, (Pt 3))], [(3, vS 4 (eBase a0))], 24⟩).bind Kst = (ref11_above_L1 a0 a1 K0 m x5).map ref11_above_fin := by
  intro m
  induction m with
  | zero => intros; rfl
  | succ m ih =>
    intro x5
    unfold ref11_above_L1
    refine et k_round ?_
    refine et k_assoc ?_
    refine et (k_region0 rfl (f88r2 k a0 a1 x5)) ?_
    refine et (k_cond (t := (decide (x5 ≥ 0))) rfl rfl) ?_
    refine bifE2 (fun hc => ?_) fun hc => ?_
    · rw [hc]
      refine et k_skip ?_
      refine et (k_block rfl) ?_
      refine et (k_region0 rfl (f88r4 k a0 a1 x5)) ?_
      refine et (k_lcond (t := (x5 == a1)) rfl rfl) ?_
      refine bifE2 (fun hc => ?_) fun hc => ?_
      · rw [hc]
        refine et (k_region0 rfl (f88r5 k a0 a1 x5)) ?_
        refine et k_lret ?_
        refine et blk_ret ?_
        refine et loop_ret ?_
        refine et (hret _) ?_
        rfl
      · rw [hc]
        refine et k_lskip ?_
        refine et blk_normal ?_
        refine et (k_lregion rfl (f88r3 k a0 a1 x5)) ?_
        refine bindE (fun o7 => ?_)
        refine et loop_normal ?_
        exact ih o7
    · rw [hc]
      refine et k_exit ?_
      refine et loop_exit ?_
      exact hK0 x5
theorem f88r6 (k : Nat) (a0 : T_api_Base) (a1 : Int) (y8 : Int) : RE k f88a6 f88o6 false ⟨[(1, (I a1)), (2, (I y8)), (3, (Pt 3)), (14, (Bo false))], [(3, vS 4 (eBase a0))], 24⟩ = some ⟨[(6, (Bo false))], [], 24⟩ :=
  rE rfl
theorem ref11_above_ok (k : Nat) (a0 : T_api_Base) (a1 : Int) (a2 : Int) : EV k 88 [(eBase a0), (I a1), (I a2)] = (ref11_above k a0 a1 a2).map ref11_above_fin := by
  cases k with
  | zero => rfl
  | succ k =>
    unfold ref11_above
    refine et (evF_succ (c := f88c) (N := 24) (regs := f88n) rfl func88 rfl (by decide) rfl rfl rfl) ?_
    refine et (k_region0 rfl (f88r0 k a0 a1 a2)) ?_
    refine et k_assoc ?_
    refine et (k_region rfl (f88r1 k a0 a1 a2)) ?_
    refine bindE (fun o2 => ?_)
    refine et (k_block rfl) ?_
    refine et k_loop ?_
    refine ref11_above_L1_ok k a0 a1 a2 _ _ ?h_ref11_above_L1_0 ?hr_ref11_above_L1 k o2
    · intro y8
      refine et blk_exit ?_
      refine et (k_region0 rfl (f88r6 k a0 a1 y8)) ?_
      refine et k_lret ?_
      rfl
    · intro s; exact rfl
def ref11_way_fin : (List Int) → V × List V := fun r => ((sI r), [])
theorem f89r0 (k : Nat) (a0 : T_api_Base) (a1 : Int) : RE k f89a0 f89o0 false ⟨[(0, (eBase a0)), (1, (I a1))], [], 19⟩ = some ⟨[(1, (I a1)), (2, (Pt 2))], [(2, vS 4 (eBase a0))], 19⟩ :=
  rE rfl
theorem f89r1 (k : Nat) (a0 : T_api_Base) (a1 : Int) : RE k f89a1 f89o1 false ⟨[(1, (I a1)), (2, (Pt 2))], [(2, vS 4 (eBase a0))], 19⟩ = some ⟨[(1, (I a1)), (2, (Pt 2)), (5, (sI (([] : List Int))))], [(2, vS 4 (eBase a0))], 19⟩ :=
  rE rfl
theorem f89r2 (k : Nat) (a0 : T_api_Base) (x5 : Int) (x6 : (List Int)) : RE k f89a2 f89o2 false ⟨[(1, (I x5)), (2, (Pt 2)), (5, (sI x6))], [(2, vS 4 (eBase a0))], 19⟩ = some ⟨[(1, (I x5)), (2, (Pt 2)), (5, (sI x6)), (7, (Bo (decide (x5 ≥ 0))))], [(2, vS 4 (eBase a0))], 19⟩ :=
  rE rfl
theorem f89r3 (k : Nat) (a0 : T_api_Base) (x5 : Int) (x6 : (List Int)) : RE k f89a3 f89o3 false ⟨[(1, (I x5)), (2, (Pt 2)), (5, (sI x6)), (7, (Bo true))], [(2, vS 4 (eBase a0))], 19⟩ = ((app ([x5] : List Int) x6)).map (fun (o : (List Int)) => (⟨[(1, (I x5)), (2, (Pt 2)), (5, (sI o))], [(2, vS 4 (eBase a0))], 19⟩ : St)) := by
  refine rg ?_
  refine ra 3 3 ⟨[(1, (I x5)), (2, (Pt 2)), (5, (sI x6)), (7, (Bo true)), (8, (I x5)), (9, (V.sl 1 1 (List.map I ([x5] : List Int)))), (10, (sI x6))], [(2, vS 4 (eBase a0))], 19⟩ rfl rfl rfl ?_
  refine et (reg_eff (x := (app ([x5] : List Int) x6)) (w := fun v7 => ((V.sl 1 1 (List.map I v7)), _)) rfl rfl rfl rfl (p_app (e := I) rfl rfl rfl rfl rfl rfl rfl rfl rfl rfl (by decide))) ?_
  refine bind_self (fun v7 => ?_)
  exact bind_end rfl
theorem f89r4 (k : Nat) (a0 : T_api_Base) (x5 : Int) (o8 : (List Int)) : RE k f89a4 f89o4 false ⟨[(1, (I x5)), (2, (Pt 2)), (5, (sI o8))], [(2, vS 4 (eBase a0))], 19⟩ = (((idx a0.fTypes x5).bind fun v9 => (some (v9.fParent)))).map (fun (o : Int) => (⟨[(1, (I o)), (2, (Pt 2)), (5, (sI o8))], [(2, vS 4 (eBase a0))], 19⟩ : St)) := by
  refine rg ?_
  refine ra 3 3 ⟨[(1, (I x5)), (2, (Pt 2)), (5, (sI o8)), (12, (V.ptr 2 0 2)), (13, (sType a0.fTypes)), (14, (I x5))], [(2, vS 4 (eBase a0))], 19⟩ rfl rfl rfl ?_
  refine et (reg_pure (x := (idx a0.fTypes x5)) (w := fun v9 => (Pr (eType v9))) rfl rfl rfl rfl (p_index (e := eType) rfl rfl rfl underlying22 rfl (by decide))) ?_
  refine bindE (fun v9 => ?_)
  exact bind_end rfl
theorem ref11_way_L1_ok (k : Nat) (a0 : T_api_Base) (a1 : Int)  (K0 : Int → (List Int) → Option (List Int)) (Kst : X × St → Option (V × List V)) (hK0 : ∀ (y0 : Int) (y1 : (List Int)), Kst (X.exit 0, ⟨[(1, (I y0)), (2, (Pt 2)), (5, (sI y1)), (7, (Bo false))], [(2, vS 4 (eBase a0))], 19⟩) = (K0 y0 y1).map ref11_way_fin) (hret : ∀ s, Kst (X.ret, s) = endK prog 19 [(eBase a0), (I a1)] [] [.tmp 4] (X.ret, s)) :
    ∀ (m : Nat) (x5 : Int) (x6 : (List Int)), (iter (exec prog (EV k) f89n k f89b0) m ⟨[(1, (I x5)), (2, (Pt 2)), (5, (sI x6))], [(2, vS 4 (eBase a0))], 19⟩).bind Kst = (ref11_way_L1 a0 K0 m x5 x6).map ref11_way_fin := by
  intro m
  induction m with
  | zero => intros; rfl
  | succ m ih =>
    intro x5 x6
    unfold ref11_way_L1
    refine et k_round ?_
    refine et k_assoc ?_
    refine et (k_region0 rfl (f89r2 k a0 x5 x6)) ?_
    refine et (k_cond (t := (decide (x5 ≥ 0))) rfl rfl) ?_
    refine bifE2 (fun hc => ?_) fun hc => ?_
    · rw [hc]
      refine et k_skip ?_
      refine et (k_lblock rfl) ?_
      refine et (k_region rfl (f89r3 k a0 x5 x6)) ?_
      refine bindE (fun o8 => ?_)
      refine et (k_lregion rfl (f89r4 k a0 x5 o8)) ?_
      refine bindE (fun o10 => ?_)
      refine et blk_normal ?_
      refine et k_lskip ?_
      refine et loop_normal ?_
      exact ih o10 o8
    · rw [hc]
      refine et k_exit ?_
      refine et loop_exit ?_
      exact hK0 x5 x6
theorem f89r5 (k : Nat) (a0 : T_api_Base) (y11 : Int) (y12 : (List Int)) : RE k f89a5 f89o5 false ⟨[(1, (I y11)), (2, (Pt 2)), (5, (sI y12)), (7, (Bo false))], [(2, vS 4 (eBase a0))], 19⟩ = some ⟨[(4, (sI y12))], [], 19⟩ :=
  rE rfl
theorem ref11_way_ok (k : Nat) (a0 : T_api_Base) (a1 : Int) : EV k 89 [(eBase a0), (I a1)] = (ref11_way k a0 a1).map ref11_way_fin := by
  cases k with
  | zero => rfl
  | succ k =>
    unfold ref11_way
    refine et (evF_succ (c := f89c) (N := 19) (regs := f89n) rfl func89 rfl (by decide) rfl rfl rfl) ?_
    refine et (k_region0 rfl (f89r0 k a0 a1)) ?_
    refine et (k_region0 rfl (f89r1 k a0 a1)) ?_
    refine et (k_block rfl) ?_
    refine et k_loop ?_
    refine ref11_way_L1_ok k a0 a1 _ _ ?h_ref11_way_L1_0 ?hr_ref11_way_L1 k a1 ([] : List Int)
    · intro y11 y12
      refine et blk_exit ?_
      refine et (k_region0 rfl (f89r5 k a0 y11 y12)) ?_
      refine et k_lret ?_
      rfl
    · intro s; exact rfl
def ref11_Valid_fin : Bool → V × List V := fun r => ((Bo r), [])
theorem f64r0 (k : Nat) (a0 : T_api_Base) : RE k f64a0 f64o0 false ⟨[(0, (eBase a0))], [], 232⟩ = some ⟨[(1, (Pt 1))], [(1, vS 4 (eBase a0))], 232⟩ :=
  rE rfl
theorem f64r1 (k : Nat) (a0 : T_api_Base) : RE k f64a1 f64o1 false ⟨[(1, (Pt 1))], [(1, vS 4 (eBase a0))], 232⟩ = (((ref11_IsName k a0.fName).bind fun v1 => (bif (!v1) then (some (true)) else (bif (decide (a0.fKind < 1)) then (some (true)) else (bif (decide (a0.fKind > 4)) then (some (true)) else (bif (decide ((a0.fTypes.length : Int) < 1)) then (some (true)) else (bif (decide ((a0.fTypes.length : Int) > 8)) then (some (true)) else (some ((decide ((a0.fIndexes.length : Int) > 3))))))))))).map (fun (o : Bool) => (⟨[(1, (Pt 1)), (40, (Bo o))], [(1, vS 4 (eBase a0))], 232⟩ : St)) := by
  refine rg ?_
  refine ra 2 2 ⟨[(1, (Pt 1)), (9, (Pt 1)), (10, (Sr a0.fName))], [(1, vS 4 (eBase a0))], 232⟩ rfl rfl rfl ?_
  refine et (reg_pure (x := (ref11_IsName k a0.fName)) (w := fun v1 => (Bo v1)) rfl rfl rfl rfl (p_call rfl rfl rfl rfl rfl (ref11_IsName_ok k a0.fName) (.inl rfl))) ?_
  refine bindE (fun v1 => ?_)
  refine ba 2 5 ⟨[(1, (Pt 1)), (9, (Pt 1)), (10, (Sr a0.fName)), (11, (Bo v1)), (12, (Bo (!v1))), (13, (Bo (!v1)))], [(1, vS 4 (eBase a0))], 232⟩ rfl rfl rfl ?_
  refine bifE (c := (!v1)) (fun hc => ?_) fun hc => ?_
  · rw [hc]
    exact reg_end rfl
  · rw [hc]
    refine ra 5 10 ⟨[(1, (Pt 1)), (9, (Pt 1)), (10, (Sr a0.fName)), (11, (Bo v1)), (12, (Bo false)), (13, (Bo false)), (14, (V.ptr 1 0 1)), (15, (I a0.fKind)), (16, (Bo (decide (a0.fKind < 1)))), (17, (Bo (decide (a0.fKind < 1)))), (18, (Bo (decide (a0.fKind < 1))))], [(1, vS 4 (eBase a0))], 232⟩ rfl rfl rfl ?_
    refine bifE (c := (decide (a0.fKind < 1))) (fun hc => ?_) fun hc => ?_
    · rw [hc]
      exact reg_end rfl
    · rw [hc]
      refine ra 5 15 ⟨[(1, (Pt 1)), (9, (Pt 1)), (10, (Sr a0.fName)), (11, (Bo v1)), (12, (Bo false)), (13, (Bo false)), (14, (V.ptr 1 0 1)), (15, (I a0.fKind)), (16, (Bo false)), (17, (Bo false)), (18, (Bo false)), (19, (V.ptr 1 0 1)), (20, (I a0.fKind)), (21, (Bo (decide (a0.fKind > 4)))), (22, (Bo (decide (a0.fKind > 4)))), (23, (Bo (decide (a0.fKind > 4))))], [(1, vS 4 (eBase a0))], 232⟩ rfl rfl rfl ?_
      refine bifE (c := (decide (a0.fKind > 4))) (fun hc => ?_) fun hc => ?_
      · rw [hc]
        exact reg_end rfl
      · rw [hc]
        refine ra 2 17 ⟨[(1, (Pt 1)), (9, (Pt 1)), (10, (Sr a0.fName)), (11, (Bo v1)), (12, (Bo false)), (13, (Bo false)), (14, (V.ptr 1 0 1)), (15, (I a0.fKind)), (16, (Bo false)), (17, (Bo false)), (18, (Bo false)), (19, (V.ptr 1 0 1)), (20, (I a0.fKind)), (21, (Bo false)), (22, (Bo false)), (23, (Bo false)), (24, (V.ptr 1 0 2)), (25, (sType a0.fTypes))], [(1, vS 4 (eBase a0))], 232⟩ rfl rfl rfl ?_
        refine et (reg_pure (x := some ()) (w := fun _ => (I (a0.fTypes.length : Int))) rfl rfl rfl rfl (p_len (e := eType) rfl rfl rfl rfl rfl rfl underlying22)) ?_
        refine et some_bind ?_
        refine ba 3 21 ⟨[(1, (Pt 1)), (9, (Pt 1)), (10, (Sr a0.fName)), (11, (Bo v1)), (12, (Bo false)), (13, (Bo false)), (14, (V.ptr 1 0 1)), (15, (I a0.fKind)), (16, (Bo false)), (17, (Bo false)), (18, (Bo false)), (19, (V.ptr 1 0 1)), (20, (I a0.fKind)), (21, (Bo false)), (22, (Bo false)), (23, (Bo false)), (24, (V.ptr 1 0 2)), (25, (sType a0.fTypes)), (26, (I (a0.fTypes.length : Int))), (27, (Bo (decide ((a0.fTypes.length : Int) < 1)))), (28, (Bo (decide ((a0.fTypes.length : Int) < 1)))), (29, (Bo (decide ((a0.fTypes.length : Int) < 1))))], [(1, vS 4 (eBase a0))], 232⟩ rfl rfl rfl ?_
        refine bifE (c := (decide ((a0.fTypes.length : Int) < 1))) (fun hc => ?_) fun hc => ?_
        · rw [hc]
          exact reg_end rfl
        · rw [hc]
          refine ra 2 23 ⟨[(1, (Pt 1)), (9, (Pt 1)), (10, (Sr a0.fName)), (11, (Bo v1)), (12, (Bo false)), (13, (Bo false)), (14, (V.ptr 1 0 1)), (15, (I a0.fKind)), (16, (Bo false)), (17, (Bo false)), (18, (Bo false)), (19, (V.ptr 1 0 1)), (20, (I a0.fKind)), (21, (Bo false)), (22, (Bo false)), (23, (Bo false)), (24, (V.ptr 1 0 2)), (25, (sType a0.fTypes)), (26, (I (a0.fTypes.length : Int))), (27, (Bo false)), (28, (Bo false)), (29, (Bo false)), (30, (V.ptr 1 0 2)), (31, (sType a0.fTypes))], [(1, vS 4 (eBase a0))], 232⟩ rfl rfl rfl ?_
          refine et (reg_pure (x := some ()) (w := fun _ => (I (a0.fTypes.length : Int))) rfl rfl rfl rfl (p_len (e := eType) rfl rfl rfl rfl rfl rfl underlying22)) ?_
          refine et some_bind ?_
          refine ba 3 27 ⟨[(1, (Pt 1)), (9, (Pt 1)), (10, (Sr a0.fName)), (11, (Bo v1)), (12, (Bo false)), (13, (Bo false)), (14, (V.ptr 1 0 1)), (15, (I a0.fKind)), (16, (Bo false)), (17, (Bo false)), (18, (Bo false)), (19, (V.ptr 1 0 1)), (20, (I a0.fKind)), (21, (Bo false)), (22, (Bo false)), (23, (Bo false)), (24, (V.ptr 1 0 2)), (25, (sType a0.fTypes)), (26, (I (a0.fTypes.length : Int))), (27, (Bo false)), (28, (Bo false)), (29, (Bo false)), (30, (V.ptr 1 0 2)), (31, (sType a0.fTypes)), (32, (I (a0.fTypes.length : Int))), (33, (Bo (decide ((a0.fTypes.length : Int) > 8)))), (34, (Bo (decide ((a0.fTypes.length : Int) > 8)))), (35, (Bo (decide ((a0.fTypes.length : Int) > 8))))], [(1, vS 4 (eBase a0))], 232⟩ rfl rfl rfl ?_
          refine bifE (c := (decide ((a0.fTypes.length : Int) > 8))) (fun hc => ?_) fun hc => ?_
          · rw [hc]
            exact reg_end rfl
          · rw [hc]
            refine ra 2 29 ⟨[(1, (Pt 1)), (9, (Pt 1)), (10, (Sr a0.fName)), (11, (Bo v1)), (12, (Bo false)), (13, (Bo false)), (14, (V.ptr 1 0 1)), (15, (I a0.fKind)), (16, (Bo false)), (17, (Bo false)), (18, (Bo false)), (19, (V.ptr 1 0 1)), (20, (I a0.fKind)), (21, (Bo false)), (22, (Bo false)), (23, (Bo false)), (24, (V.ptr 1 0 2)), (25, (sType a0.fTypes)), (26, (I (a0.fTypes.length : Int))), (27, (Bo false)), (28, (Bo false)), (29, (Bo false)), (30, (V.ptr 1 0 2)), (31, (sType a0.fTypes)), (32, (I (a0.fTypes.length : Int))), (33, (Bo false)), (34, (Bo false)), (35, (Bo false)), (36, (V.ptr 1 0 3)), (37, (sSearch a0.fIndexes))], [(1, vS 4 (eBase a0))], 232⟩ rfl rfl rfl ?_
            refine et (reg_pure (x := some ()) (w := fun _ => (I (a0.fIndexes.length : Int))) rfl rfl rfl rfl (p_len (e := eSearch) rfl rfl rfl rfl rfl rfl underlying23)) ?_
            refine et some_bind ?_
            exact bind_end rfl
theorem f64r2 (k : Nat) (a0 : T_api_Base) : RE k f64a2 f64o2 false ⟨[(1, (Pt 1)), (40, (Bo true))], [(1, vS 4 (eBase a0))], 232⟩ = some ⟨[(2, (Bo false))], [], 232⟩ :=
  rE rfl
theorem f64r3 (k : Nat) (a0 : T_api_Base) : RE k f64a3 f64o3 false ⟨[(1, (Pt 1)), (40, (Bo false))], [(1, vS 4 (eBase a0))], 232⟩ = some ⟨[(1, (Pt 1)), (3, (I 0))], [(1, vS 4 (eBase a0))], 232⟩ :=
  rE rfl
theorem f64r4 (k : Nat) (a0 : T_api_Base) (x20 : Int) : RE k f64a4 f64o4 false ⟨[(1, (Pt 1)), (3, (I x20))], [(1, vS 4 (eBase a0))], 232⟩ = some ⟨[(1, (Pt 1)), (3, (I x20)), (45, (Bo (decide (x20 < (a0.fTypes.length : Int)))))], [(1, vS 4 (eBase a0))], 232⟩ := by
  refine rg ?_
  refine ra 3 3 ⟨[(1, (Pt 1)), (3, (I x20)), (41, (I x20)), (42, (V.ptr 1 0 2)), (43, (sType a0.fTypes))], [(1, vS 4 (eBase a0))], 232⟩ rfl rfl rfl ?_
  refine et (reg_pure (x := some ()) (w := fun _ => (I (a0.fTypes.length : Int))) rfl rfl rfl rfl (p_len (e := eType) rfl rfl rfl rfl rfl rfl underlying22)) ?_
  refine et some_bind ?_
  exact bind_end rfl
theorem f64r6 (k : Nat) (a0 : T_api_Base) (x20 : Int) : RE k f64a6 f64o6 false ⟨[(1, (Pt 1)), (3, (I x20)), (45, (Bo true))], [(1, vS 4 (eBase a0))], 232⟩ = ((idx a0.fTypes x20)).map (fun (o : T_api_Type) => (⟨[(1, (Pt 1)), (3, (I x20)), (4, (Pt 4))], [(1, vS 4 (eBase a0)), (4, vS 8 (eType o))], 232⟩ : St)) := by
  refine rg ?_
  refine ra 3 3 ⟨[(1, (Pt 1)), (3, (I x20)), (45, (Bo true)), (48, (V.ptr 1 0 2)), (49, (sType a0.fTypes)), (50, (I x20))], [(1, vS 4 (eBase a0))], 232⟩ rfl rfl rfl ?_
  refine et (reg_pure (x := (idx a0.fTypes x20)) (w := fun v21 => (Pr (eType v21))) rfl rfl rfl rfl (p_index (e := eType) rfl rfl rfl underlying22 rfl (by decide))) ?_
  refine bind_self (fun v21 => ?_)
  exact bind_end rfl
theorem f64r7 (k : Nat) (a0 : T_api_Base) (x20 : Int) (o22 : T_api_Type) : RE k f64a7 f64o7 false ⟨[(1, (Pt 1)), (3, (I x20)), (4, (Pt 4))], [(1, vS 4 (eBase a0)), (4, vS 8 (eType o22))], 232⟩ = (((ref11_IsName k o22.fName).bind fun v23 => (bif (!v23) then (some (true)) else (bif (decide (o22.fMin < 1)) then (some (true)) else (bif (decide (o22.fMin > o22.fSize)) then (some (true)) else (bif (decide (o22.fSize > 40)) then (some (true)) else ((ref11_fields k o22).bind fun v24 => (some ((!v24)))))))))).map (fun (o : Bool) => (⟨[(1, (Pt 1)), (3, (I x20)), (4, (Pt 4)), (78, (Bo o))], [(1, vS 4 (eBase a0)), (4, vS 8 (eType o22))], 232⟩ : St)) := by
  refine rg ?_
  refine ra 2 2 ⟨[(1, (Pt 1)), (3, (I x20)), (4, (Pt 4)), (53, (Pt 4)), (54, (Sr o22.fName))], [(1, vS 4 (eBase a0)), (4, vS 8 (eType o22))], 232⟩ rfl rfl rfl ?_
  refine et (reg_pure (x := (ref11_IsName k o22.fName)) (w := fun v23 => (Bo v23)) rfl rfl rfl rfl (p_call rfl rfl rfl rfl rfl (ref11_IsName_ok k o22.fName) (.inl rfl))) ?_
  refine bindE (fun v23 => ?_)
  refine ba 2 5 ⟨[(1, (Pt 1)), (3, (I x20)), (4, (Pt 4)), (53, (Pt 4)), (54, (Sr o22.fName)), (55, (Bo v23)), (56, (Bo (!v23))), (57, (Bo (!v23)))], [(1, vS 4 (eBase a0)), (4, vS 8 (eType o22))], 232⟩ rfl rfl rfl ?_
  refine bifE (c := (!v23)) (fun hc => ?_) fun hc => ?_
  · rw [hc]
    exact reg_end rfl
  · rw [hc]
    refine ra 5 10 ⟨[(1, (Pt 1)), (3, (I x20)), (4, (Pt 4)), (53, (Pt 4)), (54, (Sr o22.fName)), (55, (Bo v23)), (56, (Bo false)), (57, (Bo false)), (58, (V.ptr 4 0 2)), (59, (I o22.fMin)), (60, (Bo (decide (o22.fMin < 1)))), (61, (Bo (decide (o22.fMin < 1)))), (62, (Bo (decide (o22.fMin < 1))))], [(1, vS 4 (eBase a0)), (4, vS 8 (eType o22))], 232⟩ rfl rfl rfl ?_
    refine bifE (c := (decide (o22.fMin < 1))) (fun hc => ?_) fun hc => ?_
    · rw [hc]
      exact reg_end rfl
    · rw [hc]
      refine ra 7 17 ⟨[(1, (Pt 1)), (3, (I x20)), (4, (Pt 4)), (53, (Pt 4)), (54, (Sr o22.fName)), (55, (Bo v23)), (56, (Bo false)), (57, (Bo false)), (58, (V.ptr 4 0 2)), (59, (I o22.fMin)), (60, (Bo false)), (61, (Bo false)), (62, (Bo false)), (63, (V.ptr 4 0 2)), (64, (I o22.fMin)), (65, (V.ptr 4 0 3)), (66, (I o22.fSize)), (67, (Bo (decide (o22.fMin > o22.fSize)))), (68, (Bo (decide (o22.fMin > o22.fSize)))), (69, (Bo (decide (o22.fMin > o22.fSize))))], [(1, vS 4 (eBase a0)), (4, vS 8 (eType o22))], 232⟩ rfl rfl rfl ?_
      refine bifE (c := (decide (o22.fMin > o22.fSize))) (fun hc => ?_) fun hc => ?_
      · rw [hc]
        exact reg_end rfl
      · rw [hc]
        refine ra 5 22 ⟨[(1, (Pt 1)), (3, (I x20)), (4, (Pt 4)), (53, (Pt 4)), (54, (Sr o22.fName)), (55, (Bo v23)), (56, (Bo false)), (57, (Bo false)), (58, (V.ptr 4 0 2)), (59, (I o22.fMin)), (60, (Bo false)), (61, (Bo false)), (62, (Bo false)), (63, (V.ptr 4 0 2)), (64, (I o22.fMin)), (65, (V.ptr 4 0 3)), (66, (I o22.fSize)), (67, (Bo false)), (68, (Bo false)), (69, (Bo false)), (70, (V.ptr 4 0 3)), (71, (I o22.fSize)), (72, (Bo (decide (o22.fSize > 40)))), (73, (Bo (decide (o22.fSize > 40)))), (74, (Bo (decide (o22.fSize > 40))))], [(1, vS 4 (eBase a0)), (4, vS 8 (eType o22))], 232⟩ rfl rfl rfl ?_
        refine bifE (c := (decide (o22.fSize > 40))) (fun hc => ?_) fun hc => ?_
        · rw [hc]
          exact reg_end rfl
        · rw [hc]
          refine ra 1 23 ⟨[(1, (Pt 1)), (3, (I x20)), (4, (Pt 4)), (53, (Pt 4)), (54, (Sr o22.fName)), (55, (Bo v23)), (56, (Bo false)), (57, (Bo false)), (58, (V.ptr 4 0 2)), (59, (I o22.fMin)), (60, (Bo false)), (61, (Bo false)), (62, (Bo false)), (63, (V.ptr 4 0 2)), (64, (I o22.fMin)), (65, (V.ptr 4 0 3)), (66, (I o22.fSize)), (67, (Bo false)), (68, (Bo false)), (69, (Bo false)), (70, (V.ptr 4 0 3)), (71, (I o22.fSize)), (72, (Bo false)), (73, (Bo false)), (74, (Bo false)), (75, (eType o22))], [(1, vS 4 (eBase a0)), (4, vS 8 (eType o22))], 232⟩ rfl rfl rfl ?_
          refine et (reg_pure (x := (ref11_fields k o22)) (w := fun v24 => (Bo v24)) rfl rfl rfl rfl (p_call rfl rfl rfl rfl rfl (ref11_fields_ok k o22) (.inl rfl))) ?_
          refine bindE (fun v24 => ?_)
          exact bind_end rfl
theorem f64r8 (k : Nat) (a0 : T_api_Base) (x20 : Int) (o22 : T_api_Type) : RE k f64a8 f64o8 false ⟨[(1, (Pt 1)), (3, (I x20)), (4, (Pt 4)), (78, (Bo true))], [(1, vS 4 (eBase a0)), (4, vS 8 (eType o22))], 232⟩ = some ⟨[(2, (Bo false))], [], 232⟩ :=
  rE rfl
theorem f64r9 (k : Nat) (a0 : T_api_Base) (x20 : Int) (o22 : T_api_Type) : RE k f64a9 f64o9 false ⟨[(1, (Pt 1)), (3, (I x20)), (4, (Pt 4)), (78, (Bo false))], [(1, vS 4 (eBase a0)), (4, vS 8 (eType o22))], 232⟩ = some ⟨[(1, (Pt 1)), (3, (I x20)), (4, (Pt 4)), (5, (I 0))], [(1, vS 4 (eBase a0)), (4, vS 8 (eType o22))], 232⟩ :=
  rE rfl
theorem f64r10 (k : Nat) (a0 : T_api_Base) (x20 : Int) (o22 : T_api_Type) (x28 : Int) : RE k f64a10 f64o10 false ⟨[(1, (Pt 1)), (3, (I x20)), (4, (Pt 4)), (5, (I x28))], [(1, vS 4 (eBase a0)), (4, vS 8 (eType o22))], 232⟩ = some ⟨[(1, (Pt 1)), (3, (I x20)), (4, (Pt 4)), (5, (I x28)), (81, (Bo (decide (x28 < x20))))], [(1, vS 4 (eBase a0)), (4, vS 8 (eType o22))], 232⟩ :=
  rE rfl
theorem f64r12 (k : Nat) (a0 : T_api_Base) (x20 : Int) (o22 : T_api_Type) (x28 : Int) : RE k f64a12 f64o12 true ⟨[(1, (Pt 1)), (3, (I x20)), (4, (Pt 4)), (5, (I x28)), (81, (Bo true))], [(1, vS 4 (eBase a0)), (4, vS 8 (eType o22))], 232⟩ = (((idx a0.fTypes x28).bind fun v29 => (some ((v29.fName == o22.fName))))).map (fun (o : Bool) => (⟨[(1, (Pt 1)), (3, (I x20)), (4, (Pt 4)), (5, (I x28)), (92, (Bo o))], [(1, vS 4 (eBase a0)), (4, vS 8 (eType o22))], 232⟩ : St)) := by
  refine et (regionE_regp (p := 9) (dk := true) (t := [(1, (Pt 1)), (3, (I x20)), (4, (Pt 4)), (5, (I x28)), (81, (Bo true))]) (σ := [(1, vS 4 (eBase a0)), (4, vS 8 (eType o22))]) (n := 232) rfl (by decide) (by decide) rfl) ?_
  refine et (regp_adv (m := 3) (j := 3) (t' := [(1, (Pt 1)), (3, (I x20)), (4, (Pt 4)), (5, (I x28)), (81, (Bo true)), (84, (V.ptr 1 0 2)), (85, (sType a0.fTypes)), (86, (I x28))]) rfl rfl rfl) ?_
  refine et (regp_pure (x := (idx a0.fTypes x28)) (w := fun v29 => (Pr (eType v29))) rfl rfl rfl rfl rfl (p_index (e := eType) rfl rfl rfl underlying22 rfl (by decide))) ?_
  refine bindE (fun v29 => ?_)
  exact regp_end rfl
theorem f64r13 (k : Nat) (a0 : T_api_Base) (x20 : Int) (o22 : T_api_Type) (x28 : Int) : RE k f64a13 f64o13 false ⟨[(1, (Pt 1)), (3, (I x20)), (4, (Pt 4)), (5, (I x28)), (92, (Bo true))], [(1, vS 4 (eBase a0)), (4, vS 8 (eType o22))], 232⟩ = some ⟨[(2, (Bo false))], [], 232⟩ :=
  rE rfl
theorem f64r11 (k : Nat) (a0 : T_api_Base) (x20 : Int) (o22 : T_api_Type) (x28 : Int) : RE k f64a11 f64o11 false ⟨[(1, (Pt 1)), (3, (I x20)), (4, (Pt 4)), (5, (I x28)), (92, (Bo false))], [(1, vS 4 (eBase a0)), (4, vS 8 (eType o22))], 232⟩ = some ⟨[(1, (Pt 1)), (3, (I x20)), (4, (Pt 4)), (5, (I (Go.IntKind.wrap .i64 (x28 + 1))))], [(1, vS 4 (eBase a0)), (4, vS 8 (eType o22))], 232⟩ :=
  rE rfl
theorem ref11_Valid_L2_ok (k : Nat) (a0 : T_api_Base) (x20 : Int) (o22 : T_api_Type)  (K0 : Int → Option Bool) (Kst : X × St → Option (V × List V)) (hK0 : ∀ (y0 : Int), Kst (X.exit 2, ⟨[(1, (Pt 1)), (3, (I x20)), (4, (Pt 4)), (5, (I y0)), (81, (Bo false))], [(1, vS 4 (eBase a0)), (4, vS 8 (eType o22))], 232⟩) = (K0 y0).map ref11_Valid_fin) (hret : ∀ s, Kst (X.ret, s) = endK prog 232 [(eBase a0)] [] [.tmp 2] (X.ret, s)) :
    ∀ (m : Nat) (x28 : Int), (iter (exec prog (EV k) f64n k f64b0) m ⟨[(1, (Pt 1)), (3, (I x20)), (4, (Pt 4)), (5, (I x28))], [(1, vS 4 (eBase a0)), (4, vS 8 (eType o22))], 232⟩).bind Kst = (ref11_Valid_L2 a0 x20 o22 K0 m x28).map ref11_Valid_fin := by
  intro m
  induction m with
  | zero => intros; rfl
  | succ m ih =>
    intro x28
    unfold ref11_Valid_L2
    refine et k_round ?_
    refine et k_assoc ?_
    refine et (k_region0 rfl (f64r10 k a0 x20 o22 x28)) ?_
    refine et (k_cond (t := (decide (x28 < x20))) rfl rfl) ?_
    refine bifE2 (fun hc => ?_) fun hc => ?_
    · rw [hc]
      refine et k_skip ?_
      refine et (k_block rfl) ?_
      refine et (k_region rfl (f64r12 k a0 x20 o22 x28)) ?_
      refine bindE (fun o30 => ?_)
      refine et (k_lcond (t := o30) rfl rfl) ?_
      refine bifE2 (fun hc => ?_) fun hc => ?_
      · rw [hc]
        refine et (k_region0 rfl (f64r13 k a0 x20 o22 x28)) ?_
        refine et k_lret ?_
        refine et blk_ret ?_
        refine et loop_ret ?_
        refine et (hret _) ?_
        rfl
      · rw [hc]
        refine et k_lskip ?_
        refine et blk_normal ?_
        refine et (k_lregion0 rfl (f64r11 k a0 x20 o22 x28)) ?_
        refine et loop_normal ?_
        exact ih (Go.IntKind.wrap .i64 (x28 + 1))
    · rw [hc]
      refine et k_exit ?_
      refine et loop_exit ?_
      exact hK0 x28
theorem f64r14 (k : Nat) (a0 : T_api_Base) (x20 : Int) (o22 : T_api_Type) (y31 : Int) : RE k f64a14 f64o14 false ⟨[(1, (Pt 1)), (3, (I x20)), (4, (Pt 4)), (5, (I y31)), (81, (Bo false))], [(1, vS 4 (eBase a0)), (4, vS 8 (eType o22))], 232⟩ = some ⟨[(1, (Pt 1)), (3, (I x20)), (4, (Pt 4)), (94, (Bo (x20 == 0)))], [(1, vS 4 (eBase a0)), (4, vS 8 (eType o22))], 232⟩ :=
  rE rfl
theorem f64r15 (k : Nat) (a0 : T_api_Base) (x20 : Int) (o22 : T_api_Type) : RE k f64a15 f64o15 false ⟨[(1, (Pt 1)), (3, (I x20)), (4, (Pt 4)), (94, (Bo true))], [(1, vS 4 (eBase a0)), (4, vS 8 (eType o22))], 232⟩ = ((bif (o22.fParent != (-1)) then (some (true)) else (bif (decide (o22.fKey < 0)) then (some (true)) else (bif (!o22.fUnique) then (some (true)) else ((idx o22.fFields o22.fKey).bind fun v32 => (some ((decide (v32.fBytes > 24))))))))).map (fun (o : Bool) => (⟨[(1, (Pt 1)), (3, (I x20)), (117, (Bo o))], [(1, vS 4 (eBase a0))], 232⟩ : St)) := by
  refine rg ?_
  refine ra 4 4 ⟨[(1, (Pt 1)), (3, (I x20)), (4, (Pt 4)), (94, (Bo true)), (95, (V.ptr 4 0 1)), (96, (I o22.fParent)), (97, (Bo (o22.fParent != (-1)))), (98, (Bo (o22.fParent != (-1))))], [(1, vS 4 (eBase a0)), (4, vS 8 (eType o22))], 232⟩ rfl rfl rfl ?_
  refine bifE (c := (o22.fParent != (-1))) (fun hc => ?_) fun hc => ?_
  · rw [hc]
    exact reg_end rfl
  · rw [hc]
    refine ra 5 9 ⟨[(1, (Pt 1)), (3, (I x20)), (4, (Pt 4)), (94, (Bo true)), (95, (V.ptr 4 0 1)), (96, (I o22.fParent)), (97, (Bo false)), (98, (Bo false)), (99, (V.ptr 4 0 5)), (100, (I o22.fKey)), (101, (Bo (decide (o22.fKey < 0)))), (102, (Bo (decide (o22.fKey < 0)))), (103, (Bo (decide (o22.fKey < 0))))], [(1, vS 4 (eBase a0)), (4, vS 8 (eType o22))], 232⟩ rfl rfl rfl ?_
    refine bifE (c := (decide (o22.fKey < 0))) (fun hc => ?_) fun hc => ?_
    · rw [hc]
      exact reg_end rfl
    · rw [hc]
      refine ra 5 14 ⟨[(1, (Pt 1)), (3, (I x20)), (4, (Pt 4)), (94, (Bo true)), (95, (V.ptr 4 0 1)), (96, (I o22.fParent)), (97, (Bo false)), (98, (Bo false)), (99, (V.ptr 4 0 5)), (100, (I o22.fKey)), (101, (Bo false)), (102, (Bo false)), (103, (Bo false)), (104, (V.ptr 4 0 6)), (105, (Bo o22.fUnique)), (106, (Bo (!o22.fUnique))), (107, (Bo (!o22.fUnique))), (108, (Bo (!o22.fUnique)))], [(1, vS 4 (eBase a0)), (4, vS 8 (eType o22))], 232⟩ rfl rfl rfl ?_
      refine bifE (c := (!o22.fUnique)) (fun hc => ?_) fun hc => ?_
      · rw [hc]
        exact reg_end rfl
      · rw [hc]
        refine ra 4 18 ⟨[(1, (Pt 1)), (3, (I x20)), (4, (Pt 4)), (94, (Bo true)), (95, (V.ptr 4 0 1)), (96, (I o22.fParent)), (97, (Bo false)), (98, (Bo false)), (99, (V.ptr 4 0 5)), (100, (I o22.fKey)), (101, (Bo false)), (102, (Bo false)), (103, (Bo false)), (104, (V.ptr 4 0 6)), (105, (Bo o22.fUnique)), (106, (Bo false)), (107, (Bo false)), (108, (Bo false)), (109, (V.ptr 4 0 4)), (110, (sField o22.fFields)), (111, (V.ptr 4 0 5)), (112, (I o22.fKey))], [(1, vS 4 (eBase a0)), (4, vS 8 (eType o22))], 232⟩ rfl rfl rfl ?_
        refine et (reg_pure (x := (idx o22.fFields o22.fKey)) (w := fun v32 => (Pr (eField v32))) rfl rfl rfl rfl (p_index (e := eField) rfl rfl rfl underlying43 rfl (by decide))) ?_
        refine bindE (fun v32 => ?_)
        exact bind_end rfl
theorem f64r16 (k : Nat) (a0 : T_api_Base) (x20 : Int) : RE k f64a16 f64o16 false ⟨[(1, (Pt 1)), (3, (I x20)), (117, (Bo true))], [(1, vS 4 (eBase a0))], 232⟩ = some ⟨[(2, (Bo false))], [], 232⟩ :=
  rE rfl
theorem f64r5 (k : Nat) (a0 : T_api_Base) (x20 : Int) : RE k f64a5 f64o5 false ⟨[(1, (Pt 1)), (3, (I x20)), (117, (Bo false))], [(1, vS 4 (eBase a0))], 232⟩ = some ⟨[(1, (Pt 1)), (3, (I (Go.IntKind.wrap .i64 (x20 + 1))))], [(1, vS 4 (eBase a0))], 232⟩ :=
  rE rfl
theorem f64r17 (k : Nat) (a0 : T_api_Base) (x20 : Int) (o22 : T_api_Type) : RE k f64a17 f64o17 false ⟨[(1, (Pt 1)), (3, (I x20)), (4, (Pt 4)), (94, (Bo false))], [(1, vS 4 (eBase a0)), (4, vS 8 (eType o22))], 232⟩ = ((bif (decide (o22.fParent < 0)) then (some (true)) else (bif (decide (o22.fParent ≥ x20)) then (some (true)) else (bif (o22.fParent != (Go.IntKind.wrap .i64 (x20 - 1))) then ((ref11_above k a0 o22.fParent (Go.IntKind.wrap .i64 (x20 - 1))).bind fun v34 => (bif (!v34) then (some (true)) else ((ref11_way k a0 x20).bind fun v35 => (some ((decide ((v35.length : Int) > 5))))))) else ((ref11_way k a0 x20).bind fun v36 => (some ((decide ((v36.length : Int) > 5))))))))).map (fun (o : Bool) => (⟨[(1, (Pt 1)), (3, (I x20)), (149, (Bo o))], [(1, vS 4 (eBase a0))], 232⟩ : St)) := by
  refine rg ?_
  refine ra 4 4 ⟨[(1, (Pt 1)), (3, (I x20)), (4, (Pt 4)), (94, (Bo false)), (118, (V.ptr 4 0 1)), (119, (I o22.fParent)), (120, (Bo (decide (o22.fParent < 0)))), (121, (Bo (decide (o22.fParent < 0))))], [(1, vS 4 (eBase a0)), (4, vS 8 (eType o22))], 232⟩ rfl rfl rfl ?_
  refine bifE (c := (decide (o22.fParent < 0))) (fun hc => ?_) fun hc => ?_
  · rw [hc]
    exact reg_end rfl
  · rw [hc]
    refine ra 6 10 ⟨[(1, (Pt 1)), (3, (I x20)), (4, (Pt 4)), (94, (Bo false)), (118, (V.ptr 4 0 1)), (119, (I o22.fParent)), (120, (Bo false)), (121, (Bo false)), (122, (V.ptr 4 0 1)), (123, (I o22.fParent)), (124, (I x20)), (125, (Bo (decide (o22.fParent ≥ x20)))), (126, (Bo (decide (o22.fParent ≥ x20)))), (127, (Bo (decide (o22.fParent ≥ x20))))], [(1, vS 4 (eBase a0)), (4, vS 8 (eType o22))], 232⟩ rfl rfl rfl ?_
    refine bifE (c := (decide (o22.fParent ≥ x20))) (fun hc => ?_) fun hc => ?_
    · rw [hc]
      exact reg_end rfl
    · rw [hc]
      refine ra 6 16 ⟨[(1, (Pt 1)), (3, (I x20)), (4, (Pt 4)), (94, (Bo false)), (118, (V.ptr 4 0 1)), (119, (I o22.fParent)), (120, (Bo false)), (121, (Bo false)), (122, (V.ptr 4 0 1)), (123, (I o22.fParent)), (124, (I x20)), (125, (Bo false)), (126, (Bo false)), (127, (Bo false)), (128, (V.ptr 4 0 1)), (129, (I o22.fParent)), (130, (I x20)), (131, (I (Go.IntKind.wrap .i64 (x20 - 1)))), (132, (Bo (o22.fParent != (Go.IntKind.wrap .i64 (x20 - 1))))), (133, (Bo (o22.fParent != (Go.IntKind.wrap .i64 (x20 - 1)))))], [(1, vS 4 (eBase a0)), (4, vS 8 (eType o22))], 232⟩ rfl rfl rfl ?_
      refine bifE (c := (o22.fParent != (Go.IntKind.wrap .i64 (x20 - 1)))) (fun hc => ?_) fun hc => ?_
      · rw [hc]
        refine ra 5 21 ⟨[(1, (Pt 1)), (3, (I x20)), (4, (Pt 4)), (94, (Bo false)), (118, (V.ptr 4 0 1)), (119, (I o22.fParent)), (120, (Bo false)), (121, (Bo false)), (122, (V.ptr 4 0 1)), (123, (I o22.fParent)), (124, (I x20)), (125, (Bo false)), (126, (Bo false)), (127, (Bo false)), (128, (V.ptr 4 0 1)), (129, (I o22.fParent)), (130, (I x20)), (131, (I (Go.IntKind.wrap .i64 (x20 - 1)))), (132, (Bo true)), (133, (Bo true)), (134, (eBase a0)), (135, (V.ptr 4 0 1)), (136, (I o22.fParent)), (137, (I x20)), (138, (I (Go.IntKind.wrap .i64 (x20 - 1))))], [(1, vS 4 (eBase a0)), (4, vS 8 (eType o22))], 232⟩ rfl rfl rfl ?_
        refine et (reg_pure (x := (ref11_above k a0 o22.fParent (Go.IntKind.wrap .i64 (x20 - 1)))) (w := fun v34 => (Bo v34)) rfl rfl rfl rfl (p_call rfl rfl rfl rfl rfl (ref11_above_ok k a0 o22.fParent (Go.IntKind.wrap .i64 (x20 - 1))) (.inl rfl))) ?_
        refine bindE (fun v34 => ?_)
        refine ba 4 26 ⟨[(1, (Pt 1)), (3, (I x20)), (4, (Pt 4)), (94, (Bo false)), (118, (V.ptr 4 0 1)), (119, (I o22.fParent)), (120, (Bo false)), (121, (Bo false)), (122, (V.ptr 4 0 1)), (123, (I o22.fParent)), (124, (I x20)), (125, (Bo false)), (126, (Bo false)), (127, (Bo false)), (128, (V.ptr 4 0 1)), (129, (I o22.fParent)), (130, (I x20)), (131, (I (Go.IntKind.wrap .i64 (x20 - 1)))), (132, (Bo true)), (133, (Bo true)), (134, (eBase a0)), (135, (V.ptr 4 0 1)), (136, (I o22.fParent)), (137, (I x20)), (138, (I (Go.IntKind.wrap .i64 (x20 - 1)))), (139, (Bo v34)), (140, (Bo (!v34))), (141, (Bo (!v34))), (142, (Bo (!v34))), (143, (Bo (!v34)))], [(1, vS 4 (eBase a0)), (4, vS 8 (eType o22))], 232⟩ rfl rfl rfl ?_
        refine bifE (c := (!v34)) (fun hc => ?_) fun hc => ?_
        · rw [hc]
          exact reg_end rfl
        · rw [hc]
          refine ra 2 28 ⟨[(1, (Pt 1)), (3, (I x20)), (4, (Pt 4)), (94, (Bo false)), (118, (V.ptr 4 0 1)), (119, (I o22.fParent)), (120, (Bo false)), (121, (Bo false)), (122, (V.ptr 4 0 1)), (123, (I o22.fParent)), (124, (I x20)), (125, (Bo false)), (126, (Bo false)), (127, (Bo false)), (128, (V.ptr 4 0 1)), (129, (I o22.fParent)), (130, (I x20)), (131, (I (Go.IntKind.wrap .i64 (x20 - 1)))), (132, (Bo true)), (133, (Bo true)), (134, (eBase a0)), (135, (V.ptr 4 0 1)), (136, (I o22.fParent)), (137, (I x20)), (138, (I (Go.IntKind.wrap .i64 (x20 - 1)))), (139, (Bo v34)), (140, (Bo false)), (141, (Bo false)), (142, (Bo false)), (143, (Bo false)), (144, (eBase a0)), (145, (I x20))], [(1, vS 4 (eBase a0)), (4, vS 8 (eType o22))], 232⟩ rfl rfl rfl ?_
          refine et (reg_pure (x := (ref11_way k a0 x20)) (w := fun v35 => (sI v35)) rfl rfl rfl rfl (p_call rfl rfl rfl rfl rfl (ref11_way_ok k a0 x20) (.inl rfl))) ?_
          refine bindE (fun v35 => ?_)
          refine ba 0 29 ⟨[(1, (Pt 1)), (3, (I x20)), (4, (Pt 4)), (94, (Bo false)), (118, (V.ptr 4 0 1)), (119, (I o22.fParent)), (120, (Bo false)), (121, (Bo false)), (122, (V.ptr 4 0 1)), (123, (I o22.fParent)), (124, (I x20)), (125, (Bo false)), (126, (Bo false)), (127, (Bo false)), (128, (V.ptr 4 0 1)), (129, (I o22.fParent)), (130, (I x20)), (131, (I (Go.IntKind.wrap .i64 (x20 - 1)))), (132, (Bo true)), (133, (Bo true)), (134, (eBase a0)), (135, (V.ptr 4 0 1)), (136, (I o22.fParent)), (137, (I x20)), (138, (I (Go.IntKind.wrap .i64 (x20 - 1)))), (139, (Bo v34)), (140, (Bo false)), (141, (Bo false)), (142, (Bo false)), (143, (Bo false)), (144, (eBase a0)), (145, (I x20)), (146, (sI v35))], [(1, vS 4 (eBase a0)), (4, vS 8 (eType o22))], 232⟩ rfl rfl rfl ?_
          refine et (reg_pure (x := some ()) (w := fun _ => (I (v35.length : Int))) rfl rfl rfl rfl (p_len (e := I) rfl rfl rfl rfl rfl rfl underlying87)) ?_
          refine et some_bind ?_
          exact bind_end rfl
      · rw [hc]
        refine ra 12 28 ⟨[(1, (Pt 1)), (3, (I x20)), (4, (Pt 4)), (94, (Bo false)), (118, (V.ptr 4 0 1)), (119, (I o22.fParent)), (120, (Bo false)), (121, (Bo false)), (122, (V.ptr 4 0 1)), (123, (I o22.fParent)), (124, (I x20)), (125, (Bo false)), (126, (Bo false)), (127, (Bo false)), (128, (V.ptr 4 0 1)), (129, (I o22.fParent)), (130, (I x20)), (131, (I (Go.IntKind.wrap .i64 (x20 - 1)))), (132, (Bo false)), (133, (Bo false)), (134, (V.tup [])), (135, (V.tup [])), (136, (V.tup [])), (137, (V.tup [])), (138, (V.tup [])), (139, (V.tup [])), (140, (V.tup [])), (141, (Bo false)), (142, (Bo false)), (143, (Bo false)), (144, (eBase a0)), (145, (I x20))], [(1, vS 4 (eBase a0)), (4, vS 8 (eType o22))], 232⟩ rfl rfl rfl ?_
        refine et (reg_pure (x := (ref11_way k a0 x20)) (w := fun v36 => (sI v36)) rfl rfl rfl rfl (p_call rfl rfl rfl rfl rfl (ref11_way_ok k a0 x20) (.inl rfl))) ?_
        refine bindE (fun v36 => ?_)
        refine ba 0 29 ⟨[(1, (Pt 1)), (3, (I x20)), (4, (Pt 4)), (94, (Bo false)), (118, (V.ptr 4 0 1)), (119, (I o22.fParent)), (120, (Bo false)), (121, (Bo false)), (122, (V.ptr 4 0 1)), (123, (I o22.fParent)), (124, (I x20)), (125, (Bo false)), (126, (Bo false)), (127, (Bo false)), (128, (V.ptr 4 0 1)), (129, (I o22.fParent)), (130, (I x20)), (131, (I (Go.IntKind.wrap .i64 (x20 - 1)))), (132, (Bo false)), (133, (Bo false)), (134, (V.tup [])), (135, (V.tup [])), (136, (V.tup [])), (137, (V.tup [])), (138, (V.tup [])), (139, (V.tup [])), (140, (V.tup [])), (141, (Bo false)), (142, (Bo false)), (143, (Bo false)), (144, (eBase a0)), (145, (I x20)), (146, (sI v36))], [(1, vS 4 (eBase a0)), (4, vS 8 (eType o22))], 232⟩ rfl rfl rfl ?_
        refine et (reg_pure (x := some ()) (w := fun _ => (I (v36.length : Int))) rfl rfl rfl rfl (p_len (e := I) rfl rfl rfl rfl rfl rfl underlying87)) ?_
        refine et some_bind ?_
        exact bind_end rfl
theorem f64r18 (k : Nat) (a0 : T_api_Base) (x20 : Int) : RE k f64a18 f64o18 false ⟨[(1, (Pt 1)), (3, (I x20)), (149, (Bo true))], [(1, vS 4 (eBase a0))], 232⟩ = some ⟨[(2, (Bo false))], [], 232⟩ :=
  rE rfl
theorem ref11_Valid_r5' (k : Nat) (a0 : T_api_Base) (x20 : Int) : RE k f64a5 f64o5 false ⟨[(1, (Pt 1)), (3, (I x20)), (149, (Bo false))], [(1, vS 4 (eBase a0))], 232⟩ = some ⟨[(1, (Pt 1)), (3, (I (Go.IntKind.wrap .i64 (x20 + 1))))], [(1, vS 4 (eBase a0))], 232⟩ :=
  rE rfl
theorem ref11_Valid_L1_ok (k : Nat) (a0 : T_api_Base)  (K0 : Int → Option Bool) (Kst : X × St → Option (V × List V)) (hK0 : ∀ (y0 : Int), Kst (X.exit 0, ⟨[(1, (Pt 1)), (3, (I y0)), (45, (Bo false))], [(1, vS 4 (eBase a0))], 232⟩) = (K0 y0).map ref11_Valid_fin) (hret : ∀ s, Kst (X.ret, s) = endK prog 232 [(eBase a0)] [] [.tmp 2] (X.ret, s)) :
    ∀ (m : Nat) (x20 : Int), (iter (exec prog (EV k) f64n k f64b1) m ⟨[(1, (Pt 1)), (3, (I x20))], [(1, vS 4 (eBase a0))], 232⟩).bind Kst = (ref11_Valid_L1 k a0 K0 m x20).map ref11_Valid_fin := by
  intro m
  induction m with
  | zero => intros; rfl
  | succ m ih =>
    intro x20
    unfold ref11_Valid_L1
    refine et k_round ?_
    refine et k_assoc ?_
    refine et (k_region0 rfl (f64r4 k a0 x20)) ?_
    refine et (k_cond (t := (decide (x20 < (a0.fTypes.length : Int)))) rfl rfl) ?_
    refine bifE2 (fun hc => ?_) fun hc => ?_
    · rw [hc]
      refine et k_skip ?_
      refine et (k_block rfl) ?_
      refine et (k_region rfl (f64r6 k a0 x20)) ?_
      refine bindE (fun o22 => ?_)
      refine et k_assoc ?_
      refine et (k_region rfl (f64r7 k a0 x20 o22)) ?_
      refine bindE (fun o25 => ?_)
      refine et (k_cond (t := o25) rfl rfl) ?_
      refine bifE2 (fun hc => ?_) fun hc => ?_
      · rw [hc]
        refine et k_assoc ?_
        refine et (k_region0 rfl (f64r8 k a0 x20 o22)) ?_
        refine et k_ret ?_
        refine et blk_ret ?_
        refine et loop_ret ?_
        refine et (hret _) ?_
        rfl
      · rw [hc]
        refine et k_skip ?_
        refine et k_assoc ?_
        refine et (k_region0 rfl (f64r9 k a0 x20 o22)) ?_
        refine et (k_block rfl) ?_
        refine et k_loop ?_
        refine ref11_Valid_L2_ok k a0 x20 o22 _ _ ?h_ref11_Valid_L2_0 ?hr_ref11_Valid_L2 k 0
        · intro y31
          refine et blk_exit ?_
          refine et k_assoc ?_
          refine et (k_region0 rfl (f64r14 k a0 x20 o22 y31)) ?_
          refine et (k_cond (t := (x20 == 0)) rfl rfl) ?_
          refine bifE2 (fun hc => ?_) fun hc => ?_
          · rw [hc]
            refine et k_assoc ?_
            refine et k_assoc ?_
            refine et (k_region rfl (f64r15 k a0 x20 o22)) ?_
            refine bindE (fun o33 => ?_)
            refine et (k_cond (t := o33) rfl rfl) ?_
            refine bifE2 (fun hc => ?_) fun hc => ?_
            · rw [hc]
              refine et k_assoc ?_
              refine et (k_region0 rfl (f64r16 k a0 x20)) ?_
              refine et k_ret ?_
              refine et blk_ret ?_
              refine et loop_ret ?_
              refine et (hret _) ?_
              rfl
            · rw [hc]
              refine et k_skip ?_
              refine et k_exit ?_
              refine et blk_exit ?_
              refine et (k_lregion0 rfl (f64r5 k a0 x20)) ?_
              refine et loop_normal ?_
              exact ih (Go.IntKind.wrap .i64 (x20 + 1))
          · rw [hc]
            refine et k_skip ?_
            refine et (k_region rfl (f64r17 k a0 x20 o22)) ?_
            refine bindE (fun o37 => ?_)
            refine et (k_lcond (t := o37) rfl rfl) ?_
            refine bifE2 (fun hc => ?_) fun hc => ?_
            · rw [hc]
              refine et (k_region0 rfl (f64r18 k a0 x20)) ?_
              refine et k_lret ?_
              refine et blk_ret ?_
              refine et loop_ret ?_
              refine et (hret _) ?_
              rfl
            · rw [hc]
              refine et k_lskip ?_
              refine et blk_normal ?_
              refine et (k_lregion0 rfl (ref11_Valid_r5' k a0 x20)) ?_
              refine et loop_normal ?_
              exact ih (Go.IntKind.wrap .i64 (x20 + 1))
        · intro s; exact hret s
    · rw [hc]
      refine et k_exit ?_
      refine et loop_exit ?_
      exact hK0 x20
theorem f64r19 (k : Nat) (a0 : T_api_Base) (y38 : Int) : RE k f64a19 f64o19 false ⟨[(1, (Pt 1)), (3, (I y38)), (45, (Bo false))], [(1, vS 4 (eBase a0))], 232⟩ = some ⟨[(1, (Pt 1)), (6, (I 0))], [(1, vS 4 (eBase a0))], 232⟩ :=
  rE rfl
theorem f64r20 (k : Nat) (a0 : T_api_Base) (x52 : Int) : RE k f64a20 f64o20 false ⟨[(1, (Pt 1)), (6, (I x52))], [(1, vS 4 (eBase a0))], 232⟩ = some ⟨[(1, (Pt 1)), (6, (I x52)), (154, (Bo (decide (x52 < (a0.fIndexes.length : Int)))))], [(1, vS 4 (eBase a0))], 232⟩ := by
  refine rg ?_
  refine ra 3 3 ⟨[(1, (Pt 1)), (6, (I x52)), (150, (I x52)), (151, (V.ptr 1 0 3)), (152, (sSearch a0.fIndexes))], [(1, vS 4 (eBase a0))], 232⟩ rfl rfl rfl ?_
  refine et (reg_pure (x := some ()) (w := fun _ => (I (a0.fIndexes.length : Int))) rfl rfl rfl rfl (p_len (e := eSearch) rfl rfl rfl rfl rfl rfl underlying23)) ?_
  refine et some_bind ?_
  exact bind_end rfl
theorem f64r22 (k : Nat) (a0 : T_api_Base) (x52 : Int) : RE k f64a22 f64o22 false ⟨[(1, (Pt 1)), (6, (I x52)), (154, (Bo true))], [(1, vS 4 (eBase a0))], 232⟩ = ((idx a0.fIndexes x52)).map (fun (o : T_api_Search) => (⟨[(1, (Pt 1)), (6, (I x52)), (7, (Pt 7))], [(1, vS 4 (eBase a0)), (7, vS 4 (eSearch o))], 232⟩ : St)) := by
  refine rg ?_
  refine ra 3 3 ⟨[(1, (Pt 1)), (6, (I x52)), (154, (Bo true)), (157, (V.ptr 1 0 3)), (158, (sSearch a0.fIndexes)), (159, (I x52))], [(1, vS 4 (eBase a0))], 232⟩ rfl rfl rfl ?_
  refine et (reg_pure (x := (idx a0.fIndexes x52)) (w := fun v53 => (Pr (eSearch v53))) rfl rfl rfl rfl (p_index (e := eSearch) rfl rfl rfl underlying23 rfl (by decide))) ?_
  refine bind_self (fun v53 => ?_)
  exact bind_end rfl
theorem f64r23 (k : Nat) (a0 : T_api_Base) (x52 : Int) (o54 : T_api_Search) : RE k f64a23 f64o23 true ⟨[(1, (Pt 1)), (6, (I x52)), (7, (Pt 7))], [(1, vS 4 (eBase a0)), (7, vS 4 (eSearch o54))], 232⟩ = (((ref11_IsName k o54.fName).bind fun v55 => (bif (!v55) then (some (true)) else (bif (decide (o54.fType < 0)) then (some (true)) else (bif (decide (o54.fType ≥ (a0.fTypes.length : Int))) then (some (true)) else (bif (decide (o54.fField < 0)) then (some (true)) else ((idx a0.fTypes o54.fType).bind fun v56 => (bif (decide (o54.fField ≥ (v56.fFields.length : Int))) then (some (true)) else ((idx a0.fTypes o54.fType).bind fun v57 => ((idx v57.fFields o54.fField).bind fun v58 => (bif (decide (v58.fBytes > 20)) then (some (true)) else (some ((decide ((o54.fSparse.length : Int) > 1))))))))))))))).map (fun (o : Bool) => (⟨[(1, (Pt 1)), (6, (I x52)), (7, (Pt 7)), (217, (Bo o))], [(1, vS 4 (eBase a0)), (7, vS 4 (eSearch o54))], 232⟩ : St)) := by
  refine et (regionE_regp (p := 56) (dk := true) (t := [(1, (Pt 1)), (6, (I x52)), (7, (Pt 7))]) (σ := [(1, vS 4 (eBase a0)), (7, vS 4 (eSearch o54))]) (n := 232) rfl (by decide) (by decide) rfl) ?_
  refine et (regp_adv (m := 2) (j := 2) (t' := [(1, (Pt 1)), (6, (I x52)), (7, (Pt 7)), (162, (Pt 7)), (163, (Sr o54.fName))]) rfl rfl rfl) ?_
  refine et (regp_pure (x := (ref11_IsName k o54.fName)) (w := fun v55 => (Bo v55)) rfl rfl rfl rfl rfl (p_call rfl rfl rfl rfl rfl (ref11_IsName_ok k o54.fName) (.inl rfl))) ?_
  refine bindE (fun v55 => ?_)
  refine et (putp_adv (m := 2) (j := 5) (t' := [(1, (Pt 1)), (6, (I x52)), (7, (Pt 7)), (162, (Pt 7)), (163, (Sr o54.fName)), (164, (Bo v55)), (165, (Bo (!v55))), (166, (Bo (!v55)))]) rfl rfl rfl) ?_
  refine bifE (c := (!v55)) (fun hc => ?_) fun hc => ?_
  · rw [hc]
    exact regp_end rfl
  · rw [hc]
    refine et (regp_adv (m := 5) (j := 10) (t' := [(1, (Pt 1)), (6, (I x52)), (7, (Pt 7)), (162, (Pt 7)), (163, (Sr o54.fName)), (164, (Bo v55)), (165, (Bo false)), (166, (Bo false)), (167, (V.ptr 7 0 1)), (168, (I o54.fType)), (169, (Bo (decide (o54.fType < 0)))), (170, (Bo (decide (o54.fType < 0)))), (171, (Bo (decide (o54.fType < 0))))]) rfl rfl rfl) ?_
    refine bifE (c := (decide (o54.fType < 0))) (fun hc => ?_) fun hc => ?_
    · rw [hc]
      exact regp_end rfl
    · rw [hc]
      refine et (regp_adv (m := 4) (j := 14) (t' := [(1, (Pt 1)), (6, (I x52)), (7, (Pt 7)), (162, (Pt 7)), (163, (Sr o54.fName)), (164, (Bo v55)), (165, (Bo false)), (166, (Bo false)), (167, (V.ptr 7 0 1)), (168, (I o54.fType)), (169, (Bo false)), (170, (Bo false)), (171, (Bo false)), (172, (V.ptr 7 0 1)), (173, (I o54.fType)), (174, (V.ptr 1 0 2)), (175, (sType a0.fTypes))]) rfl rfl rfl) ?_
      refine et (regp_pure (x := some ()) (w := fun _ => (I (a0.fTypes.length : Int))) rfl rfl rfl rfl rfl (p_len (e := eType) rfl rfl rfl rfl rfl rfl underlying22)) ?_
      refine et some_bind ?_
      refine et (putp_adv (m := 3) (j := 18) (t' := [(1, (Pt 1)), (6, (I x52)), (7, (Pt 7)), (162, (Pt 7)), (163, (Sr o54.fName)), (164, (Bo v55)), (165, (Bo false)), (166, (Bo false)), (167, (V.ptr 7 0 1)), (168, (I o54.fType)), (169, (Bo false)), (170, (Bo false)), (171, (Bo false)), (172, (V.ptr 7 0 1)), (173, (I o54.fType)), (174, (V.ptr 1 0 2)), (175, (sType a0.fTypes)), (176, (I (a0.fTypes.length : Int))), (177, (Bo (decide (o54.fType ≥ (a0.fTypes.length : Int))))), (178, (Bo (decide (o54.fType ≥ (a0.fTypes.length : Int))))), (179, (Bo (decide (o54.fType ≥ (a0.fTypes.length : Int)))))]) rfl rfl rfl) ?_
      refine bifE (c := (decide (o54.fType ≥ (a0.fTypes.length : Int)))) (fun hc => ?_) fun hc => ?_
      · rw [hc]
        exact regp_end rfl
      · rw [hc]
        refine et (regp_adv (m := 5) (j := 23) (t' := [(1, (Pt 1)), (6, (I x52)), (7, (Pt 7)), (162, (Pt 7)), (163, (Sr o54.fName)), (164, (Bo v55)), (165, (Bo false)), (166, (Bo false)), (167, (V.ptr 7 0 1)), (168, (I o54.fType)), (169, (Bo false)), (170, (Bo false)), (171, (Bo false)), (172, (V.ptr 7 0 1)), (173, (I o54.fType)), (174, (V.ptr 1 0 2)), (175, (sType a0.fTypes)), (176, (I (a0.fTypes.length : Int))), (177, (Bo false)), (178, (Bo false)), (179, (Bo false)), (180, (V.ptr 7 0 2)), (181, (I o54.fField)), (182, (Bo (decide (o54.fField < 0)))), (183, (Bo (decide (o54.fField < 0)))), (184, (Bo (decide (o54.fField < 0))))]) rfl rfl rfl) ?_
        refine bifE (c := (decide (o54.fField < 0))) (fun hc => ?_) fun hc => ?_
        · rw [hc]
          exact regp_end rfl
        · rw [hc]
          refine et (regp_adv (m := 6) (j := 29) (t' := [(1, (Pt 1)), (6, (I x52)), (7, (Pt 7)), (162, (Pt 7)), (163, (Sr o54.fName)), (164, (Bo v55)), (165, (Bo false)), (166, (Bo false)), (167, (V.ptr 7 0 1)), (168, (I o54.fType)), (169, (Bo false)), (170, (Bo false)), (171, (Bo false)), (172, (V.ptr 7 0 1)), (173, (I o54.fType)), (174, (V.ptr 1 0 2)), (175, (sType a0.fTypes)), (176, (I (a0.fTypes.length : Int))), (177, (Bo false)), (178, (Bo false)), (179, (Bo false)), (180, (V.ptr 7 0 2)), (181, (I o54.fField)), (182, (Bo false)), (183, (Bo false)), (184, (Bo false)), (185, (V.ptr 7 0 2)), (186, (I o54.fField)), (187, (V.ptr 1 0 2)), (188, (sType a0.fTypes)), (189, (V.ptr 7 0 1)), (190, (I o54.fType))]) rfl rfl rfl) ?_
          refine et (regp_pure (x := (idx a0.fTypes o54.fType)) (w := fun v56 => (Pr (eType v56))) rfl rfl rfl rfl rfl (p_index (e := eType) rfl rfl rfl underlying22 rfl (by decide))) ?_
          refine bindE (fun v56 => ?_)
          refine et (putp_adv (m := 2) (j := 32) (t' := [(1, (Pt 1)), (6, (I x52)), (7, (Pt 7)), (162, (Pt 7)), (163, (Sr o54.fName)), (164, (Bo v55)), (165, (Bo false)), (166, (Bo false)), (167, (V.ptr 7 0 1)), (168, (I o54.fType)), (169, (Bo false)), (170, (Bo false)), (171, (Bo false)), (172, (V.ptr 7 0 1)), (173, (I o54.fType)), (174, (V.ptr 1 0 2)), (175, (sType a0.fTypes)), (176, (I (a0.fTypes.length : Int))), (177, (Bo false)), (178, (Bo false)), (179, (Bo false)), (180, (V.ptr 7 0 2)), (181, (I o54.fField)), (182, (Bo false)), (183, (Bo false)), (184, (Bo false)), (185, (V.ptr 7 0 2)), (186, (I o54.fField)), (187, (V.ptr 1 0 2)), (188, (sType a0.fTypes)), (189, (V.ptr 7 0 1)), (190, (I o54.fType)), (191, (Pr (eType v56))), (192, (Pr (sField v56.fFields))), (193, (sField v56.fFields))]) rfl rfl rfl) ?_
          refine et (regp_pure (x := some ()) (w := fun _ => (I (v56.fFields.length : Int))) rfl rfl rfl rfl rfl (p_len (e := eField) rfl rfl rfl rfl rfl rfl underlying43)) ?_
          refine et some_bind ?_
          refine et (putp_adv (m := 3) (j := 36) (t' := [(1, (Pt 1)), (6, (I x52)), (7, (Pt 7)), (162, (Pt 7)), (163, (Sr o54.fName)), (164, (Bo v55)), (165, (Bo false)), (166, (Bo false)), (167, (V.ptr 7 0 1)), (168, (I o54.fType)), (169, (Bo false)), (170, (Bo false)), (171, (Bo false)), (172, (V.ptr 7 0 1)), (173, (I o54.fType)), (174, (V.ptr 1 0 2)), (175, (sType a0.fTypes)), (176, (I (a0.fTypes.length : Int))), (177, (Bo false)), (178, (Bo false)), (179, (Bo false)), (180, (V.ptr 7 0 2)), (181, (I o54.fField)), (182, (Bo false)), (183, (Bo false)), (184, (Bo false)), (185, (V.ptr 7 0 2)), (186, (I o54.fField)), (187, (V.ptr 1 0 2)), (188, (sType a0.fTypes)), (189, (V.ptr 7 0 1)), (190, (I o54.fType)), (191, (Pr (eType v56))), (192, (Pr (sField v56.fFields))), (193, (sField v56.fFields)), (194, (I (v56.fFields.length : Int))), (195, (Bo (decide (o54.fField ≥ (v56.fFields.length : Int))))), (196, (Bo (decide (o54.fField ≥ (v56.fFields.length : Int))))), (197, (Bo (decide (o54.fField ≥ (v56.fFields.length : Int)))))]) rfl rfl rfl) ?_
          refine bifE (c := (decide (o54.fField ≥ (v56.fFields.length : Int)))) (fun hc => ?_) fun hc => ?_
          · rw [hc]
            exact regp_end rfl
          · rw [hc]
            refine et (regp_adv (m := 4) (j := 40) (t' := [(1, (Pt 1)), (6, (I x52)), (7, (Pt 7)), (162, (Pt 7)), (163, (Sr o54.fName)), (164, (Bo v55)), (165, (Bo false)), (166, (Bo false)), (167, (V.ptr 7 0 1)), (168, (I o54.fType)), (169, (Bo false)), (170, (Bo false)), (171, (Bo false)), (172, (V.ptr 7 0 1)), (173, (I o54.fType)), (174, (V.ptr 1 0 2)), (175, (sType a0.fTypes)), (176, (I (a0.fTypes.length : Int))), (177, (Bo false)), (178, (Bo false)), (179, (Bo false)), (180, (V.ptr 7 0 2)), (181, (I o54.fField)), (182, (Bo false)), (183, (Bo false)), (184, (Bo false)), (185, (V.ptr 7 0 2)), (186, (I o54.fField)), (187, (V.ptr 1 0 2)), (188, (sType a0.fTypes)), (189, (V.ptr 7 0 1)), (190, (I o54.fType)), (191, (Pr (eType v56))), (192, (Pr (sField v56.fFields))), (193, (sField v56.fFields)), (194, (I (v56.fFields.length : Int))), (195, (Bo false)), (196, (Bo false)), (197, (Bo false)), (198, (V.ptr 1 0 2)), (199, (sType a0.fTypes)), (200, (V.ptr 7 0 1)), (201, (I o54.fType))]) rfl rfl rfl) ?_
            refine et (regp_pure (x := (idx a0.fTypes o54.fType)) (w := fun v57 => (Pr (eType v57))) rfl rfl rfl rfl rfl (p_index (e := eType) rfl rfl rfl underlying22 rfl (by decide))) ?_
            refine bindE (fun v57 => ?_)
            refine et (putp_adv (m := 4) (j := 45) (t' := [(1, (Pt 1)), (6, (I x52)), (7, (Pt 7)), (162, (Pt 7)), (163, (Sr o54.fName)), (164, (Bo v55)), (165, (Bo false)), (166, (Bo false)), (167, (V.ptr 7 0 1)), (168, (I o54.fType)), (169, (Bo false)), (170, (Bo false)), (171, (Bo false)), (172, (V.ptr 7 0 1)), (173, (I o54.fType)), (174, (V.ptr 1 0 2)), (175, (sType a0.fTypes)), (176, (I (a0.fTypes.length : Int))), (177, (Bo false)), (178, (Bo false)), (179, (Bo false)), (180, (V.ptr 7 0 2)), (181, (I o54.fField)), (182, (Bo false)), (183, (Bo false)), (184, (Bo false)), (185, (V.ptr 7 0 2)), (186, (I o54.fField)), (187, (V.ptr 1 0 2)), (188, (sType a0.fTypes)), (189, (V.ptr 7 0 1)), (190, (I o54.fType)), (191, (Pr (eType v56))), (192, (Pr (sField v56.fFields))), (193, (sField v56.fFields)), (194, (I (v56.fFields.length : Int))), (195, (Bo false)), (196, (Bo false)), (197, (Bo false)), (198, (V.ptr 1 0 2)), (199, (sType a0.fTypes)), (200, (V.ptr 7 0 1)), (201, (I o54.fType)), (202, (Pr (eType v57))), (203, (Pr (sField v57.fFields))), (204, (sField v57.fFields)), (205, (V.ptr 7 0 2)), (206, (I o54.fField))]) rfl rfl rfl) ?_
            refine et (regp_pure (x := (idx v57.fFields o54.fField)) (w := fun v58 => (Pr (eField v58))) rfl rfl rfl rfl rfl (p_index (e := eField) rfl rfl rfl underlying43 rfl (by decide))) ?_
            refine bindE (fun v58 => ?_)
            refine et (putp_adv (m := 5) (j := 51) (t' := [(1, (Pt 1)), (6, (I x52)), (7, (Pt 7)), (162, (Pt 7)), (163, (Sr o54.fName)), (164, (Bo v55)), (165, (Bo false)), (166, (Bo false)), (167, (V.ptr 7 0 1)), (168, (I o54.fType)), (169, (Bo false)), (170, (Bo false)), (171, (Bo false)), (172, (V.ptr 7 0 1)), (173, (I o54.fType)), (174, (V.ptr 1 0 2)), (175, (sType a0.fTypes)), (176, (I (a0.fTypes.length : Int))), (177, (Bo false)), (178, (Bo false)), (179, (Bo false)), (180, (V.ptr 7 0 2)), (181, (I o54.fField)), (182, (Bo false)), (183, (Bo false)), (184, (Bo false)), (185, (V.ptr 7 0 2)), (186, (I o54.fField)), (187, (V.ptr 1 0 2)), (188, (sType a0.fTypes)), (189, (V.ptr 7 0 1)), (190, (I o54.fType)), (191, (Pr (eType v56))), (192, (Pr (sField v56.fFields))), (193, (sField v56.fFields)), (194, (I (v56.fFields.length : Int))), (195, (Bo false)), (196, (Bo false)), (197, (Bo false)), (198, (V.ptr 1 0 2)), (199, (sType a0.fTypes)), (200, (V.ptr 7 0 1)), (201, (I o54.fType)), (202, (Pr (eType v57))), (203, (Pr (sField v57.fFields))), (204, (sField v57.fFields)), (205, (V.ptr 7 0 2)), (206, (I o54.fField)), (207, (Pr (eField v58))), (208, (Pr (I v58.fBytes))), (209, (I v58.fBytes)), (210, (Bo (decide (v58.fBytes > 20)))), (211, (Bo (decide (v58.fBytes > 20)))), (212, (Bo (decide (v58.fBytes > 20))))]) rfl rfl rfl) ?_
            refine bifE (c := (decide (v58.fBytes > 20))) (fun hc => ?_) fun hc => ?_
            · rw [hc]
              exact regp_end rfl
            · rw [hc]
              exact regp_end rfl
theorem f64r24 (k : Nat) (a0 : T_api_Base) (x52 : Int) (o54 : T_api_Search) : RE k f64a24 f64o24 false ⟨[(1, (Pt 1)), (6, (I x52)), (7, (Pt 7)), (217, (Bo true))], [(1, vS 4 (eBase a0)), (7, vS 4 (eSearch o54))], 232⟩ = some ⟨[(2, (Bo false))], [], 232⟩ :=
  rE rfl
theorem f64r25 (k : Nat) (a0 : T_api_Base) (x52 : Int) (o54 : T_api_Search) : RE k f64a25 f64o25 false ⟨[(1, (Pt 1)), (6, (I x52)), (7, (Pt 7)), (217, (Bo false))], [(1, vS 4 (eBase a0)), (7, vS 4 (eSearch o54))], 232⟩ = some ⟨[(1, (Pt 1)), (6, (I x52)), (7, (Pt 7)), (8, (I 0))], [(1, vS 4 (eBase a0)), (7, vS 4 (eSearch o54))], 232⟩ :=
  rE rfl
theorem f64r26 (k : Nat) (a0 : T_api_Base) (x52 : Int) (o54 : T_api_Search) (x62 : Int) : RE k f64a26 f64o26 false ⟨[(1, (Pt 1)), (6, (I x52)), (7, (Pt 7)), (8, (I x62))], [(1, vS 4 (eBase a0)), (7, vS 4 (eSearch o54))], 232⟩ = some ⟨[(1, (Pt 1)), (6, (I x52)), (7, (Pt 7)), (8, (I x62)), (220, (Bo (decide (x62 < x52))))], [(1, vS 4 (eBase a0)), (7, vS 4 (eSearch o54))], 232⟩ :=
  rE rfl
theorem f64r28 (k : Nat) (a0 : T_api_Base) (x52 : Int) (o54 : T_api_Search) (x62 : Int) : RE k f64a28 f64o28 true ⟨[(1, (Pt 1)), (6, (I x52)), (7, (Pt 7)), (8, (I x62)), (220, (Bo true))], [(1, vS 4 (eBase a0)), (7, vS 4 (eSearch o54))], 232⟩ = (((idx a0.fIndexes x62).bind fun v63 => (some ((v63.fName == o54.fName))))).map (fun (o : Bool) => (⟨[(1, (Pt 1)), (6, (I x52)), (7, (Pt 7)), (8, (I x62)), (231, (Bo o))], [(1, vS 4 (eBase a0)), (7, vS 4 (eSearch o54))], 232⟩ : St)) := by
  refine et (regionE_regp (p := 9) (dk := true) (t := [(1, (Pt 1)), (6, (I x52)), (7, (Pt 7)), (8, (I x62)), (220, (Bo true))]) (σ := [(1, vS 4 (eBase a0)), (7, vS 4 (eSearch o54))]) (n := 232) rfl (by decide) (by decide) rfl) ?_
  refine et (regp_adv (m := 3) (j := 3) (t' := [(1, (Pt 1)), (6, (I x52)), (7, (Pt 7)), (8, (I x62)), (220, (Bo true)), (223, (V.ptr 1 0 3)), (224, (sSearch a0.fIndexes)), (225, (I x62))]) rfl rfl rfl) ?_
  refine et (regp_pure (x := (idx a0.fIndexes x62)) (w := fun v63 => (Pr (eSearch v63))) rfl rfl rfl rfl rfl (p_index (e := eSearch) rfl rfl rfl underlying23 rfl (by decide))) ?_
  refine bindE (fun v63 => ?_)
  exact regp_end rfl
theorem f64r29 (k : Nat) (a0 : T_api_Base) (x52 : Int) (o54 : T_api_Search) (x62 : Int) : RE k f64a29 f64o29 false ⟨[(1, (Pt 1)), (6, (I x52)), (7, (Pt 7)), (8, (I x62)), (231, (Bo true))], [(1, vS 4 (eBase a0)), (7, vS 4 (eSearch o54))], 232⟩ = some ⟨[(2, (Bo false))], [], 232⟩ :=
  rE rfl
theorem f64r27 (k : Nat) (a0 : T_api_Base) (x52 : Int) (o54 : T_api_Search) (x62 : Int) : RE k f64a27 f64o27 false ⟨[(1, (Pt 1)), (6, (I x52)), (7, (Pt 7)), (8, (I x62)), (231, (Bo false))], [(1, vS 4 (eBase a0)), (7, vS 4 (eSearch o54))], 232⟩ = some ⟨[(1, (Pt 1)), (6, (I x52)), (7, (Pt 7)), (8, (I (Go.IntKind.wrap .i64 (x62 + 1))))], [(1, vS 4 (eBase a0)), (7, vS 4 (eSearch o54))], 232⟩ :=
  rE rfl
theorem ref11_Valid_L4_ok (k : Nat) (a0 : T_api_Base) (x52 : Int) (o54 : T_api_Search)  (K0 : Int → Option Bool) (Kst : X × St → Option (V × List V)) (hK0 : ∀ (y0 : Int), Kst (X.exit 6, ⟨[(1, (Pt 1)), (6, (I x52)), (7, (Pt 7)), (8, (I y0)), (220, (Bo false))], [(1, vS 4 (eBase a0)), (7, vS 4 (eSearch o54))], 232⟩) = (K0 y0).map ref11_Valid_fin) (hret : ∀ s, Kst (X.ret, s) = endK prog 232 [(eBase a0)] [] [.tmp 2] (X.ret, s)) :
    ∀ (m : Nat) (x62 : Int), (iter (exec prog (EV k) f64n k f64b2) m ⟨[(1, (Pt 1)), (6, (I x52)), (7, (Pt 7)), (8, (I x62))], [(1, vS 4 (eBase a0)), (7, vS 4 (eSearch o54))], 232⟩).bind Kst = (ref11_Valid_L4 a0 x52 o54 K0 m x62).map ref11_Valid_fin := by
  intro m
  induction m with
  | zero => intros; rfl
  | succ m ih =>
    intro x62
    unfold ref11_Valid_L4
    refine et k_round ?_
    refine et k_assoc ?_
    refine et (k_region0 rfl (f64r26 k a0 x52 o54 x62)) ?_
    refine et (k_cond (t := (decide (x62 < x52))) rfl rfl) ?_
    refine bifE2 (fun hc => ?_) fun hc => ?_
    · rw [hc]
      refine et k_skip ?_
      refine et (k_block rfl) ?_
      refine et (k_region rfl (f64r28 k a0 x52 o54 x62)) ?_
      refine bindE (fun o64 => ?_)
      refine et (k_lcond (t := o64) rfl rfl) ?_
      refine bifE2 (fun hc => ?_) fun hc => ?_
      · rw [hc]
        refine et (k_region0 rfl (f64r29 k a0 x52 o54 x62)) ?_
        refine et k_lret ?_
        refine et blk_ret ?_
        refine et loop_ret ?_
        refine et (hret _) ?_
        rfl
      · rw [hc]
        refine et k_lskip ?_
        refine et blk_normal ?_
        refine et (k_lregion0 rfl (f64r27 k a0 x52 o54 x62)) ?_
        refine et loop_normal ?_
        exact ih (Go.IntKind.wrap .i64 (x62 + 1))
    · rw [hc]
      refine et k_exit ?_
      refine et loop_exit ?_
      exact hK0 x62
theorem f64r21 (k : Nat) (a0 : T_api_Base) (x52 : Int) (o54 : T_api_Search) (y65 : Int) : RE k f64a21 f64o21 false ⟨[(1, (Pt 1)), (6, (I x52)), (7, (Pt 7)), (8, (I y65)), (220, (Bo false))], [(1, vS 4 (eBase a0)), (7, vS 4 (eSearch o54))], 232⟩ = some ⟨[(1, (Pt 1)), (6, (I (Go.IntKind.wrap .i64 (x52 + 1))))], [(1, vS 4 (eBase a0))], 232⟩ :=
  rE rfl
theorem ref11_Valid_L3_ok (k : Nat) (a0 : T_api_Base)  (K0 : Int → Option Bool) (Kst : X × St → Option (V × List V)) (hK0 : ∀ (y0 : Int), Kst (X.exit 4, ⟨[(1, (Pt 1)), (6, (I y0)), (154, (Bo false))], [(1, vS 4 (eBase a0))], 232⟩) = (K0 y0).map ref11_Valid_fin) (hret : ∀ s, Kst (X.ret, s) = endK prog 232 [(eBase a0)] [] [.tmp 2] (X.ret, s)) :
    ∀ (m : Nat) (x52 : Int), (iter (exec prog (EV k) f64n k f64b3) m ⟨[(1, (Pt 1)), (6, (I x52))], [(1, vS 4 (eBase a0))], 232⟩).bind Kst = (ref11_Valid_L3 k a0 K0 m x52).map ref11_Valid_fin := by
  intro m
  induction m with
  | zero => intros; rfl
  | succ m ih =>
    intro x52
    unfold ref11_Valid_L3
    refine et k_round ?_
    refine et k_assoc ?_
    refine et (k_region0 rfl (f64r20 k a0 x52)) ?_
    refine et (k_cond (t := (decide (x52 < (a0.fIndexes.length : Int)))) rfl rfl) ?_
    refine bifE2 (fun hc => ?_) fun hc => ?_
    · rw [hc]
      refine et k_skip ?_
      refine et (k_block rfl) ?_
      refine et (k_region rfl (f64r22 k a0 x52)) ?_
      refine bindE (fun o54 => ?_)
      refine et k_assoc ?_
      refine et (k_region rfl (f64r23 k a0 x52 o54)) ?_
      refine bindE (fun o59 => ?_)
      refine et (k_cond (t := o59) rfl rfl) ?_
      refine bifE2 (fun hc => ?_) fun hc => ?_
      · rw [hc]
        refine et k_assoc ?_
        refine et (k_region0 rfl (f64r24 k a0 x52 o54)) ?_
        refine et k_ret ?_
        refine et blk_ret ?_
        refine et loop_ret ?_
        refine et (hret _) ?_
        rfl
      · rw [hc]
        refine et k_skip ?_
        refine et (k_region0 rfl (f64r25 k a0 x52 o54)) ?_
        refine et (k_lblock rfl) ?_
        refine et k_loop ?_
        refine ref11_Valid_L4_ok k a0 x52 o54 _ _ ?h_ref11_Valid_L4_0 ?hr_ref11_Valid_L4 k 0
        · intro y65
          refine et blk_exit ?_
          refine et k_lskip ?_
          refine et blk_normal ?_
          refine et (k_lregion0 rfl (f64r21 k a0 x52 o54 y65)) ?_
          refine et loop_normal ?_
          exact ih (Go.IntKind.wrap .i64 (x52 + 1))
        · intro s; exact hret s
    · rw [hc]
      refine et k_exit ?_
      refine et loop_exit ?_
      exact hK0 x52
theorem f64r30 (k : Nat) (a0 : T_api_Base) (y66 : Int) : RE k f64a30 f64o30 false ⟨[(1, (Pt 1)), (6, (I y66)), (154, (Bo false))], [(1, vS 4 (eBase a0))], 232⟩ = some ⟨[(2, (Bo true))], [], 232⟩ :=
  rE rfl
theorem ref11_Valid_ok (k : Nat) (a0 : T_api_Base) : EV k 64 [(eBase a0)] = (ref11_Valid k a0).map ref11_Valid_fin := by
  cases k with
  | zero => rfl
  | succ k =>
    unfold ref11_Valid
    refine et (evF_succ (c := f64c) (N := 232) (regs := f64n) rfl func64 rfl (by decide) rfl rfl rfl) ?_
    refine et (k_region0 rfl (f64r0 k a0)) ?_
    refine et k_assoc ?_
    refine et (k_region rfl (f64r1 k a0)) ?_
    refine bindE (fun o2 => ?_)
    refine et (k_cond (t := o2) rfl rfl) ?_
    refine bifE2 (fun hc => ?_) fun hc => ?_
    · rw [hc]
      refine et k_assoc ?_
      refine et (k_region0 rfl (f64r2 k a0)) ?_
      refine et k_ret ?_
      rfl
    · rw [hc]
      refine et k_skip ?_
      refine et k_assoc ?_
      refine et (k_region0 rfl (f64r3 k a0)) ?_
      refine et (k_block rfl) ?_
      refine et k_loop ?_
      refine ref11_Valid_L1_ok k a0 _ _ ?h_ref11_Valid_L1_0 ?hr_ref11_Valid_L1 k 0
      · intro y38
        refine et blk_exit ?_
        refine et k_assoc ?_
        refine et (k_region0 rfl (f64r19 k a0 y38)) ?_
        refine et (k_block rfl) ?_
        refine et k_loop ?_
        refine ref11_Valid_L3_ok k a0 _ _ ?h_ref11_Valid_L3_0 ?hr_ref11_Valid_L3 k 0
        · intro y66
          refine et blk_exit ?_
          refine et (k_region0 rfl (f64r30 k a0 y66)) ?_
          refine et k_lret ?_
          rfl
        · intro s; exact rfl
      · intro s; exact rfl
def ref12_isType_fin : Int → V × List V := fun r => ((I r), [])
theorem f35r0 (k : Nat) (a0 : T_api_Base) (a1 : Int) : RE k f35a0 f35o0 false ⟨[(0, (eBase a0)), (1, (I a1))], [], 19⟩ = some ⟨[(1, (I a1)), (2, (Pt 2))], [(2, vS 4 (eBase a0))], 19⟩ :=
  rE rfl
theorem f35r1 (k : Nat) (a0 : T_api_Base) (a1 : Int) : RE k f35a1 f35o1 false ⟨[(1, (I a1)), (2, (Pt 2))], [(2, vS 4 (eBase a0))], 19⟩ = (((ref11_Valid k a0).bind fun v1 => (some ((!v1))))).map (fun (o : Bool) => (⟨[(1, (I a1)), (2, (Pt 2)), (5, (Bo o))], [(2, vS 4 (eBase a0))], 19⟩ : St)) := by
  refine rg ?_
  refine ra 1 1 ⟨[(1, (I a1)), (2, (Pt 2)), (6, (eBase a0))], [(2, vS 4 (eBase a0))], 19⟩ rfl rfl rfl ?_
  refine et (reg_pure (x := (ref11_Valid k a0)) (w := fun v1 => (Bo v1)) rfl rfl rfl rfl (p_call rfl rfl rfl rfl rfl (ref11_Valid_ok k a0) (.inl rfl))) ?_
  refine bindE (fun v1 => ?_)
  exact bind_end rfl
theorem f35r2 (k : Nat) (a0 : T_api_Base) (a1 : Int) : RE k f35a2 f35o2 false ⟨[(1, (I a1)), (2, (Pt 2)), (5, (Bo true))], [(2, vS 4 (eBase a0))], 19⟩ = some ⟨[(4, (I 100))], [], 19⟩ :=
  rE rfl
theorem f35r3 (k : Nat) (a0 : T_api_Base) (a1 : Int) : RE k f35a3 f35o3 false ⟨[(1, (I a1)), (2, (Pt 2)), (5, (Bo false))], [(2, vS 4 (eBase a0))], 19⟩ = ((bif (decide (a1 < 0)) then (some (true)) else (some ((decide (a1 ≥ (a0.fTypes.length : Int))))))).map (fun (o : Bool) => (⟨[(9, (Bo o))], [], 19⟩ : St)) := by
  refine rg ?_
  refine ra 3 3 ⟨[(1, (I a1)), (2, (Pt 2)), (5, (Bo false)), (10, (I a1)), (11, (Bo (decide (a1 < 0)))), (12, (Bo (decide (a1 < 0))))], [(2, vS 4 (eBase a0))], 19⟩ rfl rfl rfl ?_
  refine bifE (c := (decide (a1 < 0))) (fun hc => ?_) fun hc => ?_
  · rw [hc]
    exact reg_end rfl
  · rw [hc]
    refine ra 3 6 ⟨[(1, (I a1)), (2, (Pt 2)), (5, (Bo false)), (10, (I a1)), (11, (Bo false)), (12, (Bo false)), (13, (I a1)), (14, (V.ptr 2 0 2)), (15, (sType a0.fTypes))], [(2, vS 4 (eBase a0))], 19⟩ rfl rfl rfl ?_
    refine et (reg_pure (x := some ()) (w := fun _ => (I (a0.fTypes.length : Int))) rfl rfl rfl rfl (p_len (e := eType) rfl rfl rfl rfl rfl rfl underlying22)) ?_
    refine et some_bind ?_
    exact bind_end rfl
theorem f35r4 (k : Nat)  : RE k f35a4 f35o4 false ⟨[(9, (Bo true))], [], 19⟩ = some ⟨[(4, (I 2))], [], 19⟩ :=
  rE rfl
theorem f35r5 (k : Nat)  : RE k f35a5 f35o5 false ⟨[(9, (Bo false))], [], 19⟩ = some ⟨[(4, (I 0))], [], 19⟩ :=
  rE rfl
theorem ref12_isType_ok (k : Nat) (a0 : T_api_Base) (a1 : Int) : EV k 35 [(eBase a0), (I a1)] = (ref12_isType k a0 a1).map ref12_isType_fin := by
  cases k with
  | zero => rfl
  | succ k =>
    unfold ref12_isType
    refine et (evF_succ (c := f35c) (N := 19) (regs := f35n) rfl func35 rfl (by decide) rfl rfl rfl) ?_
    refine et (k_region0 rfl (f35r0 k a0 a1)) ?_
    refine et (k_block rfl) ?_
    refine et (k_region rfl (f35r1 k a0 a1)) ?_
    refine bindE (fun o2 => ?_)
    refine et (k_lcond (t := o2) rfl rfl) ?_
    refine bifE2 (fun hc => ?_) fun hc => ?_
    · rw [hc]
      refine et (k_region0 rfl (f35r2 k a0 a1)) ?_
      refine et k_lret ?_
      refine et blk_ret ?_
      rfl
    · rw [hc]
      refine et (k_region rfl (f35r3 k a0 a1)) ?_
      refine bindE (fun o3 => ?_)
      refine et (k_lcond (t := o3) rfl rfl) ?_
      refine bifE2 (fun hc => ?_) fun hc => ?_
      · rw [hc]
        refine et (k_region0 rfl (f35r4 k)) ?_
        refine et k_lret ?_
        refine et blk_ret ?_
        rfl
      · rw [hc]
        refine et k_lskip ?_
        refine et blk_normal ?_
        refine et (k_region0 rfl (f35r5 k)) ?_
        refine et k_lret ?_
        rfl
def ref11_isType_fin : Bool → V × List V := fun r => ((Bo r), [])
theorem f94r0 (k : Nat) (a0 : T_api_Base) (a1 : Int) : RE k f94a0 f94o0 false ⟨[(0, (eBase a0)), (1, (I a1))], [], 14⟩ = some ⟨[(1, (I a1)), (2, (Pt 2))], [(2, vS 4 (eBase a0))], 14⟩ :=
  rE rfl
theorem f94r1 (k : Nat) (a0 : T_api_Base) (a1 : Int) : RE k f94a1 f94o1 false ⟨[(1, (I a1)), (2, (Pt 2))], [(2, vS 4 (eBase a0))], 14⟩ = ((bif (decide (a1 ≥ 0)) then (some ((decide (a1 < (a0.fTypes.length : Int))))) else (some (false)))).map (fun (o : Bool) => (⟨[(4, (Bo o))], [], 14⟩ : St)) := by
  refine rg ?_
  refine ra 3 3 ⟨[(1, (I a1)), (2, (Pt 2)), (5, (I a1)), (6, (Bo (decide (a1 ≥ 0)))), (7, (Bo (decide (a1 ≥ 0))))], [(2, vS 4 (eBase a0))], 14⟩ rfl rfl rfl ?_
  refine bifE (c := (decide (a1 ≥ 0))) (fun hc => ?_) fun hc => ?_
  · rw [hc]
    refine ra 3 6 ⟨[(1, (I a1)), (2, (Pt 2)), (5, (I a1)), (6, (Bo true)), (7, (Bo true)), (8, (I a1)), (9, (V.ptr 2 0 2)), (10, (sType a0.fTypes))], [(2, vS 4 (eBase a0))], 14⟩ rfl rfl rfl ?_
    refine et (reg_pure (x := some ()) (w := fun _ => (I (a0.fTypes.length : Int))) rfl rfl rfl rfl (p_len (e := eType) rfl rfl rfl rfl rfl rfl underlying22)) ?_
    refine et some_bind ?_
    exact bind_end rfl
  · rw [hc]
    exact reg_end rfl
theorem ref11_isType_ok (k : Nat) (a0 : T_api_Base) (a1 : Int) : EV k 94 [(eBase a0), (I a1)] = (ref11_isType k a0 a1).map ref11_isType_fin := by
  cases k with
  | zero => rfl
  | succ k =>
    unfold ref11_isType
    refine et (evF_succ (c := f94c) (N := 14) (regs := f94n) rfl func94 rfl (by decide) rfl rfl rfl) ?_
    refine et (k_region0 rfl (f94r0 k a0 a1)) ?_
    refine et (k_region rfl (f94r1 k a0 a1)) ?_
    refine bindE (fun o1 => ?_)
    refine et k_lret ?_
    rfl
def ref11_asked_fin : Int → V × List V := fun r => ((I r), [])
theorem f73r0 (k : Nat) (a0 : T_api_Base) (a1 : (List Int)) : RE k f73a0 f73o0 false ⟨[(0, (eBase a0)), (1, (sI a1))], [], 22⟩ = some ⟨[(1, (sI a1)), (2, (Pt 2))], [(2, vS 4 (eBase a0))], 22⟩ :=
  rE rfl
theorem f73r1 (k : Nat) (a0 : T_api_Base) (a1 : (List Int)) : RE k f73a1 f73o1 false ⟨[(1, (sI a1)), (2, (Pt 2))], [(2, vS 4 (eBase a0))], 22⟩ = (((ref11_Valid k a0).bind fun v1 => (some ((!v1))))).map (fun (o : Bool) => (⟨[(1, (sI a1)), (2, (Pt 2)), (8, (Bo o))], [(2, vS 4 (eBase a0))], 22⟩ : St)) := by
  refine rg ?_
  refine ra 1 1 ⟨[(1, (sI a1)), (2, (Pt 2)), (6, (eBase a0))], [(2, vS 4 (eBase a0))], 22⟩ rfl rfl rfl ?_
  refine et (reg_pure (x := (ref11_Valid k a0)) (w := fun v1 => (Bo v1)) rfl rfl rfl rfl (p_call rfl rfl rfl rfl rfl (ref11_Valid_ok k a0) (.inl rfl))) ?_
  refine bindE (fun v1 => ?_)
  exact bind_end rfl
theorem f73r2 (k : Nat) (a0 : T_api_Base) (a1 : (List Int)) : RE k f73a2 f73o2 false ⟨[(1, (sI a1)), (2, (Pt 2)), (8, (Bo true))], [(2, vS 4 (eBase a0))], 22⟩ = some ⟨[(4, (I 100))], [], 22⟩ :=
  rE rfl
theorem f73r3 (k : Nat) (a0 : T_api_Base) (a1 : (List Int)) : RE k f73a3 f73o3 false ⟨[(1, (sI a1)), (2, (Pt 2)), (8, (Bo false))], [(2, vS 4 (eBase a0))], 22⟩ = some ⟨[(1, (sI a1)), (2, (Pt 2)), (5, (I 0))], [(2, vS 4 (eBase a0))], 22⟩ :=
  rE rfl
theorem f73r4 (k : Nat) (a0 : T_api_Base) (a1 : (List Int)) (x6 : Int) : RE k f73a4 f73o4 false ⟨[(1, (sI a1)), (2, (Pt 2)), (5, (I x6))], [(2, vS 4 (eBase a0))], 22⟩ = some ⟨[(1, (sI a1)), (2, (Pt 2)), (5, (I x6)), (12, (Bo (decide (x6 < (a1.length : Int)))))], [(2, vS 4 (eBase a0))], 22⟩ := by
  refine rg ?_
  refine ra 2 2 ⟨[(1, (sI a1)), (2, (Pt 2)), (5, (I x6)), (9, (I x6)), (10, (sI a1))], [(2, vS 4 (eBase a0))], 22⟩ rfl rfl rfl ?_
  refine et (reg_pure (x := some ()) (w := fun _ => (I (a1.length : Int))) rfl rfl rfl rfl (p_len (e := I) rfl rfl rfl rfl rfl rfl underlying87)) ?_
  refine et some_bind ?_
  exact bind_end rfl
theorem f73r6 (k : Nat) (a0 : T_api_Base) (a1 : (List Int)) (x6 : Int) : RE k f73a6 f73o6 true ⟨[(1, (sI a1)), (2, (Pt 2)), (5, (I x6)), (12, (Bo true))], [(2, vS 4 (eBase a0))], 22⟩ = (((idx a1 x6).bind fun v7 => ((ref11_isType k a0 v7).bind fun v8 => (some ((!v8)))))).map (fun (o : Bool) => (⟨[(1, (sI a1)), (2, (Pt 2)), (5, (I x6)), (21, (Bo o))], [(2, vS 4 (eBase a0))], 22⟩ : St)) := by
  refine et (regionE_regp (p := 7) (dk := true) (t := [(1, (sI a1)), (2, (Pt 2)), (5, (I x6)), (12, (Bo true))]) (σ := [(2, vS 4 (eBase a0))]) (n := 22) rfl (by decide) (by decide) rfl) ?_
  refine et (regp_adv (m := 3) (j := 3) (t' := [(1, (sI a1)), (2, (Pt 2)), (5, (I x6)), (12, (Bo true)), (15, (eBase a0)), (16, (sI a1)), (17, (I x6))]) rfl rfl rfl) ?_
  refine et (regp_pure (x := (idx a1 x6)) (w := fun v7 => (Pr (I v7))) rfl rfl rfl rfl rfl (p_index (e := I) rfl rfl rfl underlying87 rfl (by decide))) ?_
  refine bindE (fun v7 => ?_)
  refine et (putp_adv (m := 1) (j := 5) (t' := [(1, (sI a1)), (2, (Pt 2)), (5, (I x6)), (12, (Bo true)), (15, (eBase a0)), (16, (sI a1)), (17, (I x6)), (18, (Pr (I v7))), (19, (I v7))]) rfl rfl rfl) ?_
  refine et (regp_pure (x := (ref11_isType k a0 v7)) (w := fun v8 => (Bo v8)) rfl rfl rfl rfl rfl (p_call rfl rfl rfl rfl rfl (ref11_isType_ok k a0 v7) (.inl rfl))) ?_
  refine bindE (fun v8 => ?_)
  exact regp_end rfl
theorem f73r7 (k : Nat) (a0 : T_api_Base) (a1 : (List Int)) (x6 : Int) : RE k f73a7 f73o7 false ⟨[(1, (sI a1)), (2, (Pt 2)), (5, (I x6)), (21, (Bo true))], [(2, vS 4 (eBase a0))], 22⟩ = some ⟨[(4, (I 2))], [], 22⟩ :=
  rE rfl
theorem f73r5 (k : Nat) (a0 : T_api_Base) (a1 : (List Int)) (x6 : Int) : RE k f73a5 f73o5 false ⟨[(1, (sI a1)), (2, (Pt 2)), (5, (I x6)), (21, (Bo false))], [(2, vS 4 (eBase a0))], 22⟩ = some ⟨[(1, (sI a1)), (2, (Pt 2)), (5, (I (Go.IntKind.wrap .i64 (x6 + 1))))], [(2, vS 4 (eBase a0))], 22⟩ :=
  rE rfl
theorem ref11_asked_L1_ok (k : Nat) (a0 : T_api_Base) (a1 : (List Int))  (K0 : Int → Option Int) (Kst : X × St → Option (V × List V)) (hK0 : ∀ (y0 : Int), Kst (X.exit 0, ⟨[(1, (sI a1)), (2, (Pt 2)), (5, (I y0)), (12, (Bo false))], [(2, vS 4 (eBase a0))], 22⟩) = (K0 y0).map ref11_asked_fin) (hret : ∀ s, Kst (X.ret, s) = endK prog 22 [(eBase a0), (sI a1)] [] [.tmp 4] (X.ret, s)) :
    ∀ (m : Nat) (x6 : Int), (iter (exec prog (EV k) f73n k f73b0) m ⟨[(1, (sI a1)), (2, (Pt 2)), (5, (I x6))], [(2, vS 4 (eBase a0))], 22⟩).bind Kst = (ref11_asked_L1 k a0 a1 K0 m x6).map ref11_asked_fin := by
  intro m
  induction m with
  | zero => intros; rfl
  | succ m ih =>
    intro x6
    unfold ref11_asked_L1
    refine et k_round ?_
    refine et k_assoc ?_
    refine et (k_region0 rfl (f73r4 k a0 a1 x6)) ?_
    refine et (k_cond (t := (decide (x6 < (a1.length : Int)))) rfl rfl) ?_
    refine bifE2 (fun hc => ?_) fun hc => ?_
    · rw [hc]
      refine et k_skip ?_
      refine et (k_block rfl) ?_
      refine et (k_region rfl (f73r6 k a0 a1 x6)) ?_
      refine bindE (fun o9 => ?_)
      refine et (k_lcond (t := o9) rfl rfl) ?_
      refine bifE2 (fun hc => ?_) fun hc => ?_
      · rw [hc]
        refine et (k_region0 rfl (f73r7 k a0 a1 x6)) ?_
        refine et k_lret ?_
        refine et blk_ret ?_
        refine et loop_ret ?_
        refine et (hret _) ?_
        rfl
      · rw [hc]
        refine et k_lskip ?_
        refine et blk_normal ?_
        refine et (k_lregion0 rfl (f73r5 k a0 a1 x6)) ?_
        refine et loop_normal ?_
        exact ih (Go.IntKind.wrap .i64 (x6 + 1))
    · rw [hc]
      refine et k_exit ?_
      refine et loop_exit ?_
      exact hK0 x6
theorem f73r8 (k : Nat) (a0 : T_api_Base) (a1 : (List Int)) (y10 : Int) : RE k f73a8 f73o8 false ⟨[(1, (sI a1)), (2, (Pt 2)), (5, (I y10)), (12, (Bo false))], [(2, vS 4 (eBase a0))], 22⟩ = some ⟨[(4, (I 0))], [], 22⟩ :=
  rE rfl
theorem ref11_asked_ok (k : Nat) (a0 : T_api_Base) (a1 : (List Int)) : EV k 73 [(eBase a0), (sI a1)] = (ref11_asked k a0 a1).map ref11_asked_fin := by
  cases k with
  | zero => rfl
  | succ k =>
    unfold ref11_asked
    refine et (evF_succ (c := f73c) (N := 22) (regs := f73n) rfl func73 rfl (by decide) rfl rfl rfl) ?_
    refine et (k_region0 rfl (f73r0 k a0 a1)) ?_
    refine et k_assoc ?_
    refine et (k_region rfl (f73r1 k a0 a1)) ?_
    refine bindE (fun o2 => ?_)
    refine et (k_cond (t := o2) rfl rfl) ?_
    refine bifE2 (fun hc => ?_) fun hc => ?_
    · rw [hc]
      refine et k_assoc ?_
      refine et (k_region0 rfl (f73r2 k a0 a1)) ?_
      refine et k_ret ?_
      rfl
    · rw [hc]
      refine et k_skip ?_
      refine et k_assoc ?_
      refine et (k_region0 rfl (f73r3 k a0 a1)) ?_
      refine et (k_block rfl) ?_
      refine et k_loop ?_
      refine ref11_asked_L1_ok k a0 a1 _ _ ?h_ref11_asked_L1_0 ?hr_ref11_asked_L1 k 0
      · intro y10
        refine et blk_exit ?_
        refine et (k_region0 rfl (f73r8 k a0 a1 y10)) ?_
        refine et k_lret ?_
        rfl
      · intro s; exact rfl
def ref11_Field_fin : (Int × Int) → V × List V := fun r => (.tup [(I r.1), (I r.2)], [])
theorem f53r0 (k : Nat) (a0 : T_api_Base) (a1 : Int) (a2 : Str) : RE k f53a0 f53o0 false ⟨[(0, (eBase a0)), (1, (I a1)), (2, (Sr a2))], [], 41⟩ = some ⟨[(1, (I a1)), (2, (Sr a2)), (3, (Pt 3))], [(3, vS 4 (eBase a0))], 41⟩ :=
  rE rfl
theorem f53r1 (k : Nat) (a0 : T_api_Base) (a1 : Int) (a2 : Str) : RE k f53a1 f53o1 false ⟨[(1, (I a1)), (2, (Sr a2)), (3, (Pt 3))], [(3, vS 4 (eBase a0))], 41⟩ = ((ref11_asked k a0 ([a1] : List Int))).map (fun (o : Int) => (⟨[(1, (I a1)), (2, (Sr a2)), (3, (Pt 3)), (8, (I o))], [(3, vS 4 (eBase a0))], 41⟩ : St)) := by
  refine rg ?_
  refine ra 3 3 ⟨[(1, (I a1)), (2, (Sr a2)), (3, (Pt 3)), (10, (eBase a0)), (11, (I a1)), (12, (sI (([a1] : List Int))))], [(3, vS 4 (eBase a0))], 41⟩ rfl rfl rfl ?_
  refine et (reg_pure (x := (ref11_asked k a0 ([a1] : List Int))) (w := fun v1 => (I v1)) rfl rfl rfl rfl (p_call rfl rfl rfl rfl rfl (ref11_asked_ok k a0 ([a1] : List Int)) (.inl rfl))) ?_
  refine bind_self (fun v1 => ?_)
  exact bind_end rfl
theorem f53r2 (k : Nat) (a0 : T_api_Base) (a1 : Int) (a2 : Str) (o2 : Int) : RE k f53a2 f53o2 false ⟨[(1, (I a1)), (2, (Sr a2)), (3, (Pt 3)), (8, (I o2))], [(3, vS 4 (eBase a0))], 41⟩ = some ⟨[(1, (I a1)), (2, (Sr a2)), (3, (Pt 3)), (8, (I o2)), (15, (Bo (o2 != 0)))], [(3, vS 4 (eBase a0))], 41⟩ :=
  rE rfl
theorem f53r3 (k : Nat) (a0 : T_api_Base) (a1 : Int) (a2 : Str) (o2 : Int) : RE k f53a3 f53o3 false ⟨[(1, (I a1)), (2, (Sr a2)), (3, (Pt 3)), (8, (I o2)), (15, (Bo true))], [(3, vS 4 (eBase a0))], 41⟩ = some ⟨[(6, (I 0)), (7, (I o2))], [], 41⟩ :=
  rE rfl
theorem f53r4 (k : Nat) (a0 : T_api_Base) (a1 : Int) (a2 : Str) (o2 : Int) : RE k f53a4 f53o4 false ⟨[(1, (I a1)), (2, (Sr a2)), (3, (Pt 3)), (8, (I o2)), (15, (Bo false))], [(3, vS 4 (eBase a0))], 41⟩ = some ⟨[(1, (I a1)), (2, (Sr a2)), (3, (Pt 3)), (9, (I 0))], [(3, vS 4 (eBase a0))], 41⟩ :=
  rE rfl
theorem f53r5 (k : Nat) (a0 : T_api_Base) (a1 : Int) (a2 : Str) (x8 : Int) : RE k f53a5 f53o5 false ⟨[(1, (I a1)), (2, (Sr a2)), (3, (Pt 3)), (9, (I x8))], [(3, vS 4 (eBase a0))], 41⟩ = (((idx a0.fTypes a1).bind fun v9 => (some ((decide (x8 < (v9.fFields.length : Int))))))).map (fun (o : Bool) => (⟨[(1, (I a1)), (2, (Sr a2)), (3, (Pt 3)), (9, (I x8)), (25, (Bo o))], [(3, vS 4 (eBase a0))], 41⟩ : St)) := by
  refine rg ?_
  refine ra 4 4 ⟨[(1, (I a1)), (2, (Sr a2)), (3, (Pt 3)), (9, (I x8)), (17, (I x8)), (18, (V.ptr 3 0 2)), (19, (sType a0.fTypes)), (20, (I a1))], [(3, vS 4 (eBase a0))], 41⟩ rfl rfl rfl ?_
  refine et (reg_pure (x := (idx a0.fTypes a1)) (w := fun v9 => (Pr (eType v9))) rfl rfl rfl rfl (p_index (e := eType) rfl rfl rfl underlying22 rfl (by decide))) ?_
  refine bindE (fun v9 => ?_)
  refine ba 2 7 ⟨[(1, (I a1)), (2, (Sr a2)), (3, (Pt 3)), (9, (I x8)), (17, (I x8)), (18, (V.ptr 3 0 2)), (19, (sType a0.fTypes)), (20, (I a1)), (21, (Pr (eType v9))), (22, (Pr (sField v9.fFields))), (23, (sField v9.fFields))], [(3, vS 4 (eBase a0))], 41⟩ rfl rfl rfl ?_
  refine et (reg_pure (x := some ()) (w := fun _ => (I (v9.fFields.length : Int))) rfl rfl rfl rfl (p_len (e := eField) rfl rfl rfl rfl rfl rfl underlying43)) ?_
  refine et some_bind ?_
  exact bind_end rfl
theorem f53r7 (k : Nat) (a0 : T_api_Base) (a1 : Int) (a2 : Str) (x8 : Int) : RE k f53a7 f53o7 false ⟨[(1, (I a1)), (2, (Sr a2)), (3, (Pt 3)), (9, (I x8)), (25, (Bo true))], [(3, vS 4 (eBase a0))], 41⟩ = (((idx a0.fTypes a1).bind fun v11 => ((idx v11.fFields x8).bind fun v12 => (some ((v12.fName == a2)))))).map (fun (o : Bool) => (⟨[(1, (I a1)), (2, (Sr a2)), (3, (Pt 3)), (9, (I x8)), (39, (Bo o))], [(3, vS 4 (eBase a0))], 41⟩ : St)) := by
  refine rg ?_
  refine ra 3 3 ⟨[(1, (I a1)), (2, (Sr a2)), (3, (Pt 3)), (9, (I x8)), (25, (Bo true)), (28, (V.ptr 3 0 2)), (29, (sType a0.fTypes)), (30, (I a1))], [(3, vS 4 (eBase a0))], 41⟩ rfl rfl rfl ?_
  refine et (reg_pure (x := (idx a0.fTypes a1)) (w := fun v11 => (Pr (eType v11))) rfl rfl rfl rfl (p_index (e := eType) rfl rfl rfl underlying22 rfl (by decide))) ?_
  refine bindE (fun v11 => ?_)
  refine ba 3 7 ⟨[(1, (I a1)), (2, (Sr a2)), (3, (Pt 3)), (9, (I x8)), (25, (Bo true)), (28, (V.ptr 3 0 2)), (29, (sType a0.fTypes)), (30, (I a1)), (31, (Pr (eType v11))), (32, (Pr (sField v11.fFields))), (33, (sField v11.fFields)), (34, (I x8))], [(3, vS 4 (eBase a0))], 41⟩ rfl rfl rfl ?_
  refine et (reg_pure (x := (idx v11.fFields x8)) (w := fun v12 => (Pr (eField v12))) rfl rfl rfl rfl (p_index (e := eField) rfl rfl rfl underlying43 rfl (by decide))) ?_
  refine bindE (fun v12 => ?_)
  exact bind_end rfl
theorem f53r8 (k : Nat) (a0 : T_api_Base) (a1 : Int) (a2 : Str) (x8 : Int) : RE k f53a8 f53o8 false ⟨[(1, (I a1)), (2, (Sr a2)), (3, (Pt 3)), (9, (I x8)), (39, (Bo true))], [(3, vS 4 (eBase a0))], 41⟩ = some ⟨[(6, (I x8)), (7, (I 0))], [], 41⟩ :=
  rE rfl
theorem f53r6 (k : Nat) (a0 : T_api_Base) (a1 : Int) (a2 : Str) (x8 : Int) : RE k f53a6 f53o6 false ⟨[(1, (I a1)), (2, (Sr a2)), (3, (Pt 3)), (9, (I x8)), (39, (Bo false))], [(3, vS 4 (eBase a0))], 41⟩ = some ⟨[(1, (I a1)), (2, (Sr a2)), (3, (Pt 3)), (9, (I (Go.IntKind.wrap .i64 (x8 + 1))))], [(3, vS 4 (eBase a0))], 41⟩ :=
  rE rfl
theorem ref11_Field_L1_ok (k : Nat) (a0 : T_api_Base) (a1 : Int) (a2 : Str)  (K0 : Int → Option (Int × Int)) (Kst : X × St → Option (V × List V)) (hK0 : ∀ (y0 : Int), Kst (X.exit 0, ⟨[(1, (I a1)), (2, (Sr a2)), (3, (Pt 3)), (9, (I y0)), (25, (Bo false))], [(3, vS 4 (eBase a0))], 41⟩) = (K0 y0).map ref11_Field_fin) (hret : ∀ s, Kst (X.ret, s) = endK prog 41 [(eBase a0), (I a1), (Sr a2)] [] [.tmp 6, .tmp 7] (X.ret, s)) :
    ∀ (m : Nat) (x8 : Int), (iter (exec prog (EV k) f53n k f53b0) m ⟨[(1, (I a1)), (2, (Sr a2)), (3, (Pt 3)), (9, (I x8))], [(3, vS 4 (eBase a0))], 41⟩).bind Kst = (ref11_Field_L1 a0 a1 a2 K0 m x8).map ref11_Field_fin := by
  intro m
  induction m with
  | zero => intros; rfl
  | succ m ih =>
    intro x8
    unfold ref11_Field_L1
    refine et k_round ?_
    refine et k_assoc ?_
    refine et (k_region rfl (f53r5 k a0 a1 a2 x8)) ?_
    refine bindE (fun o10 => ?_)
    refine et (k_cond (t := o10) rfl rfl) ?_
    refine bifE2 (fun hc => ?_) fun hc => ?_
    · rw [hc]
      refine et k_skip ?_
      refine et (k_block rfl) ?_
      refine et (k_region rfl (f53r7 k a0 a1 a2 x8)) ?_
      refine bindE (fun o13 => ?_)
      refine et (k_lcond (t := o13) rfl rfl) ?_
      refine bifE2 (fun hc => ?_) fun hc => ?_
      · rw [hc]
        refine et (k_region0 rfl (f53r8 k a0 a1 a2 x8)) ?_
        refine et k_lret ?_
        refine et blk_ret ?_
        refine et loop_ret ?_
        refine et (hret _) ?_
        rfl
      · rw [hc]
        refine et k_lskip ?_
        refine et blk_normal ?_
        refine et (k_lregion0 rfl (f53r6 k a0 a1 a2 x8)) ?_
        refine et loop_normal ?_
        exact ih (Go.IntKind.wrap .i64 (x8 + 1))
    · rw [hc]
      refine et k_exit ?_
      refine et loop_exit ?_
      exact hK0 x8
theorem f53r9 (k : Nat) (a0 : T_api_Base) (a1 : Int) (a2 : Str) (y14 : Int) : RE k f53a9 f53o9 false ⟨[(1, (I a1)), (2, (Sr a2)), (3, (Pt 3)), (9, (I y14)), (25, (Bo false))], [(3, vS 4 (eBase a0))], 41⟩ = some ⟨[(6, (I 0)), (7, (I 5))], [], 41⟩ :=
  rE rfl
theorem ref11_Field_ok (k : Nat) (a0 : T_api_Base) (a1 : Int) (a2 : Str) : EV k 53 [(eBase a0), (I a1), (Sr a2)] = (ref11_Field k a0 a1 a2).map ref11_Field_fin := by
  cases k with
  | zero => rfl
  | succ k =>
    unfold ref11_Field
    refine et (evF_succ (c := f53c) (N := 41) (regs := f53n) rfl func53 rfl (by decide) rfl rfl rfl) ?_
    refine et (k_region0 rfl (f53r0 k a0 a1 a2)) ?_
    refine et k_assoc ?_
    refine et (k_region rfl (f53r1 k a0 a1 a2)) ?_
    refine bindE (fun o2 => ?_)
    refine et k_assoc ?_
    refine et (k_region0 rfl (f53r2 k a0 a1 a2 o2)) ?_
    refine et (k_cond (t := (o2 != 0)) rfl rfl) ?_
    refine bifE2 (fun hc => ?_) fun hc => ?_
    · rw [hc]
      refine et k_assoc ?_
      refine et (k_region0 rfl (f53r3 k a0 a1 a2 o2)) ?_
      refine et k_ret ?_
      rfl
    · rw [hc]
      refine et k_skip ?_
      refine et k_assoc ?_
      refine et (k_region0 rfl (f53r4 k a0 a1 a2 o2)) ?_
      refine et (k_block rfl) ?_
      refine et k_loop ?_
      refine ref11_Field_L1_ok k a0 a1 a2 _ _ ?h_ref11_Field_L1_0 ?hr_ref11_Field_L1 k 0
      · intro y14
        refine et blk_exit ?_
        refine et (k_region0 rfl (f53r9 k a0 a1 a2 y14)) ?_
        refine et k_lret ?_
        rfl
      · intro s; exact rfl
def ref12_isTerm_fin : Bool → V × List V := fun r => ((Bo r), [])
theorem f65r0 (k : Nat) (a0 : T_api_Base) (a1 : Int) (a2 : T_api_Term) : RE k f65a0 f65o0 false ⟨[(0, (eBase a0)), (1, (I a1)), (2, (eTerm a2))], [], 45⟩ = some ⟨[(1, (I a1)), (3, (Pt 3)), (5, (Pt 5))], [(3, vS 4 (eBase a0)), (5, vS 3 (eTerm a2))], 45⟩ :=
  rE rfl
theorem f65r1 (k : Nat) (a0 : T_api_Base) (a1 : Int) (a2 : T_api_Term) : RE k f65a1 f65o1 false ⟨[(1, (I a1)), (3, (Pt 3)), (5, (Pt 5))], [(3, vS 4 (eBase a0)), (5, vS 3 (eTerm a2))], 45⟩ = (((ref11_Field k a0 a1 a2.fField).bind fun v1 => (some (v1.1, v1.2)))).map (fun (o : Int × Int) => (⟨[(1, (I a1)), (3, (Pt 3)), (5, (Pt 5)), (7, (I o.1)), (8, (I o.2))], [(3, vS 4 (eBase a0)), (5, vS 3 (eTerm a2))], 45⟩ : St)) := by
  refine rg ?_
  refine ra 4 4 ⟨[(1, (I a1)), (3, (Pt 3)), (5, (Pt 5)), (10, (eBase a0)), (11, (I a1)), (12, (Pt 5)), (13, (Sr a2.fField))], [(3, vS 4 (eBase a0)), (5, vS 3 (eTerm a2))], 45⟩ rfl rfl rfl ?_
  refine et (reg_pure (x := (ref11_Field k a0 a1 a2.fField)) (w := fun v1 => (V.tup [(I v1.1), (I v1.2)])) rfl rfl rfl rfl (p_call rfl rfl rfl rfl rfl (ref11_Field_ok k a0 a1 a2.fField) (.inl rfl))) ?_
  refine bindE (fun v1 => ?_)
  exact bind_end rfl
theorem f65r2 (k : Nat) (a0 : T_api_Base) (a1 : Int) (a2 : T_api_Term) (o2 : Int × Int) : RE k f65a2 f65o2 true ⟨[(1, (I a1)), (3, (Pt 3)), (5, (Pt 5)), (7, (I o2.1)), (8, (I o2.2))], [(3, vS 4 (eBase a0)), (5, vS 3 (eTerm a2))], 45⟩ = ((bif (o2.2 == 0) then (bif (decide (a2.fOp ≥ 1)) then (bif (decide (a2.fOp ≤ 6)) then ((idx a0.fTypes a1).bind fun v3 => ((idx v3.fFields o2.1).bind fun v4 => (some (((a2.fValue.length : Int) == v4.fBytes))))) else (some (false))) else (some (false))) else (some (false)))).map (fun (o : Bool) => (⟨[(6, (Bo o))], [], 45⟩ : St)) := by
  refine et (regionE_regp (p := 29) (dk := true) (t := [(1, (I a1)), (3, (Pt 3)), (5, (Pt 5)), (7, (I o2.1)), (8, (I o2.2))]) (σ := [(3, vS 4 (eBase a0)), (5, vS 3 (eTerm a2))]) (n := 45) rfl (by decide) (by decide) rfl) ?_
  refine et (regp_adv (m := 3) (j := 3) (t' := [(1, (I a1)), (3, (Pt 3)), (5, (Pt 5)), (7, (I o2.1)), (8, (I o2.2)), (17, (I o2.2)), (18, (Bo (o2.2 == 0))), (19, (Bo (o2.2 == 0)))]) rfl rfl rfl) ?_
  refine bifE (c := (o2.2 == 0)) (fun hc => ?_) fun hc => ?_
  · rw [hc]
    refine et (regp_adv (m := 5) (j := 8) (t' := [(1, (I a1)), (3, (Pt 3)), (5, (Pt 5)), (7, (I o2.1)), (8, (I o2.2)), (17, (I o2.2)), (18, (Bo true)), (19, (Bo true)), (20, (V.ptr 5 0 1)), (21, (I a2.fOp)), (22, (Bo (decide (a2.fOp ≥ 1)))), (23, (Bo (decide (a2.fOp ≥ 1)))), (24, (Bo (decide (a2.fOp ≥ 1))))]) rfl rfl rfl) ?_
    refine bifE (c := (decide (a2.fOp ≥ 1))) (fun hc => ?_) fun hc => ?_
    · rw [hc]
      refine et (regp_adv (m := 5) (j := 13) (t' := [(1, (I a1)), (3, (Pt 3)), (5, (Pt 5)), (7, (I o2.1)), (8, (I o2.2)), (17, (I o2.2)), (18, (Bo true)), (19, (Bo true)), (20, (V.ptr 5 0 1)), (21, (I a2.fOp)), (22, (Bo true)), (23, (Bo true)), (24, (Bo true)), (25, (V.ptr 5 0 1)), (26, (I a2.fOp)), (27, (Bo (decide (a2.fOp ≤ 6)))), (28, (Bo (decide (a2.fOp ≤ 6)))), (29, (Bo (decide (a2.fOp ≤ 6))))]) rfl rfl rfl) ?_
      refine bifE (c := (decide (a2.fOp ≤ 6))) (fun hc => ?_) fun hc => ?_
      · rw [hc]
        refine et (regp_adv (m := 6) (j := 19) (t' := [(1, (I a1)), (3, (Pt 3)), (5, (Pt 5)), (7, (I o2.1)), (8, (I o2.2)), (17, (I o2.2)), (18, (Bo true)), (19, (Bo true)), (20, (V.ptr 5 0 1)), (21, (I a2.fOp)), (22, (Bo true)), (23, (Bo true)), (24, (Bo true)), (25, (V.ptr 5 0 1)), (26, (I a2.fOp)), (27, (Bo true)), (28, (Bo true)), (29, (Bo true)), (30, (V.ptr 5 0 2)), (31, (Sr a2.fValue)), (32, (I (a2.fValue.length : Int))), (33, (V.ptr 3 0 2)), (34, (sType a0.fTypes)), (35, (I a1))]) rfl rfl rfl) ?_
        refine et (regp_pure (x := (idx a0.fTypes a1)) (w := fun v3 => (Pr (eType v3))) rfl rfl rfl rfl rfl (p_index (e := eType) rfl rfl rfl underlying22 rfl (by decide))) ?_
        refine bindE (fun v3 => ?_)
        refine et (putp_adv (m := 3) (j := 23) (t' := [(1, (I a1)), (3, (Pt 3)), (5, (Pt 5)), (7, (I o2.1)), (8, (I o2.2)), (17, (I o2.2)), (18, (Bo true)), (19, (Bo true)), (20, (V.ptr 5 0 1)), (21, (I a2.fOp)), (22, (Bo true)), (23, (Bo true)), (24, (Bo true)), (25, (V.ptr 5 0 1)), (26, (I a2.fOp)), (27, (Bo true)), (28, (Bo true)), (29, (Bo true)), (30, (V.ptr 5 0 2)), (31, (Sr a2.fValue)), (32, (I (a2.fValue.length : Int))), (33, (V.ptr 3 0 2)), (34, (sType a0.fTypes)), (35, (I a1)), (36, (Pr (eType v3))), (37, (Pr (sField v3.fFields))), (38, (sField v3.fFields)), (39, (I o2.1))]) rfl rfl rfl) ?_
        refine et (regp_pure (x := (idx v3.fFields o2.1)) (w := fun v4 => (Pr (eField v4))) rfl rfl rfl rfl rfl (p_index (e := eField) rfl rfl rfl underlying43 rfl (by decide))) ?_
        refine bindE (fun v4 => ?_)
        exact regp_end rfl
      · rw [hc]
        exact regp_end rfl
    · rw [hc]
      exact regp_end rfl
  · rw [hc]
    exact regp_end rfl
theorem ref12_isTerm_ok (k : Nat) (a0 : T_api_Base) (a1 : Int) (a2 : T_api_Term) : EV k 65 [(eBase a0), (I a1), (eTerm a2)] = (ref12_isTerm k a0 a1 a2).map ref12_isTerm_fin := by
  cases k with
  | zero => rfl
  | succ k =>
    unfold ref12_isTerm
    refine et (evF_succ (c := f65c) (N := 45) (regs := f65n) rfl func65 rfl (by decide) rfl rfl rfl) ?_
    refine et (k_region0 rfl (f65r0 k a0 a1 a2)) ?_
    refine et (k_region rfl (f65r1 k a0 a1 a2)) ?_
    refine bindE (fun o2 => ?_)
    refine et (k_region rfl (f65r2 k a0 a1 a2 o2)) ?_
    refine bindE (fun o5 => ?_)
    refine et k_lret ?_
    rfl
def ref12_isCondition_fin : Bool → V × List V := fun r => ((Bo r), [])
theorem f36r0 (k : Nat) (a0 : T_api_Base) (a1 : Int) (a2 : (List (List T_api_Term))) : RE k f36a0 f36o0 false ⟨[(0, (eBase a0)), (1, (I a1)), (2, (V.sl 0 1 (List.map sTerm a2)))], [], 52⟩ = some ⟨[(1, (I a1)), (2, (V.sl 0 1 (List.map sTerm a2))), (3, (Pt 3))], [(3, vS 4 (eBase a0))], 52⟩ :=
  rE rfl
theorem f36r1 (k : Nat) (a0 : T_api_Base) (a1 : Int) (a2 : (List (List T_api_Term))) : RE k f36a1 f36o1 false ⟨[(1, (I a1)), (2, (V.sl 0 1 (List.map sTerm a2))), (3, (Pt 3))], [(3, vS 4 (eBase a0))], 52⟩ = some ⟨[(1, (I a1)), (2, (V.sl 0 1 (List.map sTerm a2))), (3, (Pt 3)), (7, (I 0))], [(3, vS 4 (eBase a0))], 52⟩ :=
  rE rfl
theorem f36r2 (k : Nat) (a0 : T_api_Base) (a1 : Int) (a2 : (List (List T_api_Term))) (x18 : Int) : RE k f36a2 f36o2 false ⟨[(1, (I a1)), (2, (V.sl 0 1 (List.map sTerm a2))), (3, (Pt 3)), (7, (I x18))], [(3, vS 4 (eBase a0))], 52⟩ = some ⟨[(1, (I a1)), (2, (V.sl 0 1 (List.map sTerm a2))), (3, (Pt 3)), (7, (I x18)), (12, (Bo (decide (x18 < (a2.length : Int)))))], [(3, vS 4 (eBase a0))], 52⟩ := by
  refine rg ?_
  refine ra 2 2 ⟨[(1, (I a1)), (2, (V.sl 0 1 (List.map sTerm a2))), (3, (Pt 3)), (7, (I x18)), (9, (I x18)), (10, (V.sl 0 1 (List.map sTerm a2)))], [(3, vS 4 (eBase a0))], 52⟩ rfl rfl rfl ?_
  refine et (reg_pure (x := some ()) (w := fun _ => (I (a2.length : Int))) rfl rfl rfl rfl (p_len (e := sTerm) rfl rfl rfl rfl rfl rfl underlying26)) ?_
  refine et some_bind ?_
  exact bind_end rfl
theorem f36r4 (k : Nat) (a0 : T_api_Base) (a1 : Int) (a2 : (List (List T_api_Term))) (x18 : Int) : RE k f36a4 f36o4 false ⟨[(1, (I a1)), (2, (V.sl 0 1 (List.map sTerm a2))), (3, (Pt 3)), (7, (I x18)), (12, (Bo true))], [(3, vS 4 (eBase a0))], 52⟩ = (((idx a2 x18).bind fun v19 => (bif (decide ((v19.length : Int) < 1)) then (some (true)) else ((idx a2 x18).bind fun v20 => (some ((decide ((v20.length : Int) > 4)))))))).map (fun (o : Bool) => (⟨[(1, (I a1)), (2, (V.sl 0 1 (List.map sTerm a2))), (3, (Pt 3)), (7, (I x18)), (28, (Bo o))], [(3, vS 4 (eBase a0))], 52⟩ : St)) := by
  refine rg ?_
  refine ra 2 2 ⟨[(1, (I a1)), (2, (V.sl 0 1 (List.map sTerm a2))), (3, (Pt 3)), (7, (I x18)), (12, (Bo true)), (15, (V.sl 0 1 (List.map sTerm a2))), (16, (I x18))], [(3, vS 4 (eBase a0))], 52⟩ rfl rfl rfl ?_
  refine et (reg_pure (x := (idx a2 x18)) (w := fun v19 => (Pr (sTerm v19))) rfl rfl rfl rfl (p_index (e := sTerm) rfl rfl rfl underlying26 rfl (by decide))) ?_
  refine bindE (fun v19 => ?_)
  refine ba 1 4 ⟨[(1, (I a1)), (2, (V.sl 0 1 (List.map sTerm a2))), (3, (Pt 3)), (7, (I x18)), (12, (Bo true)), (15, (V.sl 0 1 (List.map sTerm a2))), (16, (I x18)), (17, (Pr (sTerm v19))), (18, (sTerm v19))], [(3, vS 4 (eBase a0))], 52⟩ rfl rfl rfl ?_
  refine et (reg_pure (x := some ()) (w := fun _ => (I (v19.length : Int))) rfl rfl rfl rfl (p_len (e := eTerm) rfl rfl rfl rfl rfl rfl underlying50)) ?_
  refine et some_bind ?_
  refine ba 2 7 ⟨[(1, (I a1)), (2, (V.sl 0 1 (List.map sTerm a2))), (3, (Pt 3)), (7, (I x18)), (12, (Bo true)), (15, (V.sl 0 1 (List.map sTerm a2))), (16, (I x18)), (17, (Pr (sTerm v19))), (18, (sTerm v19)), (19, (I (v19.length : Int))), (20, (Bo (decide ((v19.length : Int) < 1)))), (21, (Bo (decide ((v19.length : Int) < 1))))], [(3, vS 4 (eBase a0))], 52⟩ rfl rfl rfl ?_
  refine bifE (c := (decide ((v19.length : Int) < 1))) (fun hc => ?_) fun hc => ?_
  · rw [hc]
    exact reg_end rfl
  · rw [hc]
    refine ra 2 9 ⟨[(1, (I a1)), (2, (V.sl 0 1 (List.map sTerm a2))), (3, (Pt 3)), (7, (I x18)), (12, (Bo true)), (15, (V.sl 0 1 (List.map sTerm a2))), (16, (I x18)), (17, (Pr (sTerm v19))), (18, (sTerm v19)), (19, (I (v19.length : Int))), (20, (Bo false)), (21, (Bo false)), (22, (V.sl 0 1 (List.map sTerm a2))), (23, (I x18))], [(3, vS 4 (eBase a0))], 52⟩ rfl rfl rfl ?_
    refine et (reg_pure (x := (idx a2 x18)) (w := fun v20 => (Pr (sTerm v20))) rfl rfl rfl rfl (p_index (e := sTerm) rfl rfl rfl underlying26 rfl (by decide))) ?_
    refine bindE (fun v20 => ?_)
    refine ba 1 11 ⟨[(1, (I a1)), (2, (V.sl 0 1 (List.map sTerm a2))), (3, (Pt 3)), (7, (I x18)), (12, (Bo true)), (15, (V.sl 0 1 (List.map sTerm a2))), (16, (I x18)), (17, (Pr (sTerm v19))), (18, (sTerm v19)), (19, (I (v19.length : Int))), (20, (Bo false)), (21, (Bo false)), (22, (V.sl 0 1 (List.map sTerm a2))), (23, (I x18)), (24, (Pr (sTerm v20))), (25, (sTerm v20))], [(3, vS 4 (eBase a0))], 52⟩ rfl rfl rfl ?_
    refine et (reg_pure (x := some ()) (w := fun _ => (I (v20.length : Int))) rfl rfl rfl rfl (p_len (e := eTerm) rfl rfl rfl rfl rfl rfl underlying50)) ?_
    refine et some_bind ?_
    exact bind_end rfl
theorem f36r5 (k : Nat) (a0 : T_api_Base) (a1 : Int) (a2 : (List (List T_api_Term))) (x18 : Int) : RE k f36a5 f36o5 false ⟨[(1, (I a1)), (2, (V.sl 0 1 (List.map sTerm a2))), (3, (Pt 3)), (7, (I x18)), (28, (Bo true))], [(3, vS 4 (eBase a0))], 52⟩ = some ⟨[(6, (Bo false))], [], 52⟩ :=
  rE rfl
theorem f36r6 (k : Nat) (a0 : T_api_Base) (a1 : Int) (a2 : (List (List T_api_Term))) (x18 : Int) : RE k f36a6 f36o6 false ⟨[(1, (I a1)), (2, (V.sl 0 1 (List.map sTerm a2))), (3, (Pt 3)), (7, (I x18)), (28, (Bo false))], [(3, vS 4 (eBase a0))], 52⟩ = some ⟨[(1, (I a1)), (2, (V.sl 0 1 (List.map sTerm a2))), (3, (Pt 3)), (7, (I x18)), (8, (I 0))], [(3, vS 4 (eBase a0))], 52⟩ :=
  rE rfl
theorem f36r7 (k : Nat) (a0 : T_api_Base) (a1 : Int) (a2 : (List (List T_api_Term))) (x18 : Int) (x28 : Int) : RE k f36a7 f36o7 false ⟨[(1, (I a1)), (2, (V.sl 0 1 (List.map sTerm a2))), (3, (Pt 3)), (7, (I x18)), (8, (I x28))], [(3, vS 4 (eBase a0))], 52⟩ = (((idx a2 x18).bind fun v29 => (some ((decide (x28 < (v29.length : Int))))))).map (fun (o : Bool) => (⟨[(1, (I a1)), (2, (V.sl 0 1 (List.map sTerm a2))), (3, (Pt 3)), (7, (I x18)), (8, (I x28)), (35, (Bo o))], [(3, vS 4 (eBase a0))], 52⟩ : St)) := by
  refine rg ?_
  refine ra 3 3 ⟨[(1, (I a1)), (2, (V.sl 0 1 (List.map sTerm a2))), (3, (Pt 3)), (7, (I x18)), (8, (I x28)), (29, (I x28)), (30, (V.sl 0 1 (List.map sTerm a2))), (31, (I x18))], [(3, vS 4 (eBase a0))], 52⟩ rfl rfl rfl ?_
  refine et (reg_pure (x := (idx a2 x18)) (w := fun v29 => (Pr (sTerm v29))) rfl rfl rfl rfl (p_index (e := sTerm) rfl rfl rfl underlying26 rfl (by decide))) ?_
  refine bindE (fun v29 => ?_)
  refine ba 1 5 ⟨[(1, (I a1)), (2, (V.sl 0 1 (List.map sTerm a2))), (3, (Pt 3)), (7, (I x18)), (8, (I x28)), (29, (I x28)), (30, (V.sl 0 1 (List.map sTerm a2))), (31, (I x18)), (32, (Pr (sTerm v29))), (33, (sTerm v29))], [(3, vS 4 (eBase a0))], 52⟩ rfl rfl rfl ?_
  refine et (reg_pure (x := some ()) (w := fun _ => (I (v29.length : Int))) rfl rfl rfl rfl (p_len (e := eTerm) rfl rfl rfl rfl rfl rfl underlying50)) ?_
  refine et some_bind ?_
  exact bind_end rfl
theorem f36r9 (k : Nat) (a0 : T_api_Base) (a1 : Int) (a2 : (List (List T_api_Term))) (x18 : Int) (x28 : Int) : RE k f36a9 f36o9 true ⟨[(1, (I a1)), (2, (V.sl 0 1 (List.map sTerm a2))), (3, (Pt 3)), (7, (I x18)), (8, (I x28)), (35, (Bo true))], [(3, vS 4 (eBase a0))], 52⟩ = (((idx a2 x18).bind fun v31 => ((idx v31 x28).bind fun v32 => ((ref12_isTerm k a0 a1 v32).bind fun v33 => (some ((!v33))))))).map (fun (o : Bool) => (⟨[(1, (I a1)), (2, (V.sl 0 1 (List.map sTerm a2))), (3, (Pt 3)), (7, (I x18)), (8, (I x28)), (48, (Bo o))], [(3, vS 4 (eBase a0))], 52⟩ : St)) := by
  refine et (regionE_regp (p := 11) (dk := true) (t := [(1, (I a1)), (2, (V.sl 0 1 (List.map sTerm a2))), (3, (Pt 3)), (7, (I x18)), (8, (I x28)), (35, (Bo true))]) (σ := [(3, vS 4 (eBase a0))]) (n := 52) rfl (by decide) (by decide) rfl) ?_
  refine et (regp_adv (m := 4) (j := 4) (t' := [(1, (I a1)), (2, (V.sl 0 1 (List.map sTerm a2))), (3, (Pt 3)), (7, (I x18)), (8, (I x28)), (35, (Bo true)), (38, (eBase a0)), (39, (I a1)), (40, (V.sl 0 1 (List.map sTerm a2))), (41, (I x18))]) rfl rfl rfl) ?_
  refine et (regp_pure (x := (idx a2 x18)) (w := fun v31 => (Pr (sTerm v31))) rfl rfl rfl rfl rfl (p_index (e := sTerm) rfl rfl rfl underlying26 rfl (by decide))) ?_
  refine bindE (fun v31 => ?_)
  refine et (putp_adv (m := 2) (j := 7) (t' := [(1, (I a1)), (2, (V.sl 0 1 (List.map sTerm a2))), (3, (Pt 3)), (7, (I x18)), (8, (I x28)), (35, (Bo true)), (38, (eBase a0)), (39, (I a1)), (40, (V.sl 0 1 (List.map sTerm a2))), (41, (I x18)), (42, (Pr (sTerm v31))), (43, (sTerm v31)), (44, (I x28))]) rfl rfl rfl) ?_
  refine et (regp_pure (x := (idx v31 x28)) (w := fun v32 => (Pr (eTerm v32))) rfl rfl rfl rfl rfl (p_index (e := eTerm) rfl rfl rfl underlying50 rfl (by decide))) ?_
  refine bindE (fun v32 => ?_)
  refine et (putp_adv (m := 1) (j := 9) (t' := [(1, (I a1)), (2, (V.sl 0 1 (List.map sTerm a2))), (3, (Pt 3)), (7, (I x18)), (8, (I x28)), (35, (Bo true)), (38, (eBase a0)), (39, (I a1)), (40, (V.sl 0 1 (List.map sTerm a2))), (41, (I x18)), (42, (Pr (sTerm v31))), (43, (sTerm v31)), (44, (I x28)), (45, (Pr (eTerm v32))), (46, (eTerm v32))]) rfl rfl rfl) ?_
  refine et (regp_pure (x := (ref12_isTerm k a0 a1 v32)) (w := fun v33 => (Bo v33)) rfl rfl rfl rfl rfl (p_call rfl rfl rfl rfl rfl (ref12_isTerm_ok k a0 a1 v32) (.inl rfl))) ?_
  refine bindE (fun v33 => ?_)
  exact regp_end rfl
theorem f36r10 (k : Nat) (a0 : T_api_Base) (a1 : Int) (a2 : (List (List T_api_Term))) (x18 : Int) (x28 : Int) : RE k f36a10 f36o10 false ⟨[(1, (I a1)), (2, (V.sl 0 1 (List.map sTerm a2))), (3, (Pt 3)), (7, (I x18)), (8, (I x28)), (48, (Bo true))], [(3, vS 4 (eBase a0))], 52⟩ = some ⟨[(6, (Bo false))], [], 52⟩ :=
  rE rfl
theorem f36r8 (k : Nat) (a0 : T_api_Base) (a1 : Int) (a2 : (List (List T_api_Term))) (x18 : Int) (x28 : Int) : RE k f36a8 f36o8 false ⟨[(1, (I a1)), (2, (V.sl 0 1 (List.map sTerm a2))), (3, (Pt 3)), (7, (I x18)), (8, (I x28)), (48, (Bo false))], [(3, vS 4 (eBase a0))], 52⟩ = some ⟨[(1, (I a1)), (2, (V.sl 0 1 (List.map sTerm a2))), (3, (Pt 3)), (7, (I x18)), (8, (I (Go.IntKind.wrap .i64 (x28 + 1))))], [(3, vS 4 (eBase a0))], 52⟩ :=
  rE rfl
theorem ref12_isCondition_L2_ok (k : Nat) (a0 : T_api_Base) (a1 : Int) (a2 : (List (List T_api_Term))) (x18 : Int)  (K0 : Int → Option Bool) (Kst : X × St → Option (V × List V)) (hK0 : ∀ (y0 : Int), Kst (X.exit 2, ⟨[(1, (I a1)), (2, (V.sl 0 1 (List.map sTerm a2))), (3, (Pt 3)), (7, (I x18)), (8, (I y0)), (35, (Bo false))], [(3, vS 4 (eBase a0))], 52⟩) = (K0 y0).map ref12_isCondition_fin) (hret : ∀ s, Kst (X.ret, s) = endK prog 52 [(eBase a0), (I a1), (V.sl 0 1 (List.map sTerm a2))] [] [.tmp 6] (X.ret, s)) :
    ∀ (m : Nat) (x28 : Int), (iter (exec prog (EV k) f36n k f36b0) m ⟨[(1, (I a1)), (2, (V.sl 0 1 (List.map sTerm a2))), (3, (Pt 3)), (7, (I x18)), (8, (I x28))], [(3, vS 4 (eBase a0))], 52⟩).bind Kst = (ref12_isCondition_L2 k a0 a1 a2 x18 K0 m x28).map ref12_isCondition_fin := by
  intro m
  induction m with
  | zero => intros; rfl
  | succ m ih =>
    intro x28
    unfold ref12_isCondition_L2
    refine et k_round ?_
    refine et k_assoc ?_
    refine et (k_region rfl (f36r7 k a0 a1 a2 x18 x28)) ?_
    refine bindE (fun o30 => ?_)
    refine et (k_cond (t := o30) rfl rfl) ?_
    refine bifE2 (fun hc => ?_) fun hc => ?_
    · rw [hc]
      refine et k_skip ?_
      refine et (k_block rfl) ?_
      refine et (k_region rfl (f36r9 k a0 a1 a2 x18 x28)) ?_
      refine bindE (fun o34 => ?_)
      refine et (k_lcond (t := o34) rfl rfl) ?_
      refine bifE2 (fun hc => ?_) fun hc => ?_
      · rw [hc]
        refine et (k_region0 rfl (f36r10 k a0 a1 a2 x18 x28)) ?_
        refine et k_lret ?_
        refine et blk_ret ?_
        refine et loop_ret ?_
        refine et (hret _) ?_
        rfl
      · rw [hc]
        refine et k_lskip ?_
        refine et blk_normal ?_
        refine et (k_lregion0 rfl (f36r8 k a0 a1 a2 x18 x28)) ?_
        refine et loop_normal ?_
        exact ih (Go.IntKind.wrap .i64 (x28 + 1))
    · rw [hc]
      refine et k_exit ?_
      refine et loop_exit ?_
      exact hK0 x28
theorem f36r3 (k : Nat) (a0 : T_api_Base) (a1 : Int) (a2 : (List (List T_api_Term))) (x18 : Int) (y35 : Int) : RE k f36a3 f36o3 false ⟨[(1, (I a1)), (2, (V.sl 0 1 (List.map sTerm a2))), (3, (Pt 3)), (7, (I x18)), (8, (I y35)), (35, (Bo false))], [(3, vS 4 (eBase a0))], 52⟩ = some ⟨[(1, (I a1)), (2, (V.sl 0 1 (List.map sTerm a2))), (3, (Pt 3)), (7, (I (Go.IntKind.wrap .i64 (x18 + 1))))], [(3, vS 4 (eBase a0))], 52⟩ :=
  rE rfl
theorem ref12_isCondition_L1_ok (k : Nat) (a0 : T_api_Base) (a1 : Int) (a2 : (List (List T_api_Term)))  (K0 : Int → Option Bool) (Kst : X × St → Option (V × List V)) (hK0 : ∀ (y0 : Int), Kst (X.exit 0, ⟨[(1, (I a1)), (2, (V.sl 0 1 (List.map sTerm a2))), (3, (Pt 3)), (7, (I y0)), (12, (Bo false))], [(3, vS 4 (eBase a0))], 52⟩) = (K0 y0).map ref12_isCondition_fin) (hret : ∀ s, Kst (X.ret, s) = endK prog 52 [(eBase a0), (I a1), (V.sl 0 1 (List.map sTerm a2))] [] [.tmp 6] (X.ret, s)) :
    ∀ (m : Nat) (x18 : Int), (iter (exec prog (EV k) f36n k f36b1) m ⟨[(1, (I a1)), (2, (V.sl 0 1 (List.map sTerm a2))), (3, (Pt 3)), (7, (I x18))], [(3, vS 4 (eBase a0))], 52⟩).bind Kst = (ref12_isCondition_L1 k a0 a1 a2 K0 m x18).map ref12_isCondition_fin := by
  intro m
  induction m with
  | zero => intros; rfl
  | succ m ih =>
    intro x18
    unfold ref12_isCondition_L1
    refine et k_round ?_
    refine et k_assoc ?_
    refine et (k_region0 rfl (f36r2 k a0 a1 a2 x18)) ?_
    refine et (k_cond (t := (decide (x18 < (a2.length : Int)))) rfl rfl) ?_
    refine bifE2 (fun hc => ?_) fun hc => ?_
    · rw [hc]
      refine et k_skip ?_
      refine et (k_block rfl) ?_
      refine et k_assoc ?_
      refine et (k_region rfl (f36r4 k a0 a1 a2 x18)) ?_
      refine bindE (fun o21 => ?_)
      refine et (k_cond (t := o21) rfl rfl) ?_
      refine bifE2 (fun hc => ?_) fun hc => ?_
      · rw [hc]
        refine et k_assoc ?_
        refine et (k_region0 rfl (f36r5 k a0 a1 a2 x18)) ?_
        refine et k_ret ?_
        refine et blk_ret ?_
        refine et loop_ret ?_
        refine et (hret _) ?_
        rfl
      · rw [hc]
        refine et k_skip ?_
        refine et (k_region0 rfl (f36r6 k a0 a1 a2 x18)) ?_
        refine et (k_lblock rfl) ?_
        refine et k_loop ?_
        refine ref12_isCondition_L2_ok k a0 a1 a2 x18 _ _ ?h_ref12_isCondition_L2_0 ?hr_ref12_isCondition_L2 k 0
        · intro y35
          refine et blk_exit ?_
          refine et k_lskip ?_
          refine et blk_normal ?_
          refine et (k_lregion0 rfl (f36r3 k a0 a1 a2 x18 y35)) ?_
          refine et loop_normal ?_
          exact ih (Go.IntKind.wrap .i64 (x18 + 1))
        · intro s; exact hret s
    · rw [hc]
      refine et k_exit ?_
      refine et loop_exit ?_
      exact hK0 x18
theorem f36r11 (k : Nat) (a0 : T_api_Base) (a1 : Int) (a2 : (List (List T_api_Term))) (y36 : Int) : RE k f36a11 f36o11 false ⟨[(1, (I a1)), (2, (V.sl 0 1 (List.map sTerm a2))), (3, (Pt 3)), (7, (I y36)), (12, (Bo false))], [(3, vS 4 (eBase a0))], 52⟩ = some ⟨[(6, (Bo (decide ((a2.length : Int) ≤ 4))))], [], 52⟩ := by
  refine rg ?_
  refine ra 1 1 ⟨[(1, (I a1)), (2, (V.sl 0 1 (List.map sTerm a2))), (3, (Pt 3)), (7, (I y36)), (12, (Bo false)), (49, (V.sl 0 1 (List.map sTerm a2)))], [(3, vS 4 (eBase a0))], 52⟩ rfl rfl rfl ?_
  refine et (reg_pure (x := some ()) (w := fun _ => (I (a2.length : Int))) rfl rfl rfl rfl (p_len (e := sTerm) rfl rfl rfl rfl rfl rfl underlying26)) ?_
  refine et some_bind ?_
  exact bind_end rfl
theorem ref12_isCondition_ok (k : Nat) (a0 : T_api_Base) (a1 : Int) (a2 : (List (List T_api_Term))) : EV k 36 [(eBase a0), (I a1), (V.sl 0 1 (List.map sTerm a2))] = (ref12_isCondition k a0 a1 a2).map ref12_isCondition_fin := by
  cases k with
  | zero => rfl
  | succ k =>
    unfold ref12_isCondition
    refine et (evF_succ (c := f36c) (N := 52) (regs := f36n) rfl func36 rfl (by decide) rfl rfl rfl) ?_
    refine et (k_region0 rfl (f36r0 k a0 a1 a2)) ?_
    refine et k_assoc ?_
    refine et (k_region0 rfl (f36r1 k a0 a1 a2)) ?_
    refine et (k_block rfl) ?_
    refine et k_loop ?_
    refine ref12_isCondition_L1_ok k a0 a1 a2 _ _ ?h_ref12_isCondition_L1_0 ?hr_ref12_isCondition_L1 k 0
    · intro y36
      refine et blk_exit ?_
      refine et (k_region0 rfl (f36r11 k a0 a1 a2 y36)) ?_
      refine et k_lret ?_
      rfl
    · intro s; exact rfl
def ref12_Valid_fin : (Bool × Int) → V × List V := fun r => (.tup [(Bo r.1), (I r.2)], [])
theorem f16r0 (k : Nat) (a0 : T_api_Base) (a1 : Int) (a2 : (List (List T_api_Term))) : RE k f16a0 f16o0 false ⟨[(0, (eBase a0)), (1, (I a1)), (2, (V.sl 0 1 (List.map sTerm a2)))], [], 19⟩ = some ⟨[(1, (I a1)), (2, (V.sl 0 1 (List.map sTerm a2))), (3, (Pt 3))], [(3, vS 4 (eBase a0))], 19⟩ :=
  rE rfl
theorem f16r1 (k : Nat) (a0 : T_api_Base) (a1 : Int) (a2 : (List (List T_api_Term))) : RE k f16a1 f16o1 false ⟨[(1, (I a1)), (2, (V.sl 0 1 (List.map sTerm a2))), (3, (Pt 3))], [(3, vS 4 (eBase a0))], 19⟩ = ((ref12_isType k a0 a1)).map (fun (o : Int) => (⟨[(1, (I a1)), (2, (V.sl 0 1 (List.map sTerm a2))), (3, (Pt 3)), (8, (I o))], [(3, vS 4 (eBase a0))], 19⟩ : St)) := by
  refine rg ?_
  refine ra 2 2 ⟨[(1, (I a1)), (2, (V.sl 0 1 (List.map sTerm a2))), (3, (Pt 3)), (9, (eBase a0)), (10, (I a1))], [(3, vS 4 (eBase a0))], 19⟩ rfl rfl rfl ?_
  refine et (reg_pure (x := (ref12_isType k a0 a1)) (w := fun v1 => (I v1)) rfl rfl rfl rfl (p_call rfl rfl rfl rfl rfl (ref12_isType_ok k a0 a1) (.inl rfl))) ?_
  refine bind_self (fun v1 => ?_)
  exact bind_end rfl
theorem f16r2 (k : Nat) (a0 : T_api_Base) (a1 : Int) (a2 : (List (List T_api_Term))) (o2 : Int) : RE k f16a2 f16o2 false ⟨[(1, (I a1)), (2, (V.sl 0 1 (List.map sTerm a2))), (3, (Pt 3)), (8, (I o2))], [(3, vS 4 (eBase a0))], 19⟩ = some ⟨[(1, (I a1)), (2, (V.sl 0 1 (List.map sTerm a2))), (3, (Pt 3)), (8, (I o2)), (13, (Bo (o2 != 0)))], [(3, vS 4 (eBase a0))], 19⟩ :=
  rE rfl
theorem f16r3 (k : Nat) (a0 : T_api_Base) (a1 : Int) (a2 : (List (List T_api_Term))) (o2 : Int) : RE k f16a3 f16o3 false ⟨[(1, (I a1)), (2, (V.sl 0 1 (List.map sTerm a2))), (3, (Pt 3)), (8, (I o2)), (13, (Bo true))], [(3, vS 4 (eBase a0))], 19⟩ = some ⟨[(6, (Bo false)), (7, (I o2))], [], 19⟩ :=
  rE rfl
theorem f16r4 (k : Nat) (a0 : T_api_Base) (a1 : Int) (a2 : (List (List T_api_Term))) (o2 : Int) : RE k f16a4 f16o4 false ⟨[(1, (I a1)), (2, (V.sl 0 1 (List.map sTerm a2))), (3, (Pt 3)), (8, (I o2)), (13, (Bo false))], [(3, vS 4 (eBase a0))], 19⟩ = (((ref12_isCondition k a0 a1 a2).bind fun v3 => (some (v3, 0)))).map (fun (o : Bool × Int) => (⟨[(6, (Bo o.1)), (7, (I o.2))], [], 19⟩ : St)) := by
  refine rg ?_
  refine ra 3 3 ⟨[(1, (I a1)), (2, (V.sl 0 1 (List.map sTerm a2))), (3, (Pt 3)), (8, (I o2)), (13, (Bo false)), (15, (eBase a0)), (16, (I a1)), (17, (V.sl 0 1 (List.map sTerm a2)))], [(3, vS 4 (eBase a0))], 19⟩ rfl rfl rfl ?_
  refine et (reg_pure (x := (ref12_isCondition k a0 a1 a2)) (w := fun v3 => (Bo v3)) rfl rfl rfl rfl (p_call rfl rfl rfl rfl rfl (ref12_isCondition_ok k a0 a1 a2) (.inl rfl))) ?_
  refine bindE (fun v3 => ?_)
  exact bind_end rfl
end
end Go.AE
