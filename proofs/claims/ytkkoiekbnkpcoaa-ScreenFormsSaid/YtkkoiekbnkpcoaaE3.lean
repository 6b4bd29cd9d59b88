/- The program, function by function: the evaluator comes to the typed functions. Conditions: none. -/
import Derived.Test.YtkkoiekbnkpcoaaA3
import Derived.KernelRfl
import Derived.Test.YtkkoiekbnkpcoaaProg
import Derived.Test.YtkkoiekbnkpcoaaB1
import Derived.Test.YtkkoiekbnkpcoaaE2
namespace Go.AE
open Go.Proofs.Try Go.Sh
set_option linter.unusedSimpArgs false
set_option linter.unusedVariables false
set_option maxRecDepth 100000
set_option maxHeartbeats 4000000
noncomputable section
theorem ref24_Same_ok (k : Nat) (a0 : T_api_Form) (a1 : T_api_Form) : EV k 27 [(enc_T_api_Form a0), (enc_T_api_Form a1)] = (ref24_Same k a0 a1).map ref24_Same_fin := by
  cases k with
  | zero => rfl
  | succ k =>
    unfold ref24_Same
    refine Eq.trans (evF_succ (c := f27c) (N := 73) (regs := f27n) rfl Go.Proofs.Try.func27 rfl (by decide) rfl rfl rfl) ?_
    refine Eq.trans (k_region0 rfl (f27r0 k a0 a1)) ?_
    refine Eq.trans k_assoc ?_
    refine Eq.trans (k_region rfl (f27r1 k a0 a1)) ?_
    refine bindE (fun o1 => ?_)
    refine Eq.trans (k_cond (t := o1) rfl rfl) ?_
    refine bifE2 (fun hc => ?_) fun hc => ?_
    · rw [hc]
      refine Eq.trans k_assoc ?_
      refine Eq.trans (k_region0 rfl (f27r2 k a0 a1)) ?_
      refine Eq.trans k_ret ?_
      rfl
    · rw [hc]
      refine Eq.trans k_skip ?_
      refine Eq.trans k_assoc ?_
      refine Eq.trans (k_region0 rfl (f27r3 k a0 a1)) ?_
      refine Eq.trans (k_block rfl) ?_
      refine Eq.trans k_loop ?_
      refine ref24_Same_L1_ok k a0 a1 _ _ ?h_ref24_Same_L1_0 ?hr_ref24_Same_L1 k 0
      · intro y9
        refine Eq.trans blk_exit ?_
        refine Eq.trans k_assoc ?_
        refine Eq.trans (k_region0 rfl (f27r8 k a0 a1 y9)) ?_
        refine Eq.trans (k_block rfl) ?_
        refine Eq.trans k_loop ?_
        refine ref24_Same_L2_ok k a0 a1 _ _ ?h_ref24_Same_L2_0 ?hr_ref24_Same_L2 k 0
        · intro y17
          refine Eq.trans blk_exit ?_
          refine Eq.trans (k_region0 rfl (f27r13 k a0 a1 y17)) ?_
          refine Eq.trans k_lret ?_
          rfl
        · intro s; exact rfl
      · intro s; exact rfl
def screen_Lengths_fin : (Int × Int × Int) → V × List V := fun r => (.tup [(I r.1), (I r.2.1), (I r.2.2)], [])
theorem f28r0 (k : Nat) (a0 : T_api_Form) : RE k f28a0 f28o0 false ⟨[(0, (enc_T_api_Form a0))], [], 15⟩ = some ⟨[(1, (V.ptr 1 0 0))], [(1, ⟨false, 4, [(enc_T_api_Form a0)]⟩)], 15⟩ :=
  rE rfl
theorem f28r1 (k : Nat) (a0 : T_api_Form) : RE k f28a1 f28o1 false ⟨[(1, (V.ptr 1 0 0))], [(1, ⟨false, 4, [(enc_T_api_Form a0)]⟩)], 15⟩ = (((screen_Valid k a0).bind fun v1 => (some ((!v1))))).map (fun (o : Bool) => (⟨[(1, (V.ptr 1 0 0)), (7, (V.bool o))], [(1, ⟨false, 4, [(enc_T_api_Form a0)]⟩)], 15⟩ : St)) := by
  refine rg ?_
  refine ra 1 1 ⟨[(1, (V.ptr 1 0 0)), (5, (enc_T_api_Form a0))], [(1, ⟨false, 4, [(enc_T_api_Form a0)]⟩)], 15⟩ rfl rfl rfl ?_
  refine Eq.trans (reg_pure (x := (screen_Valid k a0)) (w := fun v1 => (V.bool v1)) rfl rfl rfl rfl (p_call rfl rfl rfl rfl rfl (screen_Valid_ok k a0) (.inl rfl))) ?_
  refine bindE (fun v1 => ?_)
  exact bind_end rfl
theorem f28r2 (k : Nat) (a0 : T_api_Form) : RE k f28a2 f28o2 false ⟨[(1, (V.ptr 1 0 0)), (7, (V.bool true))], [(1, ⟨false, 4, [(enc_T_api_Form a0)]⟩)], 15⟩ = some ⟨[(2, (I 0)), (3, (I 0)), (4, (I 220))], [], 15⟩ :=
  rE rfl
theorem f28r3 (k : Nat) (a0 : T_api_Form) : RE k f28a3 f28o3 false ⟨[(1, (V.ptr 1 0 0)), (7, (V.bool false))], [(1, ⟨false, 4, [(enc_T_api_Form a0)]⟩)], 15⟩ = (((screen_lengths k a0).bind fun v3 => (some (v3.1, v3.2)))).map (fun (o : Int × Int) => (⟨[(2, (I o.1)), (3, (I o.2))], [], 15⟩ : St)) := by
  refine rg ?_
  refine ra 1 1 ⟨[(1, (V.ptr 1 0 0)), (7, (V.bool false)), (9, (enc_T_api_Form a0))], [(1, ⟨false, 4, [(enc_T_api_Form a0)]⟩)], 15⟩ rfl rfl rfl ?_
  refine Eq.trans (reg_pure (x := (screen_lengths k a0)) (w := fun v3 => (V.tup [(I v3.1), (I v3.2)])) rfl rfl rfl rfl (p_call rfl rfl rfl rfl rfl (screen_lengths_ok k a0) (.inl rfl))) ?_
  refine bindE (fun v3 => ?_)
  exact bind_end rfl
theorem f28r4 (k : Nat) (o4 : Int × Int) : RE k f28a4 f28o4 false ⟨[(2, (I o4.1)), (3, (I o4.2))], [], 15⟩ = some ⟨[(2, (I o4.1)), (3, (I o4.2)), (4, (I 0))], [], 15⟩ :=
  rE rfl
theorem screen_Lengths_ok (k : Nat) (a0 : T_api_Form) : EV k 28 [(enc_T_api_Form a0)] = (screen_Lengths k a0).map screen_Lengths_fin := by
  cases k with
  | zero => rfl
  | succ k =>
    unfold screen_Lengths
    refine Eq.trans (evF_succ (c := f28c) (N := 15) (regs := f28n) rfl Go.Proofs.Try.func28 rfl (by decide) rfl rfl rfl) ?_
    refine Eq.trans (k_region0 rfl (f28r0 k a0)) ?_
    refine Eq.trans k_assoc ?_
    refine Eq.trans (k_region rfl (f28r1 k a0)) ?_
    refine bindE (fun o2 => ?_)
    refine Eq.trans (k_cond (t := o2) rfl rfl) ?_
    refine bifE2 (fun hc => ?_) fun hc => ?_
    · rw [hc]
      refine Eq.trans k_assoc ?_
      refine Eq.trans (k_region0 rfl (f28r2 k a0)) ?_
      refine Eq.trans k_ret ?_
      rfl
    · rw [hc]
      refine Eq.trans k_skip ?_
      refine Eq.trans (k_region rfl (f28r3 k a0)) ?_
      refine bindE (fun o4 => ?_)
      refine Eq.trans (k_region0 rfl (f28r4 k o4)) ?_
      refine Eq.trans k_lret ?_
      rfl
def ref24_Lengths_fin : (Int × Int × Int) → V × List V := fun r => (.tup [(I r.1), (I r.2.1), (I r.2.2)], [])
theorem f29r0 (k : Nat) (a0 : T_api_Form) : RE k f29a0 f29o0 false ⟨[(0, (enc_T_api_Form a0))], [], 17⟩ = some ⟨[(1, (V.ptr 1 0 0))], [(1, ⟨false, 4, [(enc_T_api_Form a0)]⟩)], 17⟩ :=
  rE rfl
theorem f29r1 (k : Nat) (a0 : T_api_Form) : RE k f29a1 f29o1 false ⟨[(1, (V.ptr 1 0 0))], [(1, ⟨false, 4, [(enc_T_api_Form a0)]⟩)], 17⟩ = (((ref24_Valid k a0).bind fun v1 => (some ((!v1))))).map (fun (o : Bool) => (⟨[(1, (V.ptr 1 0 0)), (9, (V.bool o))], [(1, ⟨false, 4, [(enc_T_api_Form a0)]⟩)], 17⟩ : St)) := by
  refine rg ?_
  refine ra 1 1 ⟨[(1, (V.ptr 1 0 0)), (7, (enc_T_api_Form a0))], [(1, ⟨false, 4, [(enc_T_api_Form a0)]⟩)], 17⟩ rfl rfl rfl ?_
  refine Eq.trans (reg_pure (x := (ref24_Valid k a0)) (w := fun v1 => (V.bool v1)) rfl rfl rfl rfl (p_call rfl rfl rfl rfl rfl (ref24_Valid_ok k a0) (.inl rfl))) ?_
  refine bindE (fun v1 => ?_)
  exact bind_end rfl
theorem f29r2 (k : Nat) (a0 : T_api_Form) : RE k f29a2 f29o2 false ⟨[(1, (V.ptr 1 0 0)), (9, (V.bool true))], [(1, ⟨false, 4, [(enc_T_api_Form a0)]⟩)], 17⟩ = some ⟨[(2, (I 0)), (3, (I 0)), (4, (I 220))], [], 17⟩ :=
  rE rfl
theorem f29r3 (k : Nat) (a0 : T_api_Form) : RE k f29a3 f29o3 false ⟨[(1, (V.ptr 1 0 0)), (9, (V.bool false))], [(1, ⟨false, 4, [(enc_T_api_Form a0)]⟩)], 17⟩ = (((ref24_lengths k a0).bind fun v3 => (some (v3.1, v3.2)))).map (fun (o : Int × Int) => (⟨[(5, (I o.1)), (6, (I o.2))], [], 17⟩ : St)) := by
  refine rg ?_
  refine ra 1 1 ⟨[(1, (V.ptr 1 0 0)), (9, (V.bool false)), (11, (enc_T_api_Form a0))], [(1, ⟨false, 4, [(enc_T_api_Form a0)]⟩)], 17⟩ rfl rfl rfl ?_
  refine Eq.trans (reg_pure (x := (ref24_lengths k a0)) (w := fun v3 => (V.tup [(I v3.1), (I v3.2)])) rfl rfl rfl rfl (p_call rfl rfl rfl rfl rfl (ref24_lengths_ok k a0) (.inl rfl))) ?_
  refine bindE (fun v3 => ?_)
  exact bind_end rfl
theorem f29r4 (k : Nat) (o4 : Int × Int) : RE k f29a4 f29o4 false ⟨[(5, (I o4.1)), (6, (I o4.2))], [], 17⟩ = some ⟨[(2, (I o4.1)), (3, (I o4.2)), (4, (I 0))], [], 17⟩ :=
  rE rfl
theorem ref24_Lengths_ok (k : Nat) (a0 : T_api_Form) : EV k 29 [(enc_T_api_Form a0)] = (ref24_Lengths k a0).map ref24_Lengths_fin := by
  cases k with
  | zero => rfl
  | succ k =>
    unfold ref24_Lengths
    refine Eq.trans (evF_succ (c := f29c) (N := 17) (regs := f29n) rfl Go.Proofs.Try.func29 rfl (by decide) rfl rfl rfl) ?_
    refine Eq.trans (k_region0 rfl (f29r0 k a0)) ?_
    refine Eq.trans k_assoc ?_
    refine Eq.trans (k_region rfl (f29r1 k a0)) ?_
    refine bindE (fun o2 => ?_)
    refine Eq.trans (k_cond (t := o2) rfl rfl) ?_
    refine bifE2 (fun hc => ?_) fun hc => ?_
    · rw [hc]
      refine Eq.trans k_assoc ?_
      refine Eq.trans (k_region0 rfl (f29r2 k a0)) ?_
      refine Eq.trans k_ret ?_
      rfl
    · rw [hc]
      refine Eq.trans k_skip ?_
      refine Eq.trans (k_region rfl (f29r3 k a0)) ?_
      refine bindE (fun o4 => ?_)
      refine Eq.trans (k_region0 rfl (f29r4 k o4)) ?_
      refine Eq.trans k_lret ?_
      rfl
def slices_IndexFunc_Slot_v12_fin : Int → V × List V := fun r => ((I r), [])
theorem f61v12r0 (k : Nat) (a0 : (List T_api_Slot)) (a1 : Nat → T_api_Slot → Option Bool) (a1_fid : Go.FuncId) (a1_c0 : V) (a1_c1 : V) (a1_hok : ∀ j x0, EV j a1_fid [(enc_T_api_Slot x0), V.pro a1_c0, V.pro a1_c1] = (a1 j x0).map fun b => ((V.bool b), [])) : RE k f61v12a0 f61v12o0 false ⟨[(0, (sSlot a0)), (1, (V.fn a1_fid [] [V.pro a1_c0, V.pro a1_c1]))], [], 19⟩ = some ⟨[(0, (sSlot a0)), (1, (V.fn a1_fid [] [V.pro a1_c0, V.pro a1_c1]))], [], 19⟩ :=
  rE rfl
theorem f61v12r1 (k : Nat) (a0 : (List T_api_Slot)) (a1 : Nat → T_api_Slot → Option Bool) (a1_fid : Go.FuncId) (a1_c0 : V) (a1_c1 : V) (a1_hok : ∀ j x0, EV j a1_fid [(enc_T_api_Slot x0), V.pro a1_c0, V.pro a1_c1] = (a1 j x0).map fun b => ((V.bool b), [])) : RE k f61v12a1 f61v12o1 false ⟨[(0, (sSlot a0)), (1, (V.fn a1_fid [] [V.pro a1_c0, V.pro a1_c1]))], [], 19⟩ = some ⟨[(0, (sSlot a0)), (1, (V.fn a1_fid [] [V.pro a1_c0, V.pro a1_c1])), (7, (I (a0.length : Int))), (8, (I 0))], [], 19⟩ := by
  refine rg ?_
  refine ra 1 1 ⟨[(0, (sSlot a0)), (1, (V.fn a1_fid [] [V.pro a1_c0, V.pro a1_c1])), (6, (sSlot a0))], [], 19⟩ rfl rfl rfl ?_
  refine Eq.trans (reg_pure (x := some ()) (w := fun _ => (I (a0.length : Int))) rfl rfl rfl rfl (p_len (e := enc_T_api_Slot) rfl rfl rfl rfl rfl rfl Go.Proofs.Try.underlying23)) ?_
  refine Eq.trans some_bind ?_
  exact bind_end rfl
theorem f61v12r2 (k : Nat) (a0 : (List T_api_Slot)) (x4 : Int) (a1 : Nat → T_api_Slot → Option Bool) (a1_fid : Go.FuncId) (a1_c0 : V) (a1_c1 : V) (a1_hok : ∀ j x0, EV j a1_fid [(enc_T_api_Slot x0), V.pro a1_c0, V.pro a1_c1] = (a1 j x0).map fun b => ((V.bool b), [])) : RE k f61v12a2 f61v12o2 false ⟨[(0, (sSlot a0)), (1, (V.fn a1_fid [] [V.pro a1_c0, V.pro a1_c1])), (7, (I (a0.length : Int))), (8, (I x4))], [], 19⟩ = some ⟨[(0, (sSlot a0)), (1, (V.fn a1_fid [] [V.pro a1_c0, V.pro a1_c1])), (7, (I (a0.length : Int))), (8, (I x4)), (9, (V.bool (decide (x4 < (a0.length : Int)))))], [], 19⟩ :=
  rE rfl
theorem f61v12r3 (k : Nat) (a0 : (List T_api_Slot)) (x4 : Int) (a1 : Nat → T_api_Slot → Option Bool) (a1_fid : Go.FuncId) (a1_c0 : V) (a1_c1 : V) (a1_hok : ∀ j x0, EV j a1_fid [(enc_T_api_Slot x0), V.pro a1_c0, V.pro a1_c1] = (a1 j x0).map fun b => ((V.bool b), [])) : RE k f61v12a3 f61v12o3 false ⟨[(0, (sSlot a0)), (1, (V.fn a1_fid [] [V.pro a1_c0, V.pro a1_c1])), (7, (I (a0.length : Int))), (8, (I x4)), (9, (V.bool true))], [], 19⟩ = some ⟨[(0, (sSlot a0)), (1, (V.fn a1_fid [] [V.pro a1_c0, V.pro a1_c1])), (5, (I x4)), (7, (I (a0.length : Int))), (8, (I x4))], [], 19⟩ :=
  rE rfl
theorem f61v12r4 (k : Nat) (a0 : (List T_api_Slot)) (x4 : Int) (a1 : Nat → T_api_Slot → Option Bool) (a1_fid : Go.FuncId) (a1_c0 : V) (a1_c1 : V) (a1_hok : ∀ j x0, EV j a1_fid [(enc_T_api_Slot x0), V.pro a1_c0, V.pro a1_c1] = (a1 j x0).map fun b => ((V.bool b), [])) : RE k f61v12a4 f61v12o4 false ⟨[(0, (sSlot a0)), (1, (V.fn a1_fid [] [V.pro a1_c0, V.pro a1_c1])), (5, (I x4)), (7, (I (a0.length : Int))), (8, (I x4))], [], 19⟩ = (((idx a0 x4).bind fun v5 => (a1 k v5))).map (fun (o : Bool) => (⟨[(0, (sSlot a0)), (1, (V.fn a1_fid [] [V.pro a1_c0, V.pro a1_c1])), (5, (I x4)), (7, (I (a0.length : Int))), (8, (I x4)), (16, (V.bool o))], [], 19⟩ : St)) := by
  refine rg ?_
  refine ra 3 3 ⟨[(0, (sSlot a0)), (1, (V.fn a1_fid [] [V.pro a1_c0, V.pro a1_c1])), (5, (I x4)), (7, (I (a0.length : Int))), (8, (I x4)), (11, (V.fn a1_fid [] [V.pro a1_c0, V.pro a1_c1])), (12, (sSlot a0)), (13, (I x4))], [], 19⟩ rfl rfl rfl ?_
  refine Eq.trans (reg_pure (x := (idx a0 x4)) (w := fun v5 => (V.pro (enc_T_api_Slot v5))) rfl rfl rfl rfl (p_index (e := enc_T_api_Slot) rfl rfl rfl Go.Proofs.Try.underlying23 rfl (by decide))) ?_
  refine bindE (fun v5 => ?_)
  refine ba 1 5 ⟨[(0, (sSlot a0)), (1, (V.fn a1_fid [] [V.pro a1_c0, V.pro a1_c1])), (5, (I x4)), (7, (I (a0.length : Int))), (8, (I x4)), (11, (V.fn a1_fid [] [V.pro a1_c0, V.pro a1_c1])), (12, (sSlot a0)), (13, (I x4)), (14, (V.pro (enc_T_api_Slot v5))), (15, (enc_T_api_Slot v5))], [], 19⟩ rfl rfl rfl ?_
  refine Eq.trans (reg_pure (x := (a1 k v5)) (w := fun v6 => (V.bool v6)) rfl rfl rfl rfl (p_call rfl rfl rfl rfl rfl (a1_hok k v5) (.inl rfl))) ?_
  refine bind_self (fun v6 => ?_)
  exact bind_end rfl
theorem f61v12r5 (k : Nat) (a0 : (List T_api_Slot)) (x4 : Int) (a1 : Nat → T_api_Slot → Option Bool) (a1_fid : Go.FuncId) (a1_c0 : V) (a1_c1 : V) (a1_hok : ∀ j x0, EV j a1_fid [(enc_T_api_Slot x0), V.pro a1_c0, V.pro a1_c1] = (a1 j x0).map fun b => ((V.bool b), [])) : RE k f61v12a5 f61v12o5 false ⟨[(0, (sSlot a0)), (1, (V.fn a1_fid [] [V.pro a1_c0, V.pro a1_c1])), (5, (I x4)), (7, (I (a0.length : Int))), (8, (I x4)), (16, (V.bool true))], [], 19⟩ = some ⟨[(4, (I x4))], [], 19⟩ :=
  rE rfl
theorem f61v12r6 (k : Nat) (a0 : (List T_api_Slot)) (x4 : Int) (a1 : Nat → T_api_Slot → Option Bool) (a1_fid : Go.FuncId) (a1_c0 : V) (a1_c1 : V) (a1_hok : ∀ j x0, EV j a1_fid [(enc_T_api_Slot x0), V.pro a1_c0, V.pro a1_c1] = (a1 j x0).map fun b => ((V.bool b), [])) : RE k f61v12a6 f61v12o6 false ⟨[(0, (sSlot a0)), (1, (V.fn a1_fid [] [V.pro a1_c0, V.pro a1_c1])), (5, (I x4)), (7, (I (a0.length : Int))), (8, (I x4)), (16, (V.bool false))], [], 19⟩ = some ⟨[(0, (sSlot a0)), (1, (V.fn a1_fid [] [V.pro a1_c0, V.pro a1_c1])), (7, (I (a0.length : Int))), (8, (I (Go.IntKind.wrap .i64 (x4 + 1))))], [], 19⟩ :=
  rE rfl
theorem slices_IndexFunc_Slot_v12_L1_ok (k : Nat) (a0 : (List T_api_Slot)) (a1 : Nat → T_api_Slot → Option Bool) (a1_fid : Go.FuncId) (a1_c0 : V) (a1_c1 : V) (a1_hok : ∀ j x0, EV j a1_fid [(enc_T_api_Slot x0), V.pro a1_c0, V.pro a1_c1] = (a1 j x0).map fun b => ((V.bool b), [])) (K0 : Int → Option Int) (Kst : X × St → Option (V × List V)) (hK0 : ∀ (y0 : Int), Kst (X.exit 0, ⟨[(0, (sSlot a0)), (1, (V.fn a1_fid [] [V.pro a1_c0, V.pro a1_c1])), (7, (I (a0.length : Int))), (8, (I y0)), (9, (V.bool false))], [], 19⟩) = (K0 y0).map slices_IndexFunc_Slot_v12_fin) (hret : ∀ s, Kst (X.ret, s) = endK prog 19 [(sSlot a0), (V.fn a1_fid [] [V.pro a1_c0, V.pro a1_c1])] [] [.tmp 4] (X.ret, s)) :
    ∀ (m : Nat) (x4 : Int), (iter (exec prog (EV k) f61v12n k f61v12b0) m ⟨[(0, (sSlot a0)), (1, (V.fn a1_fid [] [V.pro a1_c0, V.pro a1_c1])), (7, (I (a0.length : Int))), (8, (I x4))], [], 19⟩).bind Kst = (slices_IndexFunc_Slot_v12_L1 k a0 a1 K0 m x4).map slices_IndexFunc_Slot_v12_fin := by
  intro m
  induction m with
  | zero => intros; rfl
  | succ m ih =>
    intro x4
    unfold slices_IndexFunc_Slot_v12_L1
    refine Eq.trans k_round ?_
    refine Eq.trans (k_region0 rfl (f61v12r2 k a0 x4 a1 a1_fid a1_c0 a1_c1 a1_hok)) ?_
    refine Eq.trans (k_cond (t := (decide (x4 < (a0.length : Int)))) rfl rfl) ?_
    refine bifE2 (fun hc => ?_) fun hc => ?_
    · rw [hc]
      refine Eq.trans k_skip ?_
      refine Eq.trans (k_block rfl) ?_
      refine Eq.trans (k_region0 rfl (f61v12r3 k a0 x4 a1 a1_fid a1_c0 a1_c1 a1_hok)) ?_
      refine Eq.trans (k_region rfl (f61v12r4 k a0 x4 a1 a1_fid a1_c0 a1_c1 a1_hok)) ?_
      refine bindE (fun o7 => ?_)
      refine Eq.trans (k_lcond (t := o7) rfl rfl) ?_
      refine bifE2 (fun hc => ?_) fun hc => ?_
      · rw [hc]
        refine Eq.trans (k_region0 rfl (f61v12r5 k a0 x4 a1 a1_fid a1_c0 a1_c1 a1_hok)) ?_
        refine Eq.trans k_lret ?_
        refine Eq.trans blk_ret ?_
        refine Eq.trans loop_ret ?_
        refine Eq.trans (hret _) ?_
        rfl
      · rw [hc]
        refine Eq.trans k_lskip ?_
        refine Eq.trans blk_normal ?_
        refine Eq.trans (k_lregion0 rfl (f61v12r6 k a0 x4 a1 a1_fid a1_c0 a1_c1 a1_hok)) ?_
        refine Eq.trans loop_normal ?_
        exact ih (Go.IntKind.wrap .i64 (x4 + 1))
    · rw [hc]
      refine Eq.trans k_exit ?_
      refine Eq.trans loop_exit ?_
      exact hK0 x4
theorem f61v12r7 (k : Nat) (a0 : (List T_api_Slot)) (y8 : Int) (a1 : Nat → T_api_Slot → Option Bool) (a1_fid : Go.FuncId) (a1_c0 : V) (a1_c1 : V) (a1_hok : ∀ j x0, EV j a1_fid [(enc_T_api_Slot x0), V.pro a1_c0, V.pro a1_c1] = (a1 j x0).map fun b => ((V.bool b), [])) : RE k f61v12a7 f61v12o7 false ⟨[(0, (sSlot a0)), (1, (V.fn a1_fid [] [V.pro a1_c0, V.pro a1_c1])), (7, (I (a0.length : Int))), (8, (I y8)), (9, (V.bool false))], [], 19⟩ = some ⟨[(4, (I (-1)))], [], 19⟩ :=
  rE rfl
theorem slices_IndexFunc_Slot_v12_ok (k : Nat) (a0 : (List T_api_Slot)) (a1 : Nat → T_api_Slot → Option Bool) (a1_fid : Go.FuncId) (a1_c0 : V) (a1_c1 : V) (a1_hok : ∀ j x0, EV j a1_fid [(enc_T_api_Slot x0), V.pro a1_c0, V.pro a1_c1] = (a1 j x0).map fun b => ((V.bool b), [])) : EV k 61 [(sSlot a0), (V.fn a1_fid [] [V.pro a1_c0, V.pro a1_c1])] = (slices_IndexFunc_Slot_v12 k a0 a1).map slices_IndexFunc_Slot_v12_fin := by
  cases k with
  | zero => rfl
  | succ k =>
    unfold slices_IndexFunc_Slot_v12
    refine Eq.trans (evF_succ (c := f61v12c) (N := 19) (regs := f61v12n) rfl Go.Proofs.Try.func61 rfl (by decide) rfl rfl rfl) ?_
    refine Eq.trans (k_region0 rfl (f61v12r0 k a0 a1 a1_fid a1_c0 a1_c1 a1_hok)) ?_
    refine Eq.trans k_assoc ?_
    refine Eq.trans (k_region0 rfl (f61v12r1 k a0 a1 a1_fid a1_c0 a1_c1 a1_hok)) ?_
    refine Eq.trans (k_block rfl) ?_
    refine Eq.trans k_loop ?_
    refine slices_IndexFunc_Slot_v12_L1_ok k a0 a1 a1_fid a1_c0 a1_c1 a1_hok _ _ ?h_slices_IndexFunc_Slot_v12_L1_0 ?hr_slices_IndexFunc_Slot_v12_L1 k 0
    · intro y8
      refine Eq.trans blk_exit ?_
      refine Eq.trans (k_region0 rfl (f61v12r7 k a0 y8 a1 a1_fid a1_c0 a1_c1 a1_hok)) ?_
      refine Eq.trans k_lret ?_
      rfl
    · intro s; exact rfl
def screen_At_1_fin : Bool → V × List V := fun r => ((V.bool r), [])
theorem f62r0 (k : Nat) (a0 : T_api_Slot) (a1 : Int) (a2 : Int) : RE k f62a0 f62o0 false ⟨[(0, (enc_T_api_Slot a0)), (1, (V.pro (I a1))), (2, (V.pro (I a2)))], [], 16⟩ = some ⟨[(1, (V.pro (I a1))), (2, (V.pro (I a2))), (3, (V.ptr 3 0 0))], [(3, ⟨false, 7, [(enc_T_api_Slot a0)]⟩)], 16⟩ :=
  rE rfl
theorem f62r1 (k : Nat) (a0 : T_api_Slot) (a1 : Int) (a2 : Int) : RE k f62a1 f62o1 false ⟨[(1, (V.pro (I a1))), (2, (V.pro (I a2))), (3, (V.ptr 3 0 0))], [(3, ⟨false, 7, [(enc_T_api_Slot a0)]⟩)], 16⟩ = ((screen_part_meets k ({ frow := a0.fRow, fcolumn := a0.fColumn, fn := a0.fBytes } : T_screen_part) ({ frow := a1, fcolumn := a2, fn := 1 } : T_screen_part))).map (fun (o : Bool) => (⟨[(4, (V.bool o))], [], 16⟩ : St)) := by
  refine rg ?_
  refine ra 10 10 ⟨[(1, (V.pro (I a1))), (2, (V.pro (I a2))), (3, (V.ptr 3 0 0)), (5, (V.ptr 3 0 1)), (6, (I a0.fRow)), (7, (V.ptr 3 0 2)), (8, (I a0.fColumn)), (9, (V.ptr 3 0 3)), (10, (I a0.fBytes)), (11, (enc_T_screen_part ({ frow := a0.fRow, fcolumn := a0.fColumn, fn := a0.fBytes } : T_screen_part))), (12, (I a1)), (13, (I a2)), (14, (enc_T_screen_part ({ frow := a1, fcolumn := a2, fn := 1 } : T_screen_part)))], [(3, ⟨false, 7, [(enc_T_api_Slot a0)]⟩)], 16⟩ rfl rfl rfl ?_
  refine Eq.trans (reg_pure (x := (screen_part_meets k ({ frow := a0.fRow, fcolumn := a0.fColumn, fn := a0.fBytes } : T_screen_part) ({ frow := a1, fcolumn := a2, fn := 1 } : T_screen_part))) (w := fun v1 => (V.bool v1)) rfl rfl rfl rfl (p_call rfl rfl rfl rfl rfl (screen_part_meets_ok k ({ frow := a0.fRow, fcolumn := a0.fColumn, fn := a0.fBytes } : T_screen_part) ({ frow := a1, fcolumn := a2, fn := 1 } : T_screen_part)) (.inl rfl))) ?_
  refine bind_self (fun v1 => ?_)
  exact bind_end rfl
theorem screen_At_1_ok (k : Nat) (a0 : T_api_Slot) (a1 : Int) (a2 : Int) : EV k 62 [(enc_T_api_Slot a0), (V.pro (I a1)), (V.pro (I a2))] = (screen_At_1 k a0 a1 a2).map screen_At_1_fin := by
  cases k with
  | zero => rfl
  | succ k =>
    unfold screen_At_1
    refine Eq.trans (evF_succ (c := f62c) (N := 16) (regs := f62n) rfl Go.Proofs.Try.func62 rfl (by decide) rfl rfl rfl) ?_
    refine Eq.trans (k_region0 rfl (f62r0 k a0 a1 a2)) ?_
    refine Eq.trans (k_region rfl (f62r1 k a0 a1 a2)) ?_
    refine bindE (fun o2 => ?_)
    refine Eq.trans k_lret ?_
    rfl
def screen_At_fin : (Int × Int) → V × List V := fun r => (.tup [(I r.1), (I r.2)], [])
theorem f30r0 (k : Nat) (a0 : T_api_Form) (a1 : Int) (a2 : Int) : RE k f30a0 f30o0 false ⟨[(0, (enc_T_api_Form a0)), (1, (I a1)), (2, (I a2))], [], 22⟩ = some ⟨[(3, (V.ptr 3 0 0)), (4, (V.ptr 4 0 0)), (5, (V.ptr 5 0 0))], [(3, ⟨false, 4, [(enc_T_api_Form a0)]⟩), (4, ⟨false, 1, [(I a1)]⟩), (5, ⟨false, 1, [(I a2)]⟩)], 22⟩ :=
  rE rfl
theorem f30r1 (k : Nat) (a0 : T_api_Form) (a1 : Int) (a2 : Int) : RE k f30a1 f30o1 false ⟨[(3, (V.ptr 3 0 0)), (4, (V.ptr 4 0 0)), (5, (V.ptr 5 0 0))], [(3, ⟨false, 4, [(enc_T_api_Form a0)]⟩), (4, ⟨false, 1, [(I a1)]⟩), (5, ⟨false, 1, [(I a2)]⟩)], 22⟩ = (((screen_Valid k a0).bind fun v1 => (some ((!v1))))).map (fun (o : Bool) => (⟨[(3, (V.ptr 3 0 0)), (4, (V.ptr 4 0 0)), (5, (V.ptr 5 0 0)), (8, (V.bool o))], [(3, ⟨false, 4, [(enc_T_api_Form a0)]⟩), (4, ⟨false, 1, [(I a1)]⟩), (5, ⟨false, 1, [(I a2)]⟩)], 22⟩ : St)) := by
  refine rg ?_
  refine ra 1 1 ⟨[(3, (V.ptr 3 0 0)), (4, (V.ptr 4 0 0)), (5, (V.ptr 5 0 0)), (9, (enc_T_api_Form a0))], [(3, ⟨false, 4, [(enc_T_api_Form a0)]⟩), (4, ⟨false, 1, [(I a1)]⟩), (5, ⟨false, 1, [(I a2)]⟩)], 22⟩ rfl rfl rfl ?_
  refine Eq.trans (reg_pure (x := (screen_Valid k a0)) (w := fun v1 => (V.bool v1)) rfl rfl rfl rfl (p_call rfl rfl rfl rfl rfl (screen_Valid_ok k a0) (.inl rfl))) ?_
  refine bindE (fun v1 => ?_)
  exact bind_end rfl
theorem f30r2 (k : Nat) (a0 : T_api_Form) (a1 : Int) (a2 : Int) : RE k f30a2 f30o2 false ⟨[(3, (V.ptr 3 0 0)), (4, (V.ptr 4 0 0)), (5, (V.ptr 5 0 0)), (8, (V.bool true))], [(3, ⟨false, 4, [(enc_T_api_Form a0)]⟩), (4, ⟨false, 1, [(I a1)]⟩), (5, ⟨false, 1, [(I a2)]⟩)], 22⟩ = some ⟨[(6, (I 0)), (7, (I 220))], [], 22⟩ :=
  rE rfl
theorem f30r3 (k : Nat) (a0 : T_api_Form) (a1 : Int) (a2 : Int) : RE k f30a3 f30o3 false ⟨[(3, (V.ptr 3 0 0)), (4, (V.ptr 4 0 0)), (5, (V.ptr 5 0 0)), (8, (V.bool false))], [(3, ⟨false, 4, [(enc_T_api_Form a0)]⟩), (4, ⟨false, 1, [(I a1)]⟩), (5, ⟨false, 1, [(I a2)]⟩)], 22⟩ = (((screen_lies k a0 a1 a2 1).bind fun v3 => (some ((!v3))))).map (fun (o : Bool) => (⟨[(3, (V.ptr 3 0 0)), (4, (V.ptr 4 0 0)), (5, (V.ptr 5 0 0)), (12, (V.bool o))], [(3, ⟨false, 4, [(enc_T_api_Form a0)]⟩), (4, ⟨false, 1, [(I a1)]⟩), (5, ⟨false, 1, [(I a2)]⟩)], 22⟩ : St)) := by
  refine rg ?_
  refine ra 3 3 ⟨[(3, (V.ptr 3 0 0)), (4, (V.ptr 4 0 0)), (5, (V.ptr 5 0 0)), (8, (V.bool false)), (13, (enc_T_api_Form a0)), (14, (I a1)), (15, (I a2))], [(3, ⟨false, 4, [(enc_T_api_Form a0)]⟩), (4, ⟨false, 1, [(I a1)]⟩), (5, ⟨false, 1, [(I a2)]⟩)], 22⟩ rfl rfl rfl ?_
  refine Eq.trans (reg_pure (x := (screen_lies k a0 a1 a2 1)) (w := fun v3 => (V.bool v3)) rfl rfl rfl rfl (p_call rfl rfl rfl rfl rfl (screen_lies_ok k a0 a1 a2 1) (.inl rfl))) ?_
  refine bindE (fun v3 => ?_)
  exact bind_end rfl
theorem f30r4 (k : Nat) (a0 : T_api_Form) (a1 : Int) (a2 : Int) : RE k f30a4 f30o4 false ⟨[(3, (V.ptr 3 0 0)), (4, (V.ptr 4 0 0)), (5, (V.ptr 5 0 0)), (12, (V.bool true))], [(3, ⟨false, 4, [(enc_T_api_Form a0)]⟩), (4, ⟨false, 1, [(I a1)]⟩), (5, ⟨false, 1, [(I a2)]⟩)], 22⟩ = some ⟨[(6, (I 0)), (7, (I 2))], [], 22⟩ :=
  rE rfl
theorem f30r5 (k : Nat) (a0 : T_api_Form) (a1 : Int) (a2 : Int) : RE k f30a5 f30o5 false ⟨[(3, (V.ptr 3 0 0)), (4, (V.ptr 4 0 0)), (5, (V.ptr 5 0 0)), (12, (V.bool false))], [(3, ⟨false, 4, [(enc_T_api_Form a0)]⟩), (4, ⟨false, 1, [(I a1)]⟩), (5, ⟨false, 1, [(I a2)]⟩)], 22⟩ = (((slices_IndexFunc_Slot_v12 k a0.fFields (fun j x0 => (screen_At_1 j x0 a1 a2))).bind fun v5 => (some (v5, 0)))).map (fun (o : Int × Int) => (⟨[(6, (I o.1)), (7, (I o.2))], [], 22⟩ : St)) := by
  refine rg ?_
  refine ra 3 3 ⟨[(3, (V.ptr 3 0 0)), (4, (V.ptr 4 0 0)), (5, (V.ptr 5 0 0)), (12, (V.bool false)), (18, (V.ptr 3 0 3)), (19, (sSlot (a0.fFields))), (20, (V.fn 62 [] [(V.ptr 4 0 0), (V.ptr 5 0 0)]))], [(3, ⟨false, 4, [(enc_T_api_Form a0)]⟩), (4, ⟨false, 1, [(I a1)]⟩), (5, ⟨false, 1, [(I a2)]⟩)], 22⟩ rfl rfl rfl ?_
  refine Eq.trans (reg_pure (x := (slices_IndexFunc_Slot_v12 k a0.fFields (fun j x0 => (screen_At_1 j x0 a1 a2)))) (w := fun v5 => (I v5)) rfl rfl rfl rfl (p_call rfl rfl rfl rfl rfl (slices_IndexFunc_Slot_v12_ok k a0.fFields (fun j x0 => (screen_At_1 j x0 a1 a2)) 62 (I a1) (I a2) (fun j x0 => (screen_At_1_ok j x0 a1 a2))) (.inr (fun _ => rfl)))) ?_
  refine bindE (fun v5 => ?_)
  exact bind_end rfl
theorem screen_At_ok (k : Nat) (a0 : T_api_Form) (a1 : Int) (a2 : Int) : EV k 30 [(enc_T_api_Form a0), (I a1), (I a2)] = (screen_At k a0 a1 a2).map screen_At_fin := by
  cases k with
  | zero => rfl
  | succ k =>
    unfold screen_At
    refine Eq.trans (evF_succ (c := f30c) (N := 22) (regs := f30n) rfl Go.Proofs.Try.func30 rfl (by decide) rfl rfl rfl) ?_
    refine Eq.trans (k_region0 rfl (f30r0 k a0 a1 a2)) ?_
    refine Eq.trans (k_block rfl) ?_
    refine Eq.trans (k_region rfl (f30r1 k a0 a1 a2)) ?_
    refine bindE (fun o2 => ?_)
    refine Eq.trans (k_lcond (t := o2) rfl rfl) ?_
    refine bifE2 (fun hc => ?_) fun hc => ?_
    · rw [hc]
      refine Eq.trans (k_region0 rfl (f30r2 k a0 a1 a2)) ?_
      refine Eq.trans k_lret ?_
      refine Eq.trans blk_ret ?_
      rfl
    · rw [hc]
      refine Eq.trans (k_region rfl (f30r3 k a0 a1 a2)) ?_
      refine bindE (fun o4 => ?_)
      refine Eq.trans (k_lcond (t := o4) rfl rfl) ?_
      refine bifE2 (fun hc => ?_) fun hc => ?_
      · rw [hc]
        refine Eq.trans (k_region0 rfl (f30r4 k a0 a1 a2)) ?_
        refine Eq.trans k_lret ?_
        refine Eq.trans blk_ret ?_
        rfl
      · rw [hc]
        refine Eq.trans k_lskip ?_
        refine Eq.trans blk_normal ?_
        refine Eq.trans (k_region rfl (f30r5 k a0 a1 a2)) ?_
        refine bindE (fun o6 => ?_)
        refine Eq.trans k_lret ?_
        rfl
def ref24_at_fin : Int → V × List V := fun r => ((I r), [])
theorem f46r0 (k : Nat) (a0 : T_api_Form) (a1 : Int) (a2 : Int) : RE k f46a0 f46o0 false ⟨[(0, (enc_T_api_Form a0)), (1, (I a1)), (2, (I a2))], [], 41⟩ = some ⟨[(1, (I a1)), (2, (I a2)), (3, (V.ptr 3 0 0))], [(3, ⟨false, 4, [(enc_T_api_Form a0)]⟩)], 41⟩ :=
  rE rfl
theorem f46r1 (k : Nat) (a0 : T_api_Form) (a1 : Int) (a2 : Int) : RE k f46a1 f46o1 false ⟨[(1, (I a1)), (2, (I a2)), (3, (V.ptr 3 0 0))], [(3, ⟨false, 4, [(enc_T_api_Form a0)]⟩)], 41⟩ = some ⟨[(1, (I a1)), (2, (I a2)), (3, (V.ptr 3 0 0)), (7, (I 0))], [(3, ⟨false, 4, [(enc_T_api_Form a0)]⟩)], 41⟩ :=
  rE rfl
theorem f46r2 (k : Nat) (a0 : T_api_Form) (a1 : Int) (a2 : Int) (x4 : Int) : RE k f46a2 f46o2 false ⟨[(1, (I a1)), (2, (I a2)), (3, (V.ptr 3 0 0)), (7, (I x4))], [(3, ⟨false, 4, [(enc_T_api_Form a0)]⟩)], 41⟩ = some ⟨[(1, (I a1)), (2, (I a2)), (3, (V.ptr 3 0 0)), (7, (I x4)), (13, (V.bool (decide (x4 < (a0.fFields.length : Int)))))], [(3, ⟨false, 4, [(enc_T_api_Form a0)]⟩)], 41⟩ := by
  refine rg ?_
  refine ra 3 3 ⟨[(1, (I a1)), (2, (I a2)), (3, (V.ptr 3 0 0)), (7, (I x4)), (9, (I x4)), (10, (V.ptr 3 0 3)), (11, (sSlot (a0.fFields)))], [(3, ⟨false, 4, [(enc_T_api_Form a0)]⟩)], 41⟩ rfl rfl rfl ?_
  refine Eq.trans (reg_pure (x := some ()) (w := fun _ => (I (a0.fFields.length : Int))) rfl rfl rfl rfl (p_len (e := enc_T_api_Slot) rfl rfl rfl rfl rfl rfl Go.Proofs.Try.underlying23)) ?_
  refine Eq.trans some_bind ?_
  exact bind_end rfl
theorem f46r4 (k : Nat) (a0 : T_api_Form) (a1 : Int) (a2 : Int) (x4 : Int) : RE k f46a4 f46o4 false ⟨[(1, (I a1)), (2, (I a2)), (3, (V.ptr 3 0 0)), (7, (I x4)), (13, (V.bool true))], [(3, ⟨false, 4, [(enc_T_api_Form a0)]⟩)], 41⟩ = ((idx a0.fFields x4)).map (fun (o : T_api_Slot) => (⟨[(1, (I a1)), (2, (I a2)), (3, (V.ptr 3 0 0)), (7, (I x4)), (8, (V.ptr 8 0 0))], [(3, ⟨false, 4, [(enc_T_api_Form a0)]⟩), (8, ⟨false, 7, [(enc_T_api_Slot o)]⟩)], 41⟩ : St)) := by
  refine rg ?_
  refine ra 3 3 ⟨[(1, (I a1)), (2, (I a2)), (3, (V.ptr 3 0 0)), (7, (I x4)), (13, (V.bool true)), (16, (V.ptr 3 0 3)), (17, (sSlot (a0.fFields))), (18, (I x4))], [(3, ⟨false, 4, [(enc_T_api_Form a0)]⟩)], 41⟩ rfl rfl rfl ?_
  refine Eq.trans (reg_pure (x := (idx a0.fFields x4)) (w := fun v5 => (V.pro (enc_T_api_Slot v5))) rfl rfl rfl rfl (p_index (e := enc_T_api_Slot) rfl rfl rfl Go.Proofs.Try.underlying23 rfl (by decide))) ?_
  refine bind_self (fun v5 => ?_)
  exact bind_end rfl
theorem f46r5 (k : Nat) (a0 : T_api_Form) (a1 : Int) (a2 : Int) (x4 : Int) (o6 : T_api_Slot) : RE k f46a5 f46o5 false ⟨[(1, (I a1)), (2, (I a2)), (3, (V.ptr 3 0 0)), (7, (I x4)), (8, (V.ptr 8 0 0))], [(3, ⟨false, 4, [(enc_T_api_Form a0)]⟩), (8, ⟨false, 7, [(enc_T_api_Slot o6)]⟩)], 41⟩ = ((bif (o6.fRow == a1) then (bif (decide (o6.fColumn ≤ a2)) then (some ((decide (a2 < (Go.IntKind.wrap .i64 (o6.fColumn + o6.fBytes)))))) else (some (false))) else (some (false)))).map (fun (o : Bool) => (⟨[(1, (I a1)), (2, (I a2)), (3, (V.ptr 3 0 0)), (7, (I x4)), (39, (V.bool o))], [(3, ⟨false, 4, [(enc_T_api_Form a0)]⟩)], 41⟩ : St)) := by
  refine rg ?_
  refine ra 5 5 ⟨[(1, (I a1)), (2, (I a2)), (3, (V.ptr 3 0 0)), (7, (I x4)), (8, (V.ptr 8 0 0)), (21, (V.ptr 8 0 1)), (22, (I o6.fRow)), (23, (I a1)), (24, (V.bool (o6.fRow == a1))), (25, (V.bool (o6.fRow == a1)))], [(3, ⟨false, 4, [(enc_T_api_Form a0)]⟩), (8, ⟨false, 7, [(enc_T_api_Slot o6)]⟩)], 41⟩ rfl rfl rfl ?_
  refine bifE (c := (o6.fRow == a1)) (fun hc => ?_) fun hc => ?_
  · rw [hc]
    refine ra 6 11 ⟨[(1, (I a1)), (2, (I a2)), (3, (V.ptr 3 0 0)), (7, (I x4)), (8, (V.ptr 8 0 0)), (21, (V.ptr 8 0 1)), (22, (I o6.fRow)), (23, (I a1)), (24, (V.bool true)), (25, (V.bool true)), (26, (V.ptr 8 0 2)), (27, (I o6.fColumn)), (28, (I a2)), (29, (V.bool (decide (o6.fColumn ≤ a2)))), (30, (V.bool (decide (o6.fColumn ≤ a2)))), (31, (V.bool (decide (o6.fColumn ≤ a2))))], [(3, ⟨false, 4, [(enc_T_api_Form a0)]⟩), (8, ⟨false, 7, [(enc_T_api_Slot o6)]⟩)], 41⟩ rfl rfl rfl ?_
    refine bifE (c := (decide (o6.fColumn ≤ a2))) (fun hc => ?_) fun hc => ?_
    · rw [hc]
      exact reg_end rfl
    · rw [hc]
      exact reg_end rfl
  · rw [hc]
    exact reg_end rfl
theorem f46r6 (k : Nat) (a0 : T_api_Form) (a1 : Int) (a2 : Int) (x4 : Int) : RE k f46a6 f46o6 false ⟨[(1, (I a1)), (2, (I a2)), (3, (V.ptr 3 0 0)), (7, (I x4)), (39, (V.bool true))], [(3, ⟨false, 4, [(enc_T_api_Form a0)]⟩)], 41⟩ = some ⟨[(6, (I x4))], [], 41⟩ :=
  rE rfl
theorem f46r3 (k : Nat) (a0 : T_api_Form) (a1 : Int) (a2 : Int) (x4 : Int) : RE k f46a3 f46o3 false ⟨[(1, (I a1)), (2, (I a2)), (3, (V.ptr 3 0 0)), (7, (I x4)), (39, (V.bool false))], [(3, ⟨false, 4, [(enc_T_api_Form a0)]⟩)], 41⟩ = some ⟨[(1, (I a1)), (2, (I a2)), (3, (V.ptr 3 0 0)), (7, (I (Go.IntKind.wrap .i64 (x4 + 1))))], [(3, ⟨false, 4, [(enc_T_api_Form a0)]⟩)], 41⟩ :=
  rE rfl
theorem ref24_at_L1_ok (k : Nat) (a0 : T_api_Form) (a1 : Int) (a2 : Int)  (K0 : Int → Option Int) (Kst : X × St → Option (V × List V)) (hK0 : ∀ (y0 : Int), Kst (X.exit 0, ⟨[(1, (I a1)), (2, (I a2)), (3, (V.ptr 3 0 0)), (7, (I y0)), (13, (V.bool false))], [(3, ⟨false, 4, [(enc_T_api_Form a0)]⟩)], 41⟩) = (K0 y0).map ref24_at_fin) (hret : ∀ s, Kst (X.ret, s) = endK prog 41 [(enc_T_api_Form a0), (I a1), (I a2)] [] [.tmp 6] (X.ret, s)) :
    ∀ (m : Nat) (x4 : Int), (iter (exec prog (EV k) f46n k f46b0) m ⟨[(1, (I a1)), (2, (I a2)), (3, (V.ptr 3 0 0)), (7, (I x4))], [(3, ⟨false, 4, [(enc_T_api_Form a0)]⟩)], 41⟩).bind Kst = (ref24_at_L1 a0 a1 a2 K0 m x4).map ref24_at_fin := by
  intro m
  induction m with
  | zero => intros; rfl
  | succ m ih =>
    intro x4
    unfold ref24_at_L1
    refine Eq.trans k_round ?_
    refine Eq.trans k_assoc ?_
    refine Eq.trans (k_region0 rfl (f46r2 k a0 a1 a2 x4)) ?_
    refine Eq.trans (k_cond (t := (decide (x4 < (a0.fFields.length : Int)))) rfl rfl) ?_
    refine bifE2 (fun hc => ?_) fun hc => ?_
    · rw [hc]
      refine Eq.trans k_skip ?_
      refine Eq.trans (k_block rfl) ?_
      refine Eq.trans (k_region rfl (f46r4 k a0 a1 a2 x4)) ?_
      refine bindE (fun o6 => ?_)
      refine Eq.trans (k_region rfl (f46r5 k a0 a1 a2 x4 o6)) ?_
      refine bindE (fun o7 => ?_)
      refine Eq.trans (k_lcond (t := o7) rfl rfl) ?_
      refine bifE2 (fun hc => ?_) fun hc => ?_
      · rw [hc]
        refine Eq.trans (k_region0 rfl (f46r6 k a0 a1 a2 x4)) ?_
        refine Eq.trans k_lret ?_
        refine Eq.trans blk_ret ?_
        refine Eq.trans loop_ret ?_
        refine Eq.trans (hret _) ?_
        rfl
      · rw [hc]
        refine Eq.trans k_lskip ?_
        refine Eq.trans blk_normal ?_
        refine Eq.trans (k_lregion0 rfl (f46r3 k a0 a1 a2 x4)) ?_
        refine Eq.trans loop_normal ?_
        exact ih (Go.IntKind.wrap .i64 (x4 + 1))
    · rw [hc]
      refine Eq.trans k_exit ?_
      refine Eq.trans loop_exit ?_
      exact hK0 x4
theorem f46r7 (k : Nat) (a0 : T_api_Form) (a1 : Int) (a2 : Int) (y8 : Int) : RE k f46a7 f46o7 false ⟨[(1, (I a1)), (2, (I a2)), (3, (V.ptr 3 0 0)), (7, (I y8)), (13, (V.bool false))], [(3, ⟨false, 4, [(enc_T_api_Form a0)]⟩)], 41⟩ = some ⟨[(6, (I (-1)))], [], 41⟩ :=
  rE rfl
theorem ref24_at_ok (k : Nat) (a0 : T_api_Form) (a1 : Int) (a2 : Int) : EV k 46 [(enc_T_api_Form a0), (I a1), (I a2)] = (ref24_at k a0 a1 a2).map ref24_at_fin := by
  cases k with
  | zero => rfl
  | succ k =>
    unfold ref24_at
    refine Eq.trans (evF_succ (c := f46c) (N := 41) (regs := f46n) rfl Go.Proofs.Try.func46 rfl (by decide) rfl rfl rfl) ?_
    refine Eq.trans (k_region0 rfl (f46r0 k a0 a1 a2)) ?_
    refine Eq.trans k_assoc ?_
    refine Eq.trans (k_region0 rfl (f46r1 k a0 a1 a2)) ?_
    refine Eq.trans (k_block rfl) ?_
    refine Eq.trans k_loop ?_
    refine ref24_at_L1_ok k a0 a1 a2 _ _ ?h_ref24_at_L1_0 ?hr_ref24_at_L1 k 0
    · intro y8
      refine Eq.trans blk_exit ?_
      refine Eq.trans (k_region0 rfl (f46r7 k a0 a1 a2 y8)) ?_
      refine Eq.trans k_lret ?_
      rfl
    · intro s; exact rfl
def ref24_At_fin : (Int × Int) → V × List V := fun r => (.tup [(I r.1), (I r.2)], [])
theorem f31r0 (k : Nat) (a0 : T_api_Form) (a1 : Int) (a2 : Int) : RE k f31a0 f31o0 false ⟨[(0, (enc_T_api_Form a0)), (1, (I a1)), (2, (I a2))], [], 35⟩ = some ⟨[(1, (I a1)), (2, (I a2)), (3, (V.ptr 3 0 0))], [(3, ⟨false, 4, [(enc_T_api_Form a0)]⟩)], 35⟩ :=
  rE rfl
theorem f31r1 (k : Nat) (a0 : T_api_Form) (a1 : Int) (a2 : Int) : RE k f31a1 f31o1 false ⟨[(1, (I a1)), (2, (I a2)), (3, (V.ptr 3 0 0))], [(3, ⟨false, 4, [(enc_T_api_Form a0)]⟩)], 35⟩ = (((ref24_Valid k a0).bind fun v1 => (some ((!v1))))).map (fun (o : Bool) => (⟨[(1, (I a1)), (2, (I a2)), (3, (V.ptr 3 0 0)), (8, (V.bool o))], [(3, ⟨false, 4, [(enc_T_api_Form a0)]⟩)], 35⟩ : St)) := by
  refine rg ?_
  refine ra 1 1 ⟨[(1, (I a1)), (2, (I a2)), (3, (V.ptr 3 0 0)), (9, (enc_T_api_Form a0))], [(3, ⟨false, 4, [(enc_T_api_Form a0)]⟩)], 35⟩ rfl rfl rfl ?_
  refine Eq.trans (reg_pure (x := (ref24_Valid k a0)) (w := fun v1 => (V.bool v1)) rfl rfl rfl rfl (p_call rfl rfl rfl rfl rfl (ref24_Valid_ok k a0) (.inl rfl))) ?_
  refine bindE (fun v1 => ?_)
  exact bind_end rfl
theorem f31r2 (k : Nat) (a0 : T_api_Form) (a1 : Int) (a2 : Int) : RE k f31a2 f31o2 false ⟨[(1, (I a1)), (2, (I a2)), (3, (V.ptr 3 0 0)), (8, (V.bool true))], [(3, ⟨false, 4, [(enc_T_api_Form a0)]⟩)], 35⟩ = some ⟨[(6, (I 0)), (7, (I 220))], [], 35⟩ :=
  rE rfl
theorem f31r3 (k : Nat) (a0 : T_api_Form) (a1 : Int) (a2 : Int) : RE k f31a3 f31o3 false ⟨[(1, (I a1)), (2, (I a2)), (3, (V.ptr 3 0 0)), (8, (V.bool false))], [(3, ⟨false, 4, [(enc_T_api_Form a0)]⟩)], 35⟩ = ((bif (decide (a1 < 0)) then (some (true)) else (bif (decide (a1 ≥ a0.fRows)) then (some (true)) else (bif (decide (a2 < 0)) then (some (true)) else (some ((decide (a2 ≥ a0.fColumns)))))))).map (fun (o : Bool) => (⟨[(1, (I a1)), (2, (I a2)), (3, (V.ptr 3 0 0)), (12, (V.bool o))], [(3, ⟨false, 4, [(enc_T_api_Form a0)]⟩)], 35⟩ : St)) := by
  refine rg ?_
  refine ra 3 3 ⟨[(1, (I a1)), (2, (I a2)), (3, (V.ptr 3 0 0)), (8, (V.bool false)), (13, (I a1)), (14, (V.bool (decide (a1 < 0)))), (15, (V.bool (decide (a1 < 0))))], [(3, ⟨false, 4, [(enc_T_api_Form a0)]⟩)], 35⟩ rfl rfl rfl ?_
  refine bifE (c := (decide (a1 < 0))) (fun hc => ?_) fun hc => ?_
  · rw [hc]
    exact reg_end rfl
  · rw [hc]
    refine ra 6 9 ⟨[(1, (I a1)), (2, (I a2)), (3, (V.ptr 3 0 0)), (8, (V.bool false)), (13, (I a1)), (14, (V.bool false)), (15, (V.bool false)), (16, (I a1)), (17, (V.ptr 3 0 0)), (18, (I a0.fRows)), (19, (V.bool (decide (a1 ≥ a0.fRows)))), (20, (V.bool (decide (a1 ≥ a0.fRows)))), (21, (V.bool (decide (a1 ≥ a0.fRows))))], [(3, ⟨false, 4, [(enc_T_api_Form a0)]⟩)], 35⟩ rfl rfl rfl ?_
    refine bifE (c := (decide (a1 ≥ a0.fRows))) (fun hc => ?_) fun hc => ?_
    · rw [hc]
      exact reg_end rfl
    · rw [hc]
      refine ra 4 13 ⟨[(1, (I a1)), (2, (I a2)), (3, (V.ptr 3 0 0)), (8, (V.bool false)), (13, (I a1)), (14, (V.bool false)), (15, (V.bool false)), (16, (I a1)), (17, (V.ptr 3 0 0)), (18, (I a0.fRows)), (19, (V.bool false)), (20, (V.bool false)), (21, (V.bool false)), (22, (I a2)), (23, (V.bool (decide (a2 < 0)))), (24, (V.bool (decide (a2 < 0)))), (25, (V.bool (decide (a2 < 0))))], [(3, ⟨false, 4, [(enc_T_api_Form a0)]⟩)], 35⟩ rfl rfl rfl ?_
      refine bifE (c := (decide (a2 < 0))) (fun hc => ?_) fun hc => ?_
      · rw [hc]
        exact reg_end rfl
      · rw [hc]
        exact reg_end rfl
theorem f31r4 (k : Nat) (a0 : T_api_Form) (a1 : Int) (a2 : Int) : RE k f31a4 f31o4 false ⟨[(1, (I a1)), (2, (I a2)), (3, (V.ptr 3 0 0)), (12, (V.bool true))], [(3, ⟨false, 4, [(enc_T_api_Form a0)]⟩)], 35⟩ = some ⟨[(6, (I 0)), (7, (I 2))], [], 35⟩ :=
  rE rfl
theorem f31r5 (k : Nat) (a0 : T_api_Form) (a1 : Int) (a2 : Int) : RE k f31a5 f31o5 false ⟨[(1, (I a1)), (2, (I a2)), (3, (V.ptr 3 0 0)), (12, (V.bool false))], [(3, ⟨false, 4, [(enc_T_api_Form a0)]⟩)], 35⟩ = (((ref24_at k a0 a1 a2).bind fun v4 => (some (v4, 0)))).map (fun (o : Int × Int) => (⟨[(6, (I o.1)), (7, (I o.2))], [], 35⟩ : St)) := by
  refine rg ?_
  refine ra 3 3 ⟨[(1, (I a1)), (2, (I a2)), (3, (V.ptr 3 0 0)), (12, (V.bool false)), (31, (enc_T_api_Form a0)), (32, (I a1)), (33, (I a2))], [(3, ⟨false, 4, [(enc_T_api_Form a0)]⟩)], 35⟩ rfl rfl rfl ?_
  refine Eq.trans (reg_pure (x := (ref24_at k a0 a1 a2)) (w := fun v4 => (I v4)) rfl rfl rfl rfl (p_call rfl rfl rfl rfl rfl (ref24_at_ok k a0 a1 a2) (.inl rfl))) ?_
  refine bindE (fun v4 => ?_)
  exact bind_end rfl
theorem ref24_At_ok (k : Nat) (a0 : T_api_Form) (a1 : Int) (a2 : Int) : EV k 31 [(enc_T_api_Form a0), (I a1), (I a2)] = (ref24_At k a0 a1 a2).map ref24_At_fin := by
  cases k with
  | zero => rfl
  | succ k =>
    unfold ref24_At
    refine Eq.trans (evF_succ (c := f31c) (N := 35) (regs := f31n) rfl Go.Proofs.Try.func31 rfl (by decide) rfl rfl rfl) ?_
    refine Eq.trans (k_region0 rfl (f31r0 k a0 a1 a2)) ?_
    refine Eq.trans (k_block rfl) ?_
    refine Eq.trans (k_region rfl (f31r1 k a0 a1 a2)) ?_
    refine bindE (fun o2 => ?_)
    refine Eq.trans (k_lcond (t := o2) rfl rfl) ?_
    refine bifE2 (fun hc => ?_) fun hc => ?_
    · rw [hc]
      refine Eq.trans (k_region0 rfl (f31r2 k a0 a1 a2)) ?_
      refine Eq.trans k_lret ?_
      refine Eq.trans blk_ret ?_
      rfl
    · rw [hc]
      refine Eq.trans (k_region rfl (f31r3 k a0 a1 a2)) ?_
      refine bindE (fun o3 => ?_)
      refine Eq.trans (k_lcond (t := o3) rfl rfl) ?_
      refine bifE2 (fun hc => ?_) fun hc => ?_
      · rw [hc]
        refine Eq.trans (k_region0 rfl (f31r4 k a0 a1 a2)) ?_
        refine Eq.trans k_lret ?_
        refine Eq.trans blk_ret ?_
        rfl
      · rw [hc]
        refine Eq.trans k_lskip ?_
        refine Eq.trans blk_normal ?_
        refine Eq.trans (k_region rfl (f31r5 k a0 a1 a2)) ?_
        refine bindE (fun o5 => ?_)
        refine Eq.trans k_lret ?_
        rfl
def law24_ScreenForms_fin : Bool → V × List V := fun r => ((V.bool r), [])
theorem f5r0 (k : Nat) (a0 : T_api_Form) (a1 : T_api_Form) (a2 : T_arr2_Int) : RE k f5a0 f5o0 false ⟨[(0, (enc_T_api_Form a0)), (1, (enc_T_api_Form a1)), (2, (enc_T_arr2_Int a2))], [], 123⟩ = some ⟨[(3, (V.ptr 3 0 0)), (4, (V.ptr 4 0 0)), (5, (V.ptr 5 0 0))], [(3, ⟨false, 4, [(enc_T_api_Form a0)]⟩), (4, ⟨false, 4, [(enc_T_api_Form a1)]⟩), (5, ⟨false, 2, [(enc_T_arr2_Int a2)]⟩)], 123⟩ :=
  rE rfl
theorem f5r1 (k : Nat) (a0 : T_api_Form) (a1 : T_api_Form) (a2 : T_arr2_Int) : RE k f5a1 f5o1 false ⟨[(3, (V.ptr 3 0 0)), (4, (V.ptr 4 0 0)), (5, (V.ptr 5 0 0))], [(3, ⟨false, 4, [(enc_T_api_Form a0)]⟩), (4, ⟨false, 4, [(enc_T_api_Form a1)]⟩), (5, ⟨false, 2, [(enc_T_arr2_Int a2)]⟩)], 123⟩ = (((law24_Large k a0).bind fun v1 => (bif v1 then (some (true)) else (law24_Large k a1)))).map (fun (o : Bool) => (⟨[(3, (V.ptr 3 0 0)), (4, (V.ptr 4 0 0)), (5, (V.ptr 5 0 0)), (24, (V.bool o))], [(3, ⟨false, 4, [(enc_T_api_Form a0)]⟩), (4, ⟨false, 4, [(enc_T_api_Form a1)]⟩), (5, ⟨false, 2, [(enc_T_arr2_Int a2)]⟩)], 123⟩ : St)) := by
  refine rg ?_
  refine ra 1 1 ⟨[(3, (V.ptr 3 0 0)), (4, (V.ptr 4 0 0)), (5, (V.ptr 5 0 0)), (19, (enc_T_api_Form a0))], [(3, ⟨false, 4, [(enc_T_api_Form a0)]⟩), (4, ⟨false, 4, [(enc_T_api_Form a1)]⟩), (5, ⟨false, 2, [(enc_T_arr2_Int a2)]⟩)], 123⟩ rfl rfl rfl ?_
  refine Eq.trans (reg_pure (x := (law24_Large k a0)) (w := fun v1 => (V.bool v1)) rfl rfl rfl rfl (p_call rfl rfl rfl rfl rfl (law24_Large_ok k a0) (.inl rfl))) ?_
  refine bindE (fun v1 => ?_)
  refine ba 1 3 ⟨[(3, (V.ptr 3 0 0)), (4, (V.ptr 4 0 0)), (5, (V.ptr 5 0 0)), (19, (enc_T_api_Form a0)), (20, (V.bool v1)), (21, (V.bool v1))], [(3, ⟨false, 4, [(enc_T_api_Form a0)]⟩), (4, ⟨false, 4, [(enc_T_api_Form a1)]⟩), (5, ⟨false, 2, [(enc_T_arr2_Int a2)]⟩)], 123⟩ rfl rfl rfl ?_
  refine bifE (c := v1) (fun hc => ?_) fun hc => ?_
  · rw [hc]
    exact reg_end rfl
  · rw [hc]
    refine ra 1 4 ⟨[(3, (V.ptr 3 0 0)), (4, (V.ptr 4 0 0)), (5, (V.ptr 5 0 0)), (19, (enc_T_api_Form a0)), (20, (V.bool false)), (21, (V.bool false)), (22, (enc_T_api_Form a1))], [(3, ⟨false, 4, [(enc_T_api_Form a0)]⟩), (4, ⟨false, 4, [(enc_T_api_Form a1)]⟩), (5, ⟨false, 2, [(enc_T_arr2_Int a2)]⟩)], 123⟩ rfl rfl rfl ?_
    refine Eq.trans (reg_pure (x := (law24_Large k a1)) (w := fun v2 => (V.bool v2)) rfl rfl rfl rfl (p_call rfl rfl rfl rfl rfl (law24_Large_ok k a1) (.inl rfl))) ?_
    refine bind_self (fun v2 => ?_)
    exact bind_end rfl
theorem f5r2 (k : Nat) (a0 : T_api_Form) (a1 : T_api_Form) (a2 : T_arr2_Int) : RE k f5a2 f5o2 false ⟨[(3, (V.ptr 3 0 0)), (4, (V.ptr 4 0 0)), (5, (V.ptr 5 0 0)), (24, (V.bool true))], [(3, ⟨false, 4, [(enc_T_api_Form a0)]⟩), (4, ⟨false, 4, [(enc_T_api_Form a1)]⟩), (5, ⟨false, 2, [(enc_T_arr2_Int a2)]⟩)], 123⟩ = ((law24_Awake k)).map (fun (o : Bool) => (⟨[(6, (V.bool o))], [], 123⟩ : St)) := by
  refine rg ?_
  refine Eq.trans (reg_pure (x := (law24_Awake k)) (w := fun v4 => (V.bool v4)) rfl rfl rfl rfl (p_call rfl rfl rfl rfl rfl (law24_Awake_ok k) (.inl rfl))) ?_
  refine bind_self (fun v4 => ?_)
  exact bind_end rfl
theorem f5r3 (k : Nat) (a0 : T_api_Form) (a1 : T_api_Form) (a2 : T_arr2_Int) : RE k f5a3 f5o3 false ⟨[(3, (V.ptr 3 0 0)), (4, (V.ptr 4 0 0)), (5, (V.ptr 5 0 0)), (24, (V.bool false))], [(3, ⟨false, 4, [(enc_T_api_Form a0)]⟩), (4, ⟨false, 4, [(enc_T_api_Form a1)]⟩), (5, ⟨false, 2, [(enc_T_arr2_Int a2)]⟩)], 123⟩ = (((screen_Blank k a0).bind fun v6 => (some (v6.1, v6.2)))).map (fun (o : (List Str) × Int) => (⟨[(3, (V.ptr 3 0 0)), (4, (V.ptr 4 0 0)), (5, (V.ptr 5 0 0)), (7, (V.sl 0 1 (List.map V.str o.1))), (8, (I o.2))], [(3, ⟨false, 4, [(enc_T_api_Form a0)]⟩), (4, ⟨false, 4, [(enc_T_api_Form a1)]⟩), (5, ⟨false, 2, [(enc_T_arr2_Int a2)]⟩)], 123⟩ : St)) := by
  refine rg ?_
  refine ra 1 1 ⟨[(3, (V.ptr 3 0 0)), (4, (V.ptr 4 0 0)), (5, (V.ptr 5 0 0)), (24, (V.bool false)), (27, (enc_T_api_Form a0))], [(3, ⟨false, 4, [(enc_T_api_Form a0)]⟩), (4, ⟨false, 4, [(enc_T_api_Form a1)]⟩), (5, ⟨false, 2, [(enc_T_arr2_Int a2)]⟩)], 123⟩ rfl rfl rfl ?_
  refine Eq.trans (reg_pure (x := (screen_Blank k a0)) (w := fun v6 => (V.tup [(V.sl 0 1 (List.map V.str v6.1)), (I v6.2)])) rfl rfl rfl rfl (p_call rfl rfl rfl rfl rfl (screen_Blank_ok k a0) (.inl rfl))) ?_
  refine bindE (fun v6 => ?_)
  exact bind_end rfl
theorem f5r4 (k : Nat) (a0 : T_api_Form) (a1 : T_api_Form) (a2 : T_arr2_Int) (o7 : (List Str) × Int) : RE k f5a4 f5o4 false ⟨[(3, (V.ptr 3 0 0)), (4, (V.ptr 4 0 0)), (5, (V.ptr 5 0 0)), (7, (V.sl 0 1 (List.map V.str o7.1))), (8, (I o7.2))], [(3, ⟨false, 4, [(enc_T_api_Form a0)]⟩), (4, ⟨false, 4, [(enc_T_api_Form a1)]⟩), (5, ⟨false, 2, [(enc_T_arr2_Int a2)]⟩)], 123⟩ = (((ref24_Blank k a0).bind fun v8 => (some (v8.1, v8.2)))).map (fun (o : (List Str) × Int) => (⟨[(3, (V.ptr 3 0 0)), (4, (V.ptr 4 0 0)), (5, (V.ptr 5 0 0)), (7, (V.sl 0 1 (List.map V.str o7.1))), (8, (I o7.2)), (9, (V.sl 0 1 (List.map V.str o.1))), (10, (I o.2))], [(3, ⟨false, 4, [(enc_T_api_Form a0)]⟩), (4, ⟨false, 4, [(enc_T_api_Form a1)]⟩), (5, ⟨false, 2, [(enc_T_arr2_Int a2)]⟩)], 123⟩ : St)) := by
  refine rg ?_
  refine ra 1 1 ⟨[(3, (V.ptr 3 0 0)), (4, (V.ptr 4 0 0)), (5, (V.ptr 5 0 0)), (7, (V.sl 0 1 (List.map V.str o7.1))), (8, (I o7.2)), (32, (enc_T_api_Form a0))], [(3, ⟨false, 4, [(enc_T_api_Form a0)]⟩), (4, ⟨false, 4, [(enc_T_api_Form a1)]⟩), (5, ⟨false, 2, [(enc_T_arr2_Int a2)]⟩)], 123⟩ rfl rfl rfl ?_
  refine Eq.trans (reg_pure (x := (ref24_Blank k a0)) (w := fun v8 => (V.tup [(V.sl 0 1 (List.map V.str v8.1)), (I v8.2)])) rfl rfl rfl rfl (p_call rfl rfl rfl rfl rfl (ref24_Blank_ok k a0) (.inl rfl))) ?_
  refine bindE (fun v8 => ?_)
  exact bind_end rfl
theorem f5r5 (k : Nat) (a0 : T_api_Form) (a1 : T_api_Form) (a2 : T_arr2_Int) (o7 : (List Str) × Int) (o9 : (List Str) × Int) : RE k f5a5 f5o5 true ⟨[(3, (V.ptr 3 0 0)), (4, (V.ptr 4 0 0)), (5, (V.ptr 5 0 0)), (7, (V.sl 0 1 (List.map V.str o7.1))), (8, (I o7.2)), (9, (V.sl 0 1 (List.map V.str o9.1))), (10, (I o9.2))], [(3, ⟨false, 4, [(enc_T_api_Form a0)]⟩), (4, ⟨false, 4, [(enc_T_api_Form a1)]⟩), (5, ⟨false, 2, [(enc_T_arr2_Int a2)]⟩)], 123⟩ = (((screen_Valid k a0).bind fun v10 => ((ref24_Valid k a0).bind fun v11 => (bif (!(v10 == v11)) then (some (true)) else ((ref01_SameTexts k o7.1 o9.1).bind fun v12 => (bif (!v12) then (some (true)) else (bif (o7.2 != o9.2) then (some (true)) else ((screen_Same k a0 a1).bind fun v13 => ((ref24_Same k a0 a1).bind fun v14 => (bif (!(v13 == v14)) then (some (true)) else ((screen_Same k a1 a1).bind fun v15 => (some ((!v15)))))))))))))).map (fun (o : Bool) => (⟨[(3, (V.ptr 3 0 0)), (5, (V.ptr 5 0 0)), (66, (V.bool o))], [(3, ⟨false, 4, [(enc_T_api_Form a0)]⟩), (5, ⟨false, 2, [(enc_T_arr2_Int a2)]⟩)], 123⟩ : St)) := by
  refine Eq.trans (regionE_regp (p := 31) (dk := true) (t := [(3, (V.ptr 3 0 0)), (4, (V.ptr 4 0 0)), (5, (V.ptr 5 0 0)), (7, (V.sl 0 1 (List.map V.str o7.1))), (8, (I o7.2)), (9, (V.sl 0 1 (List.map V.str o9.1))), (10, (I o9.2))]) (σ := [(3, ⟨false, 4, [(enc_T_api_Form a0)]⟩), (4, ⟨false, 4, [(enc_T_api_Form a1)]⟩), (5, ⟨false, 2, [(enc_T_arr2_Int a2)]⟩)]) (n := 123) (by decide) (by decide) rfl) ?_
  refine Eq.trans (regp_adv (m := 1) (j := 1) (t' := [(3, (V.ptr 3 0 0)), (4, (V.ptr 4 0 0)), (5, (V.ptr 5 0 0)), (7, (V.sl 0 1 (List.map V.str o7.1))), (8, (I o7.2)), (9, (V.sl 0 1 (List.map V.str o9.1))), (10, (I o9.2)), (36, (enc_T_api_Form a0))]) rfl rfl rfl) ?_
  refine Eq.trans (regp_pure (x := (screen_Valid k a0)) (w := fun v10 => (V.bool v10)) rfl rfl rfl rfl rfl (p_call rfl rfl rfl rfl rfl (screen_Valid_ok k a0) (.inl rfl))) ?_
  refine bindE (fun v10 => ?_)
  refine Eq.trans (putp_adv (m := 1) (j := 3) (t' := [(3, (V.ptr 3 0 0)), (4, (V.ptr 4 0 0)), (5, (V.ptr 5 0 0)), (7, (V.sl 0 1 (List.map V.str o7.1))), (8, (I o7.2)), (9, (V.sl 0 1 (List.map V.str o9.1))), (10, (I o9.2)), (36, (enc_T_api_Form a0)), (37, (V.bool v10)), (38, (enc_T_api_Form a0))]) rfl rfl rfl) ?_
  refine Eq.trans (regp_pure (x := (ref24_Valid k a0)) (w := fun v11 => (V.bool v11)) rfl rfl rfl rfl rfl (p_call rfl rfl rfl rfl rfl (ref24_Valid_ok k a0) (.inl rfl))) ?_
  refine bindE (fun v11 => ?_)
  refine Eq.trans (putp_adv (m := 2) (j := 6) (t' := [(3, (V.ptr 3 0 0)), (4, (V.ptr 4 0 0)), (5, (V.ptr 5 0 0)), (7, (V.sl 0 1 (List.map V.str o7.1))), (8, (I o7.2)), (9, (V.sl 0 1 (List.map V.str o9.1))), (10, (I o9.2)), (36, (enc_T_api_Form a0)), (37, (V.bool v10)), (38, (enc_T_api_Form a0)), (39, (V.bool v11)), (40, (V.bool (!(v10 == v11)))), (41, (V.bool (!(v10 == v11))))]) rfl rfl rfl) ?_
  refine bifE (c := (!(v10 == v11))) (fun hc => ?_) fun hc => ?_
  · rw [hc]
    exact regp_end rfl
  · rw [hc]
    refine Eq.trans (regp_adv (m := 2) (j := 8) (t' := [(3, (V.ptr 3 0 0)), (4, (V.ptr 4 0 0)), (5, (V.ptr 5 0 0)), (7, (V.sl 0 1 (List.map V.str o7.1))), (8, (I o7.2)), (9, (V.sl 0 1 (List.map V.str o9.1))), (10, (I o9.2)), (36, (enc_T_api_Form a0)), (37, (V.bool v10)), (38, (enc_T_api_Form a0)), (39, (V.bool v11)), (40, (V.bool false)), (41, (V.bool false)), (42, (V.sl 0 1 (List.map V.str o7.1))), (43, (V.sl 0 1 (List.map V.str o9.1)))]) rfl rfl rfl) ?_
    refine Eq.trans (regp_pure (x := (ref01_SameTexts k o7.1 o9.1)) (w := fun v12 => (V.bool v12)) rfl rfl rfl rfl rfl (p_call rfl rfl rfl rfl rfl (ref01_SameTexts_ok k o7.1 o9.1) (.inl rfl))) ?_
    refine bindE (fun v12 => ?_)
    refine Eq.trans (putp_adv (m := 3) (j := 12) (t' := [(3, (V.ptr 3 0 0)), (4, (V.ptr 4 0 0)), (5, (V.ptr 5 0 0)), (7, (V.sl 0 1 (List.map V.str o7.1))), (8, (I o7.2)), (9, (V.sl 0 1 (List.map V.str o9.1))), (10, (I o9.2)), (36, (enc_T_api_Form a0)), (37, (V.bool v10)), (38, (enc_T_api_Form a0)), (39, (V.bool v11)), (40, (V.bool false)), (41, (V.bool false)), (42, (V.sl 0 1 (List.map V.str o7.1))), (43, (V.sl 0 1 (List.map V.str o9.1))), (44, (V.bool v12)), (45, (V.bool (!v12))), (46, (V.bool (!v12))), (47, (V.bool (!v12)))]) rfl rfl rfl) ?_
    refine bifE (c := (!v12)) (fun hc => ?_) fun hc => ?_
    · rw [hc]
      exact regp_end rfl
    · rw [hc]
      refine Eq.trans (regp_adv (m := 5) (j := 17) (t' := [(3, (V.ptr 3 0 0)), (4, (V.ptr 4 0 0)), (5, (V.ptr 5 0 0)), (7, (V.sl 0 1 (List.map V.str o7.1))), (8, (I o7.2)), (9, (V.sl 0 1 (List.map V.str o9.1))), (10, (I o9.2)), (36, (enc_T_api_Form a0)), (37, (V.bool v10)), (38, (enc_T_api_Form a0)), (39, (V.bool v11)), (40, (V.bool false)), (41, (V.bool false)), (42, (V.sl 0 1 (List.map V.str o7.1))), (43, (V.sl 0 1 (List.map V.str o9.1))), (44, (V.bool v12)), (45, (V.bool false)), (46, (V.bool false)), (47, (V.bool false)), (48, (I o7.2)), (49, (I o9.2)), (50, (V.bool (o7.2 != o9.2))), (51, (V.bool (o7.2 != o9.2))), (52, (V.bool (o7.2 != o9.2)))]) rfl rfl rfl) ?_
      refine bifE (c := (o7.2 != o9.2)) (fun hc => ?_) fun hc => ?_
      · rw [hc]
        exact regp_end rfl
      · rw [hc]
        refine Eq.trans (regp_adv (m := 2) (j := 19) (t' := [(3, (V.ptr 3 0 0)), (4, (V.ptr 4 0 0)), (5, (V.ptr 5 0 0)), (7, (V.sl 0 1 (List.map V.str o7.1))), (8, (I o7.2)), (9, (V.sl 0 1 (List.map V.str o9.1))), (10, (I o9.2)), (36, (enc_T_api_Form a0)), (37, (V.bool v10)), (38, (enc_T_api_Form a0)), (39, (V.bool v11)), (40, (V.bool false)), (41, (V.bool false)), (42, (V.sl 0 1 (List.map V.str o7.1))), (43, (V.sl 0 1 (List.map V.str o9.1))), (44, (V.bool v12)), (45, (V.bool false)), (46, (V.bool false)), (47, (V.bool false)), (48, (I o7.2)), (49, (I o9.2)), (50, (V.bool false)), (51, (V.bool false)), (52, (V.bool false)), (53, (enc_T_api_Form a0)), (54, (enc_T_api_Form a1))]) rfl rfl rfl) ?_
        refine Eq.trans (regp_pure (x := (screen_Same k a0 a1)) (w := fun v13 => (V.bool v13)) rfl rfl rfl rfl rfl (p_call rfl rfl rfl rfl rfl (screen_Same_ok k a0 a1) (.inl rfl))) ?_
        refine bindE (fun v13 => ?_)
        refine Eq.trans (putp_adv (m := 2) (j := 22) (t' := [(3, (V.ptr 3 0 0)), (4, (V.ptr 4 0 0)), (5, (V.ptr 5 0 0)), (7, (V.sl 0 1 (List.map V.str o7.1))), (8, (I o7.2)), (9, (V.sl 0 1 (List.map V.str o9.1))), (10, (I o9.2)), (36, (enc_T_api_Form a0)), (37, (V.bool v10)), (38, (enc_T_api_Form a0)), (39, (V.bool v11)), (40, (V.bool false)), (41, (V.bool false)), (42, (V.sl 0 1 (List.map V.str o7.1))), (43, (V.sl 0 1 (List.map V.str o9.1))), (44, (V.bool v12)), (45, (V.bool false)), (46, (V.bool false)), (47, (V.bool false)), (48, (I o7.2)), (49, (I o9.2)), (50, (V.bool false)), (51, (V.bool false)), (52, (V.bool false)), (53, (enc_T_api_Form a0)), (54, (enc_T_api_Form a1)), (55, (V.bool v13)), (56, (enc_T_api_Form a0)), (57, (enc_T_api_Form a1))]) rfl rfl rfl) ?_
        refine Eq.trans (regp_pure (x := (ref24_Same k a0 a1)) (w := fun v14 => (V.bool v14)) rfl rfl rfl rfl rfl (p_call rfl rfl rfl rfl rfl (ref24_Same_ok k a0 a1) (.inl rfl))) ?_
        refine bindE (fun v14 => ?_)
        refine Eq.trans (putp_adv (m := 3) (j := 26) (t' := [(3, (V.ptr 3 0 0)), (4, (V.ptr 4 0 0)), (5, (V.ptr 5 0 0)), (7, (V.sl 0 1 (List.map V.str o7.1))), (8, (I o7.2)), (9, (V.sl 0 1 (List.map V.str o9.1))), (10, (I o9.2)), (36, (enc_T_api_Form a0)), (37, (V.bool v10)), (38, (enc_T_api_Form a0)), (39, (V.bool v11)), (40, (V.bool false)), (41, (V.bool false)), (42, (V.sl 0 1 (List.map V.str o7.1))), (43, (V.sl 0 1 (List.map V.str o9.1))), (44, (V.bool v12)), (45, (V.bool false)), (46, (V.bool false)), (47, (V.bool false)), (48, (I o7.2)), (49, (I o9.2)), (50, (V.bool false)), (51, (V.bool false)), (52, (V.bool false)), (53, (enc_T_api_Form a0)), (54, (enc_T_api_Form a1)), (55, (V.bool v13)), (56, (enc_T_api_Form a0)), (57, (enc_T_api_Form a1)), (58, (V.bool v14)), (59, (V.bool (!(v13 == v14)))), (60, (V.bool (!(v13 == v14)))), (61, (V.bool (!(v13 == v14))))]) rfl rfl rfl) ?_
        refine bifE (c := (!(v13 == v14))) (fun hc => ?_) fun hc => ?_
        · rw [hc]
          exact regp_end rfl
        · rw [hc]
          refine Eq.trans (regp_adv (m := 2) (j := 28) (t' := [(3, (V.ptr 3 0 0)), (4, (V.ptr 4 0 0)), (5, (V.ptr 5 0 0)), (7, (V.sl 0 1 (List.map V.str o7.1))), (8, (I o7.2)), (9, (V.sl 0 1 (List.map V.str o9.1))), (10, (I o9.2)), (36, (enc_T_api_Form a0)), (37, (V.bool v10)), (38, (enc_T_api_Form a0)), (39, (V.bool v11)), (40, (V.bool false)), (41, (V.bool false)), (42, (V.sl 0 1 (List.map V.str o7.1))), (43, (V.sl 0 1 (List.map V.str o9.1))), (44, (V.bool v12)), (45, (V.bool false)), (46, (V.bool false)), (47, (V.bool false)), (48, (I o7.2)), (49, (I o9.2)), (50, (V.bool false)), (51, (V.bool false)), (52, (V.bool false)), (53, (enc_T_api_Form a0)), (54, (enc_T_api_Form a1)), (55, (V.bool v13)), (56, (enc_T_api_Form a0)), (57, (enc_T_api_Form a1)), (58, (V.bool v14)), (59, (V.bool false)), (60, (V.bool false)), (61, (V.bool false)), (62, (enc_T_api_Form a1)), (63, (enc_T_api_Form a1))]) rfl rfl rfl) ?_
          refine Eq.trans (regp_pure (x := (screen_Same k a1 a1)) (w := fun v15 => (V.bool v15)) rfl rfl rfl rfl rfl (p_call rfl rfl rfl rfl rfl (screen_Same_ok k a1 a1) (.inl rfl))) ?_
          refine bindE (fun v15 => ?_)
          exact regp_end rfl
theorem f5r6 (k : Nat) (a0 : T_api_Form) (a2 : T_arr2_Int) : RE k f5a6 f5o6 false ⟨[(3, (V.ptr 3 0 0)), (5, (V.ptr 5 0 0)), (66, (V.bool true))], [(3, ⟨false, 4, [(enc_T_api_Form a0)]⟩), (5, ⟨false, 2, [(enc_T_arr2_Int a2)]⟩)], 123⟩ = some ⟨[(6, (V.bool false))], [], 123⟩ :=
  rE rfl
theorem f5r7 (k : Nat) (a0 : T_api_Form) (a2 : T_arr2_Int) : RE k f5a7 f5o7 false ⟨[(3, (V.ptr 3 0 0)), (5, (V.ptr 5 0 0)), (66, (V.bool false))], [(3, ⟨false, 4, [(enc_T_api_Form a0)]⟩), (5, ⟨false, 2, [(enc_T_arr2_Int a2)]⟩)], 123⟩ = (((screen_Lengths k a0).bind fun v17 => (some (v17.2.2, v17.1, v17.2.1)))).map (fun (o : Int × Int × Int) => (⟨[(3, (V.ptr 3 0 0)), (5, (V.ptr 5 0 0)), (8, (I o.1)), (11, (I o.2.1)), (12, (I o.2.2))], [(3, ⟨false, 4, [(enc_T_api_Form a0)]⟩), (5, ⟨false, 2, [(enc_T_arr2_Int a2)]⟩)], 123⟩ : St)) := by
  refine rg ?_
  refine ra 1 1 ⟨[(3, (V.ptr 3 0 0)), (5, (V.ptr 5 0 0)), (66, (V.bool false)), (68, (enc_T_api_Form a0))], [(3, ⟨false, 4, [(enc_T_api_Form a0)]⟩), (5, ⟨false, 2, [(enc_T_arr2_Int a2)]⟩)], 123⟩ rfl rfl rfl ?_
  refine Eq.trans (reg_pure (x := (screen_Lengths k a0)) (w := fun v17 => (V.tup [(I v17.1), (I v17.2.1), (I v17.2.2)])) rfl rfl rfl rfl (p_call rfl rfl rfl rfl rfl (screen_Lengths_ok k a0) (.inl rfl))) ?_
  refine bindE (fun v17 => ?_)
  exact bind_end rfl
theorem f5r8 (k : Nat) (a0 : T_api_Form) (a2 : T_arr2_Int) (o18 : Int × Int × Int) : RE k f5a8 f5o8 false ⟨[(3, (V.ptr 3 0 0)), (5, (V.ptr 5 0 0)), (8, (I o18.1)), (11, (I o18.2.1)), (12, (I o18.2.2))], [(3, ⟨false, 4, [(enc_T_api_Form a0)]⟩), (5, ⟨false, 2, [(enc_T_arr2_Int a2)]⟩)], 123⟩ = (((ref24_Lengths k a0).bind fun v19 => (some (v19.2.2, v19.1, v19.2.1)))).map (fun (o : Int × Int × Int) => (⟨[(3, (V.ptr 3 0 0)), (5, (V.ptr 5 0 0)), (8, (I o18.1)), (10, (I o.1)), (11, (I o18.2.1)), (12, (I o18.2.2)), (13, (I o.2.1)), (14, (I o.2.2))], [(3, ⟨false, 4, [(enc_T_api_Form a0)]⟩), (5, ⟨false, 2, [(enc_T_arr2_Int a2)]⟩)], 123⟩ : St)) := by
  refine rg ?_
  refine ra 1 1 ⟨[(3, (V.ptr 3 0 0)), (5, (V.ptr 5 0 0)), (8, (I o18.1)), (11, (I o18.2.1)), (12, (I o18.2.2)), (74, (enc_T_api_Form a0))], [(3, ⟨false, 4, [(enc_T_api_Form a0)]⟩), (5, ⟨false, 2, [(enc_T_arr2_Int a2)]⟩)], 123⟩ rfl rfl rfl ?_
  refine Eq.trans (reg_pure (x := (ref24_Lengths k a0)) (w := fun v19 => (V.tup [(I v19.1), (I v19.2.1), (I v19.2.2)])) rfl rfl rfl rfl (p_call rfl rfl rfl rfl rfl (ref24_Lengths_ok k a0) (.inl rfl))) ?_
  refine bindE (fun v19 => ?_)
  exact bind_end rfl
theorem f5r9 (k : Nat) (a0 : T_api_Form) (a2 : T_arr2_Int) (o18 : Int × Int × Int) (o20 : Int × Int × Int) : RE k f5a9 f5o9 false ⟨[(3, (V.ptr 3 0 0)), (5, (V.ptr 5 0 0)), (8, (I o18.1)), (10, (I o20.1)), (11, (I o18.2.1)), (12, (I o18.2.2)), (13, (I o20.2.1)), (14, (I o20.2.2))], [(3, ⟨false, 4, [(enc_T_api_Form a0)]⟩), (5, ⟨false, 2, [(enc_T_arr2_Int a2)]⟩)], 123⟩ = (((screen_At k a0 a2.e0 a2.e1).bind fun v21 => (some (v21.1, v21.2)))).map (fun (o : Int × Int) => (⟨[(3, (V.ptr 3 0 0)), (5, (V.ptr 5 0 0)), (8, (I o18.1)), (10, (I o20.1)), (11, (I o18.2.1)), (12, (I o18.2.2)), (13, (I o20.2.1)), (14, (I o20.2.2)), (15, (I o.1)), (16, (I o.2))], [(3, ⟨false, 4, [(enc_T_api_Form a0)]⟩), (5, ⟨false, 2, [(enc_T_arr2_Int a2)]⟩)], 123⟩ : St)) := by
  refine rg ?_
  refine ra 5 5 ⟨[(3, (V.ptr 3 0 0)), (5, (V.ptr 5 0 0)), (8, (I o18.1)), (10, (I o20.1)), (11, (I o18.2.1)), (12, (I o18.2.2)), (13, (I o20.2.1)), (14, (I o20.2.2)), (80, (enc_T_api_Form a0)), (81, (V.ptr 5 0 0)), (82, (I a2.e0)), (83, (V.ptr 5 0 1)), (84, (I a2.e1))], [(3, ⟨false, 4, [(enc_T_api_Form a0)]⟩), (5, ⟨false, 2, [(enc_T_arr2_Int a2)]⟩)], 123⟩ rfl rfl rfl ?_
  refine Eq.trans (reg_pure (x := (screen_At k a0 a2.e0 a2.e1)) (w := fun v21 => (V.tup [(I v21.1), (I v21.2)])) rfl rfl rfl rfl (p_call rfl rfl rfl rfl rfl (screen_At_ok k a0 a2.e0 a2.e1) (.inl rfl))) ?_
  refine bindE (fun v21 => ?_)
  exact bind_end rfl
theorem f5r10 (k : Nat) (a0 : T_api_Form) (a2 : T_arr2_Int) (o18 : Int × Int × Int) (o20 : Int × Int × Int) (o22 : Int × Int) : RE k f5a10 f5o10 false ⟨[(3, (V.ptr 3 0 0)), (5, (V.ptr 5 0 0)), (8, (I o18.1)), (10, (I o20.1)), (11, (I o18.2.1)), (12, (I o18.2.2)), (13, (I o20.2.1)), (14, (I o20.2.2)), (15, (I o22.1)), (16, (I o22.2))], [(3, ⟨false, 4, [(enc_T_api_Form a0)]⟩), (5, ⟨false, 2, [(enc_T_arr2_Int a2)]⟩)], 123⟩ = (((ref24_At k a0 a2.e0 a2.e1).bind fun v23 => (some (v23.1, v23.2)))).map (fun (o : Int × Int) => (⟨[(8, (I o18.1)), (10, (I o20.1)), (11, (I o18.2.1)), (12, (I o18.2.2)), (13, (I o20.2.1)), (14, (I o20.2.2)), (15, (I o22.1)), (16, (I o22.2)), (17, (I o.1)), (18, (I o.2))], [], 123⟩ : St)) := by
  refine rg ?_
  refine ra 5 5 ⟨[(3, (V.ptr 3 0 0)), (5, (V.ptr 5 0 0)), (8, (I o18.1)), (10, (I o20.1)), (11, (I o18.2.1)), (12, (I o18.2.2)), (13, (I o20.2.1)), (14, (I o20.2.2)), (15, (I o22.1)), (16, (I o22.2)), (89, (enc_T_api_Form a0)), (90, (V.ptr 5 0 0)), (91, (I a2.e0)), (92, (V.ptr 5 0 1)), (93, (I a2.e1))], [(3, ⟨false, 4, [(enc_T_api_Form a0)]⟩), (5, ⟨false, 2, [(enc_T_arr2_Int a2)]⟩)], 123⟩ rfl rfl rfl ?_
  refine Eq.trans (reg_pure (x := (ref24_At k a0 a2.e0 a2.e1)) (w := fun v23 => (V.tup [(I v23.1), (I v23.2)])) rfl rfl rfl rfl (p_call rfl rfl rfl rfl rfl (ref24_At_ok k a0 a2.e0 a2.e1) (.inl rfl))) ?_
  refine bindE (fun v23 => ?_)
  exact bind_end rfl
theorem f5r11 (k : Nat) (o18 : Int × Int × Int) (o20 : Int × Int × Int) (o22 : Int × Int) (o24 : Int × Int) : RE k f5a11 f5o11 false ⟨[(8, (I o18.1)), (10, (I o20.1)), (11, (I o18.2.1)), (12, (I o18.2.2)), (13, (I o20.2.1)), (14, (I o20.2.2)), (15, (I o22.1)), (16, (I o22.2)), (17, (I o24.1)), (18, (I o24.2))], [], 123⟩ = ((bif (o18.2.1 == o20.2.1) then (bif (o18.2.2 == o20.2.2) then (bif (o18.1 == o20.1) then (bif (o22.1 == o24.1) then (bif (o22.2 == o24.2) then (law24_Awake k) else (some (false))) else (some (false))) else (some (false))) else (some (false))) else (some (false)))).map (fun (o : Bool) => (⟨[(6, (V.bool o))], [], 123⟩ : St)) := by
  refine rg ?_
  refine ra 4 4 ⟨[(8, (I o18.1)), (10, (I o20.1)), (11, (I o18.2.1)), (12, (I o18.2.2)), (13, (I o20.2.1)), (14, (I o20.2.2)), (15, (I o22.1)), (16, (I o22.2)), (17, (I o24.1)), (18, (I o24.2)), (97, (I o18.2.1)), (98, (I o20.2.1)), (99, (V.bool (o18.2.1 == o20.2.1))), (100, (V.bool (o18.2.1 == o20.2.1)))], [], 123⟩ rfl rfl rfl ?_
  refine bifE (c := (o18.2.1 == o20.2.1)) (fun hc => ?_) fun hc => ?_
  · rw [hc]
    refine ra 5 9 ⟨[(8, (I o18.1)), (10, (I o20.1)), (11, (I o18.2.1)), (12, (I o18.2.2)), (13, (I o20.2.1)), (14, (I o20.2.2)), (15, (I o22.1)), (16, (I o22.2)), (17, (I o24.1)), (18, (I o24.2)), (97, (I o18.2.1)), (98, (I o20.2.1)), (99, (V.bool true)), (100, (V.bool true)), (101, (I o18.2.2)), (102, (I o20.2.2)), (103, (V.bool (o18.2.2 == o20.2.2))), (104, (V.bool (o18.2.2 == o20.2.2))), (105, (V.bool (o18.2.2 == o20.2.2)))], [], 123⟩ rfl rfl rfl ?_
    refine bifE (c := (o18.2.2 == o20.2.2)) (fun hc => ?_) fun hc => ?_
    · rw [hc]
      refine ra 5 14 ⟨[(8, (I o18.1)), (10, (I o20.1)), (11, (I o18.2.1)), (12, (I o18.2.2)), (13, (I o20.2.1)), (14, (I o20.2.2)), (15, (I o22.1)), (16, (I o22.2)), (17, (I o24.1)), (18, (I o24.2)), (97, (I o18.2.1)), (98, (I o20.2.1)), (99, (V.bool true)), (100, (V.bool true)), (101, (I o18.2.2)), (102, (I o20.2.2)), (103, (V.bool true)), (104, (V.bool true)), (105, (V.bool true)), (106, (I o18.1)), (107, (I o20.1)), (108, (V.bool (o18.1 == o20.1))), (109, (V.bool (o18.1 == o20.1))), (110, (V.bool (o18.1 == o20.1)))], [], 123⟩ rfl rfl rfl ?_
      refine bifE (c := (o18.1 == o20.1)) (fun hc => ?_) fun hc => ?_
      · rw [hc]
        refine ra 5 19 ⟨[(8, (I o18.1)), (10, (I o20.1)), (11, (I o18.2.1)), (12, (I o18.2.2)), (13, (I o20.2.1)), (14, (I o20.2.2)), (15, (I o22.1)), (16, (I o22.2)), (17, (I o24.1)), (18, (I o24.2)), (97, (I o18.2.1)), (98, (I o20.2.1)), (99, (V.bool true)), (100, (V.bool true)), (101, (I o18.2.2)), (102, (I o20.2.2)), (103, (V.bool true)), (104, (V.bool true)), (105, (V.bool true)), (106, (I o18.1)), (107, (I o20.1)), (108, (V.bool true)), (109, (V.bool true)), (110, (V.bool true)), (111, (I o22.1)), (112, (I o24.1)), (113, (V.bool (o22.1 == o24.1))), (114, (V.bool (o22.1 == o24.1))), (115, (V.bool (o22.1 == o24.1)))], [], 123⟩ rfl rfl rfl ?_
        refine bifE (c := (o22.1 == o24.1)) (fun hc => ?_) fun hc => ?_
        · rw [hc]
          refine ra 5 24 ⟨[(8, (I o18.1)), (10, (I o20.1)), (11, (I o18.2.1)), (12, (I o18.2.2)), (13, (I o20.2.1)), (14, (I o20.2.2)), (15, (I o22.1)), (16, (I o22.2)), (17, (I o24.1)), (18, (I o24.2)), (97, (I o18.2.1)), (98, (I o20.2.1)), (99, (V.bool true)), (100, (V.bool true)), (101, (I o18.2.2)), (102, (I o20.2.2)), (103, (V.bool true)), (104, (V.bool true)), (105, (V.bool true)), (106, (I o18.1)), (107, (I o20.1)), (108, (V.bool true)), (109, (V.bool true)), (110, (V.bool true)), (111, (I o22.1)), (112, (I o24.1)), (113, (V.bool true)), (114, (V.bool true)), (115, (V.bool true)), (116, (I o22.2)), (117, (I o24.2)), (118, (V.bool (o22.2 == o24.2))), (119, (V.bool (o22.2 == o24.2))), (120, (V.bool (o22.2 == o24.2)))], [], 123⟩ rfl rfl rfl ?_
          refine bifE (c := (o22.2 == o24.2)) (fun hc => ?_) fun hc => ?_
          · rw [hc]
            refine Eq.trans (reg_pure (x := (law24_Awake k)) (w := fun v25 => (V.bool v25)) rfl rfl rfl rfl (p_call rfl rfl rfl rfl rfl (law24_Awake_ok k) (.inl rfl))) ?_
            refine bind_self (fun v25 => ?_)
            exact bind_end rfl
          · rw [hc]
            exact reg_end rfl
        · rw [hc]
          exact reg_end rfl
      · rw [hc]
        exact reg_end rfl
    · rw [hc]
      exact reg_end rfl
  · rw [hc]
    exact reg_end rfl
theorem law24_ScreenForms_ok (k : Nat) (a0 : T_api_Form) (a1 : T_api_Form) (a2 : T_arr2_Int) : EV k 5 [(enc_T_api_Form a0), (enc_T_api_Form a1), (enc_T_arr2_Int a2)] = (law24_ScreenForms k a0 a1 a2).map law24_ScreenForms_fin := by
  cases k with
  | zero => rfl
  | succ k =>
    unfold law24_ScreenForms
    refine Eq.trans (evF_succ (c := f5c) (N := 123) (regs := f5n) rfl Go.Proofs.Try.func5 rfl (by decide) rfl rfl rfl) ?_
    refine Eq.trans (k_region0 rfl (f5r0 k a0 a1 a2)) ?_
    refine Eq.trans k_assoc ?_
    refine Eq.trans (k_region rfl (f5r1 k a0 a1 a2)) ?_
    refine bindE (fun o3 => ?_)
    refine Eq.trans (k_cond (t := o3) rfl rfl) ?_
    refine bifE2 (fun hc => ?_) fun hc => ?_
    · rw [hc]
      refine Eq.trans k_assoc ?_
      refine Eq.trans (k_region rfl (f5r2 k a0 a1 a2)) ?_
      refine bindE (fun o5 => ?_)
      refine Eq.trans k_ret ?_
      rfl
    · rw [hc]
      refine Eq.trans k_skip ?_
      refine Eq.trans (k_region rfl (f5r3 k a0 a1 a2)) ?_
      refine bindE (fun o7 => ?_)
      refine Eq.trans (k_region rfl (f5r4 k a0 a1 a2 o7)) ?_
      refine bindE (fun o9 => ?_)
      refine Eq.trans k_assoc ?_
      refine Eq.trans (k_region rfl (f5r5 k a0 a1 a2 o7 o9)) ?_
      refine bindE (fun o16 => ?_)
      refine Eq.trans (k_cond (t := o16) rfl rfl) ?_
      refine bifE2 (fun hc => ?_) fun hc => ?_
      · rw [hc]
        refine Eq.trans k_assoc ?_
        refine Eq.trans (k_region0 rfl (f5r6 k a0 a2)) ?_
        refine Eq.trans k_ret ?_
        rfl
      · rw [hc]
        refine Eq.trans k_skip ?_
        refine Eq.trans (k_region rfl (f5r7 k a0 a2)) ?_
        refine bindE (fun o18 => ?_)
        refine Eq.trans (k_region rfl (f5r8 k a0 a2 o18)) ?_
        refine bindE (fun o20 => ?_)
        refine Eq.trans (k_region rfl (f5r9 k a0 a2 o18 o20)) ?_
        refine bindE (fun o22 => ?_)
        refine Eq.trans (k_region rfl (f5r10 k a0 a2 o18 o20 o22)) ?_
        refine bindE (fun o24 => ?_)
        refine Eq.trans (k_region rfl (f5r11 k o18 o20 o22 o24)) ?_
        refine bindE (fun o26 => ?_)
        refine Eq.trans k_lret ?_
        rfl
end
end Go.AE
