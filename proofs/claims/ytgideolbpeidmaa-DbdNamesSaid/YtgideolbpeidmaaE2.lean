/- The program, function by function: the evaluator comes to the typed functions. Conditions: none. -/
import Derived.Test.YtgideolbpeidmaaA2
import Derived.KernelRfl
import Derived.Test.YtgideolbpeidmaaProg
import Derived.Test.YtgideolbpeidmaaB1
import Derived.Test.YtgideolbpeidmaaE1
namespace Go.AE
open Go.Proofs.Try Go.Sh
set_option linter.unusedSimpArgs false
set_option linter.unusedVariables false
set_option maxRecDepth 100000
set_option maxHeartbeats 4000000
theorem slices_IndexFunc_Field_r7 (k : Nat) (a0 : (List T_api_Field)) (y8 : Int) (a1 : Nat → T_api_Field → Option Bool) (a1_fid : Go.FuncId) (a1_c0 : V) (a1_hok : ∀ j x0, evF prog anns ext j a1_fid [(enc_T_api_Field x0), V.pro a1_c0] = (a1 j x0).map fun b => ((V.bool b), [])) : regionE prog (evF prog anns ext k) slices_IndexFunc_Field_a7 slices_IndexFunc_Field_o7 false ⟨[(0, (V.sl 0 3 (List.map enc_T_api_Field a0))), (1, (V.fn a1_fid [] [V.pro a1_c0])), (7, (V.int .i64 (a0.length : Int))), (8, (V.int .i64 y8)), (9, (V.bool false))], [], 19⟩ = some ⟨[(4, (V.int .i64 (-1)))], [], 19⟩ := by
  refine Eq.trans regionE_reg ?_
  exact reg_end rfl
theorem slices_IndexFunc_Field_ok (k : Nat) (a0 : (List T_api_Field)) (a1 : Nat → T_api_Field → Option Bool) (a1_fid : Go.FuncId) (a1_c0 : V) (a1_hok : ∀ j x0, evF prog anns ext j a1_fid [(enc_T_api_Field x0), V.pro a1_c0] = (a1 j x0).map fun b => ((V.bool b), [])) : evF prog anns ext k 47 [(V.sl 0 3 (List.map enc_T_api_Field a0)), (V.fn a1_fid [] [V.pro a1_c0])] = (slices_IndexFunc_Field k a0 a1).map slices_IndexFunc_Field_fin := by
  cases k with
  | zero => rfl
  | succ k =>
    unfold slices_IndexFunc_Field
    refine Eq.trans (evF_succ (c := slices_IndexFunc_Field_c) (N := 19) (regs := slices_IndexFunc_Field_an) rfl Go.Proofs.Try.func47 rfl (by decide) rfl rfl rfl) ?_
    refine Eq.trans (k_region0 rfl (slices_IndexFunc_Field_r0 k a0 a1 a1_fid a1_c0 a1_hok)) ?_
    refine Eq.trans k_assoc ?_
    refine Eq.trans (k_region0 rfl (slices_IndexFunc_Field_r1 k a0 a1 a1_fid a1_c0 a1_hok)) ?_
    refine Eq.trans k_block ?_
    refine Eq.trans k_loop ?_
    refine slices_IndexFunc_Field_L1_ok k a0 a1 a1_fid a1_c0 a1_hok _ _ ?h_slices_IndexFunc_Field_L1_0 ?hr_slices_IndexFunc_Field_L1 k 0
    · intro y8
      refine Eq.trans blk_exit ?_
      refine Eq.trans (k_region0 rfl (slices_IndexFunc_Field_r7 k a0 y8 a1 a1_fid a1_c0 a1_hok)) ?_
      refine Eq.trans k_lret ?_
      rfl
    · intro s; exact rfl
def slices_ContainsFunc_Field_fin : Bool → V × List V := fun r => ((V.bool r), [])
theorem slices_ContainsFunc_Field_r0 (k : Nat) (a0 : (List T_api_Field)) (a1 : Nat → T_api_Field → Option Bool) (a1_fid : Go.FuncId) (a1_c0 : V) (a1_hok : ∀ j x0, evF prog anns ext j a1_fid [(enc_T_api_Field x0), V.pro a1_c0] = (a1 j x0).map fun b => ((V.bool b), [])) : regionE prog (evF prog anns ext k) slices_ContainsFunc_Field_a0 slices_ContainsFunc_Field_o0 false ⟨[(0, (V.sl 0 3 (List.map enc_T_api_Field a0))), (1, (V.fn a1_fid [] [V.pro a1_c0]))], [], 9⟩ = some ⟨[(0, (V.sl 0 3 (List.map enc_T_api_Field a0))), (1, (V.fn a1_fid [] [V.pro a1_c0]))], [], 9⟩ := by
  refine Eq.trans regionE_reg ?_
  exact reg_end rfl
theorem slices_ContainsFunc_Field_r1 (k : Nat) (a0 : (List T_api_Field)) (a1 : Nat → T_api_Field → Option Bool) (a1_fid : Go.FuncId) (a1_c0 : V) (a1_hok : ∀ j x0, evF prog anns ext j a1_fid [(enc_T_api_Field x0), V.pro a1_c0] = (a1 j x0).map fun b => ((V.bool b), [])) : regionE prog (evF prog anns ext k) slices_ContainsFunc_Field_a1 slices_ContainsFunc_Field_o1 false ⟨[(0, (V.sl 0 3 (List.map enc_T_api_Field a0))), (1, (V.fn a1_fid [] [V.pro a1_c0]))], [], 9⟩ = (((slices_IndexFunc_Field k a0 a1).bind fun v1 => (some ((decide (v1 ≥ 0)))))).map (fun (o : Bool) => (⟨[(4, (V.bool o))], [], 9⟩ : St)) := by
  refine Eq.trans regionE_reg ?_
  refine Eq.trans (reg_adv (m := 2) (j := 2) (st' := ⟨[(0, (V.sl 0 3 (List.map enc_T_api_Field a0))), (1, (V.fn a1_fid [] [V.pro a1_c0])), (5, (V.sl 0 3 (List.map enc_T_api_Field a0))), (6, (V.fn a1_fid [] [V.pro a1_c0]))], [], 9⟩) rfl rfl rfl) ?_
  refine Eq.trans (reg_pure (x := (slices_IndexFunc_Field k a0 a1)) (w := fun v1 => (V.int .i64 v1)) rfl rfl rfl rfl (p_call rfl rfl rfl rfl rfl (slices_IndexFunc_Field_ok k a0 a1 a1_fid a1_c0 a1_hok) (.inl rfl))) ?_
  refine bindE (fun v1 => ?_)
  exact bind_end rfl
theorem slices_ContainsFunc_Field_ok (k : Nat) (a0 : (List T_api_Field)) (a1 : Nat → T_api_Field → Option Bool) (a1_fid : Go.FuncId) (a1_c0 : V) (a1_hok : ∀ j x0, evF prog anns ext j a1_fid [(enc_T_api_Field x0), V.pro a1_c0] = (a1 j x0).map fun b => ((V.bool b), [])) : evF prog anns ext k 76 [(V.sl 0 3 (List.map enc_T_api_Field a0)), (V.fn a1_fid [] [V.pro a1_c0])] = (slices_ContainsFunc_Field k a0 a1).map slices_ContainsFunc_Field_fin := by
  cases k with
  | zero => rfl
  | succ k =>
    unfold slices_ContainsFunc_Field
    refine Eq.trans (evF_succ (c := slices_ContainsFunc_Field_c) (N := 9) (regs := slices_ContainsFunc_Field_an) rfl Go.Proofs.Try.func76 rfl (by decide) rfl rfl rfl) ?_
    refine Eq.trans (k_region0 rfl (slices_ContainsFunc_Field_r0 k a0 a1 a1_fid a1_c0 a1_hok)) ?_
    refine Eq.trans (k_region rfl (slices_ContainsFunc_Field_r1 k a0 a1 a1_fid a1_c0 a1_hok)) ?_
    refine bindE (fun o2 => ?_)
    refine Eq.trans k_lret ?_
    rfl
def dbd_areFields_1_fin : Bool → V × List V := fun r => ((V.bool r), [])
theorem dbd_areFields_1_r0 (k : Nat) (a0 : T_api_Field) (a1 : T_api_Field) : regionE prog (evF prog anns ext k) dbd_areFields_1_a0 dbd_areFields_1_o0 false ⟨[(0, (enc_T_api_Field a0)), (1, (V.pro (enc_T_api_Field a1)))], [], 9⟩ = some ⟨[(1, (V.pro (enc_T_api_Field a1))), (2, (V.ptr 2 0 0))], [(2, ⟨false, 3, [(enc_T_api_Field a0)]⟩)], 9⟩ := by
  refine Eq.trans regionE_reg ?_
  exact reg_end rfl
theorem dbd_areFields_1_r1 (k : Nat) (a0 : T_api_Field) (a1 : T_api_Field) : regionE prog (evF prog anns ext k) dbd_areFields_1_a1 dbd_areFields_1_o1 false ⟨[(1, (V.pro (enc_T_api_Field a1))), (2, (V.ptr 2 0 0))], [(2, ⟨false, 3, [(enc_T_api_Field a0)]⟩)], 9⟩ = some ⟨[(3, (V.bool (a0.fName == a1.fName)))], [], 9⟩ := by
  refine Eq.trans regionE_reg ?_
  exact reg_end rfl
theorem dbd_areFields_1_ok (k : Nat) (a0 : T_api_Field) (a1 : T_api_Field) : evF prog anns ext k 77 [(enc_T_api_Field a0), (V.pro (enc_T_api_Field a1))] = (dbd_areFields_1 k a0 a1).map dbd_areFields_1_fin := by
  cases k with
  | zero => rfl
  | succ k =>
    unfold dbd_areFields_1
    refine Eq.trans (evF_succ (c := dbd_areFields_1_c) (N := 9) (regs := dbd_areFields_1_an) rfl Go.Proofs.Try.func77 rfl (by decide) rfl rfl rfl) ?_
    refine Eq.trans (k_region0 rfl (dbd_areFields_1_r0 k a0 a1)) ?_
    refine Eq.trans (k_region0 rfl (dbd_areFields_1_r1 k a0 a1)) ?_
    refine Eq.trans k_lret ?_
    rfl
def dbd_areFields_fin : Bool → V × List V := fun r => ((V.bool r), [])
theorem dbd_areFields_r0 (k : Nat) (a0 : (List T_api_Field)) (a1 : Int) : regionE prog (evF prog anns ext k) dbd_areFields_a0 dbd_areFields_o0 false ⟨[(0, (V.sl 0 3 (List.map enc_T_api_Field a0))), (1, (V.int .i64 a1))], [], 52⟩ = some ⟨[(0, (V.sl 0 3 (List.map enc_T_api_Field a0))), (1, (V.int .i64 a1))], [], 52⟩ := by
  refine Eq.trans regionE_reg ?_
  exact reg_end rfl
theorem dbd_areFields_r1 (k : Nat) (a0 : (List T_api_Field)) (a1 : Int) : regionE prog (evF prog anns ext k) dbd_areFields_a1 dbd_areFields_o1 false ⟨[(0, (V.sl 0 3 (List.map enc_T_api_Field a0))), (1, (V.int .i64 a1))], [], 52⟩ = some ⟨[(0, (V.sl 0 3 (List.map enc_T_api_Field a0))), (1, (V.int .i64 a1)), (7, (V.sl 0 3 (List.map enc_T_api_Field a0))), (8, (V.int .i64 (a0.length : Int))), (9, (V.int .i64 0))], [], 52⟩ := by
  refine Eq.trans regionE_reg ?_
  refine Eq.trans (reg_adv (m := 1) (j := 1) (st' := ⟨[(0, (V.sl 0 3 (List.map enc_T_api_Field a0))), (1, (V.int .i64 a1)), (7, (V.sl 0 3 (List.map enc_T_api_Field a0)))], [], 52⟩) rfl rfl rfl) ?_
  refine Eq.trans (reg_pure (x := some ()) (w := fun _ => (V.int .i64 (a0.length : Int))) rfl rfl rfl rfl (p_len (e := enc_T_api_Field) rfl rfl rfl rfl rfl rfl Go.Proofs.Try.underlying53)) ?_
  refine Eq.trans some_bind ?_
  exact bind_end rfl
theorem dbd_areFields_r2 (k : Nat) (a0 : (List T_api_Field)) (a1 : Int) (x8 : Int) : regionE prog (evF prog anns ext k) dbd_areFields_a2 dbd_areFields_o2 false ⟨[(0, (V.sl 0 3 (List.map enc_T_api_Field a0))), (1, (V.int .i64 a1)), (7, (V.sl 0 3 (List.map enc_T_api_Field a0))), (8, (V.int .i64 (a0.length : Int))), (9, (V.int .i64 x8))], [], 52⟩ = some ⟨[(0, (V.sl 0 3 (List.map enc_T_api_Field a0))), (1, (V.int .i64 a1)), (7, (V.sl 0 3 (List.map enc_T_api_Field a0))), (8, (V.int .i64 (a0.length : Int))), (9, (V.int .i64 x8)), (10, (V.bool (decide (x8 < (a0.length : Int)))))], [], 52⟩ := by
  refine Eq.trans regionE_reg ?_
  exact reg_end rfl
theorem dbd_areFields_r3 (k : Nat) (a0 : (List T_api_Field)) (a1 : Int) (x8 : Int) : regionE prog (evF prog anns ext k) dbd_areFields_a3 dbd_areFields_o3 false ⟨[(0, (V.sl 0 3 (List.map enc_T_api_Field a0))), (1, (V.int .i64 a1)), (7, (V.sl 0 3 (List.map enc_T_api_Field a0))), (8, (V.int .i64 (a0.length : Int))), (9, (V.int .i64 x8)), (10, (V.bool true))], [], 52⟩ = (((idx a0 x8).bind fun v9 => (some (x8, v9)))).map (fun (o : Int × T_api_Field) => (⟨[(0, (V.sl 0 3 (List.map enc_T_api_Field a0))), (1, (V.int .i64 a1)), (5, (V.int .i64 o.1)), (6, (V.ptr 6 0 0)), (7, (V.sl 0 3 (List.map enc_T_api_Field a0))), (8, (V.int .i64 (a0.length : Int))), (9, (V.int .i64 x8))], [(6, ⟨false, 3, [(enc_T_api_Field o.2)]⟩)], 52⟩ : St)) := by
  refine Eq.trans regionE_reg ?_
  refine Eq.trans (reg_adv (m := 1) (j := 1) (st' := ⟨[(0, (V.sl 0 3 (List.map enc_T_api_Field a0))), (1, (V.int .i64 a1)), (7, (V.sl 0 3 (List.map enc_T_api_Field a0))), (8, (V.int .i64 (a0.length : Int))), (9, (V.int .i64 x8)), (10, (V.bool true)), (11, (V.int .i64 x8))], [], 52⟩) rfl rfl rfl) ?_
  refine Eq.trans (reg_pure (x := (idx a0 x8)) (w := fun v9 => (V.pro (enc_T_api_Field v9))) rfl rfl rfl rfl (p_index (e := enc_T_api_Field) rfl rfl rfl Go.Proofs.Try.underlying53 rfl (by decide))) ?_
  refine bindE (fun v9 => ?_)
  exact bind_end rfl
theorem dbd_areFields_r4 (k : Nat) (a0 : (List T_api_Field)) (a1 : Int) (x8 : Int) (o10 : Int × T_api_Field) : regionE prog (evF prog anns ext k) dbd_areFields_a4 dbd_areFields_o4 false ⟨[(0, (V.sl 0 3 (List.map enc_T_api_Field a0))), (1, (V.int .i64 a1)), (5, (V.int .i64 o10.1)), (6, (V.ptr 6 0 0)), (7, (V.sl 0 3 (List.map enc_T_api_Field a0))), (8, (V.int .i64 (a0.length : Int))), (9, (V.int .i64 x8))], [(6, ⟨false, 3, [(enc_T_api_Field o10.2)]⟩)], 52⟩ = (((dbd_IsName k o10.2.fName).bind fun v11 => (bif (!v11) then (some (true)) else (bif (decide (o10.2.fAt < 0)) then (some (true)) else (bif (decide (o10.2.fAt ≥ a1)) then (some (true)) else (bif (decide (o10.2.fBytes < 1)) then (some (true)) else (some ((decide (o10.2.fBytes > (Go.IntKind.wrap .i64 (a1 - o10.2.fAt)))))))))))).map (fun (o : Bool) => (⟨[(0, (V.sl 0 3 (List.map enc_T_api_Field a0))), (1, (V.int .i64 a1)), (5, (V.int .i64 o10.1)), (6, (V.ptr 6 0 0)), (7, (V.sl 0 3 (List.map enc_T_api_Field a0))), (8, (V.int .i64 (a0.length : Int))), (9, (V.int .i64 x8)), (42, (V.bool o))], [(6, ⟨false, 3, [(enc_T_api_Field o10.2)]⟩)], 52⟩ : St)) := by
  refine Eq.trans regionE_reg ?_
  refine Eq.trans (reg_adv (m := 2) (j := 2) (st' := ⟨[(0, (V.sl 0 3 (List.map enc_T_api_Field a0))), (1, (V.int .i64 a1)), (5, (V.int .i64 o10.1)), (6, (V.ptr 6 0 0)), (7, (V.sl 0 3 (List.map enc_T_api_Field a0))), (8, (V.int .i64 (a0.length : Int))), (9, (V.int .i64 x8)), (14, (V.ptr 6 0 0)), (15, (V.str o10.2.fName))], [(6, ⟨false, 3, [(enc_T_api_Field o10.2)]⟩)], 52⟩) rfl rfl rfl) ?_
  refine Eq.trans (reg_pure (x := (dbd_IsName k o10.2.fName)) (w := fun v11 => (V.bool v11)) rfl rfl rfl rfl (p_call rfl rfl rfl rfl rfl (dbd_IsName_ok k o10.2.fName) (.inl rfl))) ?_
  refine bindE (fun v11 => ?_)
  refine Eq.trans (bind_adv (m := 2) (j := 5) (st' := ⟨[(0, (V.sl 0 3 (List.map enc_T_api_Field a0))), (1, (V.int .i64 a1)), (5, (V.int .i64 o10.1)), (6, (V.ptr 6 0 0)), (7, (V.sl 0 3 (List.map enc_T_api_Field a0))), (8, (V.int .i64 (a0.length : Int))), (9, (V.int .i64 x8)), (14, (V.ptr 6 0 0)), (15, (V.str o10.2.fName)), (16, (V.bool v11)), (17, (V.bool (!v11))), (18, (V.bool (!v11)))], [(6, ⟨false, 3, [(enc_T_api_Field o10.2)]⟩)], 52⟩) rfl rfl rfl) ?_
  refine bifE (c := (!v11)) (fun hc => ?_) (fun hc => ?_)
  · rw [hc]
    exact reg_end rfl
  · rw [hc]
    refine Eq.trans (reg_adv (m := 5) (j := 10) (st' := ⟨[(0, (V.sl 0 3 (List.map enc_T_api_Field a0))), (1, (V.int .i64 a1)), (5, (V.int .i64 o10.1)), (6, (V.ptr 6 0 0)), (7, (V.sl 0 3 (List.map enc_T_api_Field a0))), (8, (V.int .i64 (a0.length : Int))), (9, (V.int .i64 x8)), (14, (V.ptr 6 0 0)), (15, (V.str o10.2.fName)), (16, (V.bool v11)), (17, (V.bool false)), (18, (V.bool false)), (19, (V.ptr 6 0 1)), (20, (V.int .i64 o10.2.fAt)), (21, (V.bool (decide (o10.2.fAt < 0)))), (22, (V.bool (decide (o10.2.fAt < 0)))), (23, (V.bool (decide (o10.2.fAt < 0))))], [(6, ⟨false, 3, [(enc_T_api_Field o10.2)]⟩)], 52⟩) rfl rfl rfl) ?_
    refine bifE (c := (decide (o10.2.fAt < 0))) (fun hc => ?_) (fun hc => ?_)
    · rw [hc]
      exact reg_end rfl
    · rw [hc]
      refine Eq.trans (reg_adv (m := 6) (j := 16) (st' := ⟨[(0, (V.sl 0 3 (List.map enc_T_api_Field a0))), (1, (V.int .i64 a1)), (5, (V.int .i64 o10.1)), (6, (V.ptr 6 0 0)), (7, (V.sl 0 3 (List.map enc_T_api_Field a0))), (8, (V.int .i64 (a0.length : Int))), (9, (V.int .i64 x8)), (14, (V.ptr 6 0 0)), (15, (V.str o10.2.fName)), (16, (V.bool v11)), (17, (V.bool false)), (18, (V.bool false)), (19, (V.ptr 6 0 1)), (20, (V.int .i64 o10.2.fAt)), (21, (V.bool false)), (22, (V.bool false)), (23, (V.bool false)), (24, (V.ptr 6 0 1)), (25, (V.int .i64 o10.2.fAt)), (26, (V.int .i64 a1)), (27, (V.bool (decide (o10.2.fAt ≥ a1)))), (28, (V.bool (decide (o10.2.fAt ≥ a1)))), (29, (V.bool (decide (o10.2.fAt ≥ a1))))], [(6, ⟨false, 3, [(enc_T_api_Field o10.2)]⟩)], 52⟩) rfl rfl rfl) ?_
      refine bifE (c := (decide (o10.2.fAt ≥ a1))) (fun hc => ?_) (fun hc => ?_)
      · rw [hc]
        exact reg_end rfl
      · rw [hc]
        refine Eq.trans (reg_adv (m := 5) (j := 21) (st' := ⟨[(0, (V.sl 0 3 (List.map enc_T_api_Field a0))), (1, (V.int .i64 a1)), (5, (V.int .i64 o10.1)), (6, (V.ptr 6 0 0)), (7, (V.sl 0 3 (List.map enc_T_api_Field a0))), (8, (V.int .i64 (a0.length : Int))), (9, (V.int .i64 x8)), (14, (V.ptr 6 0 0)), (15, (V.str o10.2.fName)), (16, (V.bool v11)), (17, (V.bool false)), (18, (V.bool false)), (19, (V.ptr 6 0 1)), (20, (V.int .i64 o10.2.fAt)), (21, (V.bool false)), (22, (V.bool false)), (23, (V.bool false)), (24, (V.ptr 6 0 1)), (25, (V.int .i64 o10.2.fAt)), (26, (V.int .i64 a1)), (27, (V.bool false)), (28, (V.bool false)), (29, (V.bool false)), (30, (V.ptr 6 0 2)), (31, (V.int .i64 o10.2.fBytes)), (32, (V.bool (decide (o10.2.fBytes < 1)))), (33, (V.bool (decide (o10.2.fBytes < 1)))), (34, (V.bool (decide (o10.2.fBytes < 1))))], [(6, ⟨false, 3, [(enc_T_api_Field o10.2)]⟩)], 52⟩) rfl rfl rfl) ?_
        refine bifE (c := (decide (o10.2.fBytes < 1))) (fun hc => ?_) (fun hc => ?_)
        · rw [hc]
          exact reg_end rfl
        · rw [hc]
          exact reg_end rfl
theorem dbd_areFields_r5 (k : Nat) (a0 : (List T_api_Field)) (a1 : Int) (x8 : Int) (o10 : Int × T_api_Field) : regionE prog (evF prog anns ext k) dbd_areFields_a5 dbd_areFields_o5 false ⟨[(0, (V.sl 0 3 (List.map enc_T_api_Field a0))), (1, (V.int .i64 a1)), (5, (V.int .i64 o10.1)), (6, (V.ptr 6 0 0)), (7, (V.sl 0 3 (List.map enc_T_api_Field a0))), (8, (V.int .i64 (a0.length : Int))), (9, (V.int .i64 x8)), (42, (V.bool true))], [(6, ⟨false, 3, [(enc_T_api_Field o10.2)]⟩)], 52⟩ = some ⟨[(4, (V.bool false))], [], 52⟩ := by
  refine Eq.trans regionE_reg ?_
  exact reg_end rfl
theorem dbd_areFields_r6 (k : Nat) (a0 : (List T_api_Field)) (a1 : Int) (x8 : Int) (o10 : Int × T_api_Field) : regionE prog (evF prog anns ext k) dbd_areFields_a6 dbd_areFields_o6 false ⟨[(0, (V.sl 0 3 (List.map enc_T_api_Field a0))), (1, (V.int .i64 a1)), (5, (V.int .i64 o10.1)), (6, (V.ptr 6 0 0)), (7, (V.sl 0 3 (List.map enc_T_api_Field a0))), (8, (V.int .i64 (a0.length : Int))), (9, (V.int .i64 x8)), (42, (V.bool false))], [(6, ⟨false, 3, [(enc_T_api_Field o10.2)]⟩)], 52⟩ = (((cut a0 0 o10.1).bind fun v13 => (slices_ContainsFunc_Field k v13 (fun j x0 => (dbd_areFields_1 j x0 o10.2))))).map (fun (o : Bool) => (⟨[(0, (V.sl 0 3 (List.map enc_T_api_Field a0))), (1, (V.int .i64 a1)), (7, (V.sl 0 3 (List.map enc_T_api_Field a0))), (8, (V.int .i64 (a0.length : Int))), (9, (V.int .i64 x8)), (47, (V.bool o))], [], 52⟩ : St)) := by
  refine Eq.trans regionE_reg ?_
  refine Eq.trans (reg_adv (m := 2) (j := 2) (st' := ⟨[(0, (V.sl 0 3 (List.map enc_T_api_Field a0))), (1, (V.int .i64 a1)), (5, (V.int .i64 o10.1)), (6, (V.ptr 6 0 0)), (7, (V.sl 0 3 (List.map enc_T_api_Field a0))), (8, (V.int .i64 (a0.length : Int))), (9, (V.int .i64 x8)), (42, (V.bool false)), (43, (V.sl 0 3 (List.map enc_T_api_Field a0))), (44, (V.int .i64 o10.1))], [(6, ⟨false, 3, [(enc_T_api_Field o10.2)]⟩)], 52⟩) rfl rfl rfl) ?_
  refine Eq.trans (reg_pure (x := (cut a0 0 o10.1)) (w := fun v13 => (V.sl 0 3 (List.map enc_T_api_Field v13))) rfl rfl rfl rfl (p_slice (e := enc_T_api_Field) rfl rfl rfl rfl rfl rfl Go.Proofs.Try.underlying53 rfl (by decide))) ?_
  refine bindE (fun v13 => ?_)
  refine Eq.trans (bind_adv (m := 1) (j := 4) (st' := ⟨[(0, (V.sl 0 3 (List.map enc_T_api_Field a0))), (1, (V.int .i64 a1)), (5, (V.int .i64 o10.1)), (6, (V.ptr 6 0 0)), (7, (V.sl 0 3 (List.map enc_T_api_Field a0))), (8, (V.int .i64 (a0.length : Int))), (9, (V.int .i64 x8)), (42, (V.bool false)), (43, (V.sl 0 3 (List.map enc_T_api_Field a0))), (44, (V.int .i64 o10.1)), (45, (V.sl 0 3 (List.map enc_T_api_Field v13))), (46, (V.fn 77 [] [(V.ptr 6 0 0)]))], [(6, ⟨false, 3, [(enc_T_api_Field o10.2)]⟩)], 52⟩) rfl rfl rfl) ?_
  refine Eq.trans (reg_pure (x := (slices_ContainsFunc_Field k v13 (fun j x0 => (dbd_areFields_1 j x0 o10.2)))) (w := fun v14 => (V.bool v14)) rfl rfl rfl rfl (p_call rfl rfl rfl rfl rfl (slices_ContainsFunc_Field_ok k v13 (fun j x0 => (dbd_areFields_1 j x0 o10.2)) 77 (enc_T_api_Field o10.2) (fun j x0 => (dbd_areFields_1_ok j x0 o10.2))) (.inr (fun _ => rfl)))) ?_
  refine bind_self (fun v14 => ?_)
  exact bind_end rfl
theorem dbd_areFields_r7 (k : Nat) (a0 : (List T_api_Field)) (a1 : Int) (x8 : Int) : regionE prog (evF prog anns ext k) dbd_areFields_a7 dbd_areFields_o7 false ⟨[(0, (V.sl 0 3 (List.map enc_T_api_Field a0))), (1, (V.int .i64 a1)), (7, (V.sl 0 3 (List.map enc_T_api_Field a0))), (8, (V.int .i64 (a0.length : Int))), (9, (V.int .i64 x8)), (47, (V.bool true))], [], 52⟩ = some ⟨[(4, (V.bool false))], [], 52⟩ := by
  refine Eq.trans regionE_reg ?_
  exact reg_end rfl
theorem dbd_areFields_r8 (k : Nat) (a0 : (List T_api_Field)) (a1 : Int) (x8 : Int) : regionE prog (evF prog anns ext k) dbd_areFields_a8 dbd_areFields_o8 false ⟨[(0, (V.sl 0 3 (List.map enc_T_api_Field a0))), (1, (V.int .i64 a1)), (7, (V.sl 0 3 (List.map enc_T_api_Field a0))), (8, (V.int .i64 (a0.length : Int))), (9, (V.int .i64 x8)), (47, (V.bool false))], [], 52⟩ = some ⟨[(0, (V.sl 0 3 (List.map enc_T_api_Field a0))), (1, (V.int .i64 a1)), (7, (V.sl 0 3 (List.map enc_T_api_Field a0))), (8, (V.int .i64 (a0.length : Int))), (9, (V.int .i64 (Go.IntKind.wrap .i64 (x8 + 1))))], [], 52⟩ := by
  refine Eq.trans regionE_reg ?_
  exact reg_end rfl
theorem dbd_areFields_L1_ok (k : Nat) (a0 : (List T_api_Field)) (a1 : Int)  (K0 : Int → Option Bool) (Kst : X × St → Option (V × List V)) (hK0 : ∀ (y0 : Int), Kst (X.exit 0, ⟨[(0, (V.sl 0 3 (List.map enc_T_api_Field a0))), (1, (V.int .i64 a1)), (7, (V.sl 0 3 (List.map enc_T_api_Field a0))), (8, (V.int .i64 (a0.length : Int))), (9, (V.int .i64 y0)), (10, (V.bool false))], [], 52⟩) = (K0 y0).map dbd_areFields_fin) (hret : ∀ s, Kst (X.ret, s) = endK prog 52 [(V.sl 0 3 (List.map enc_T_api_Field a0)), (V.int .i64 a1)] [] [.tmp 4] (X.ret, s)) :
    ∀ (m : Nat) (x8 : Int), (iter (exec prog (evF prog anns ext k) dbd_areFields_an k dbd_areFields_b0) m ⟨[(0, (V.sl 0 3 (List.map enc_T_api_Field a0))), (1, (V.int .i64 a1)), (7, (V.sl 0 3 (List.map enc_T_api_Field a0))), (8, (V.int .i64 (a0.length : Int))), (9, (V.int .i64 x8))], [], 52⟩).bind Kst = (dbd_areFields_L1 k a0 a1 K0 m x8).map dbd_areFields_fin := by
  intro m
  induction m with
  | zero => intros; rfl
  | succ m ih =>
    intro x8
    unfold dbd_areFields_L1
    refine Eq.trans k_round ?_
    refine Eq.trans (k_region0 rfl (dbd_areFields_r2 k a0 a1 x8)) ?_
    refine Eq.trans (k_cond (t := (decide (x8 < (a0.length : Int)))) rfl) ?_
    refine bifE2 (fun hc => ?_) (fun hc => ?_)
    · rw [hc]
      refine Eq.trans k_skip ?_
      refine Eq.trans k_block ?_
      refine Eq.trans (k_region rfl (dbd_areFields_r3 k a0 a1 x8)) ?_
      refine bindE (fun o10 => ?_)
      refine Eq.trans k_assoc ?_
      refine Eq.trans (k_region rfl (dbd_areFields_r4 k a0 a1 x8 o10)) ?_
      refine bindE (fun o12 => ?_)
      refine Eq.trans (k_cond (t := o12) rfl) ?_
      refine bifE2 (fun hc => ?_) (fun hc => ?_)
      · rw [hc]
        refine Eq.trans k_assoc ?_
        refine Eq.trans (k_region0 rfl (dbd_areFields_r5 k a0 a1 x8 o10)) ?_
        refine Eq.trans k_ret ?_
        refine Eq.trans blk_ret ?_
        refine Eq.trans loop_ret ?_
        refine Eq.trans (hret _) ?_
        rfl
      · rw [hc]
        refine Eq.trans k_skip ?_
        refine Eq.trans (k_region rfl (dbd_areFields_r6 k a0 a1 x8 o10)) ?_
        refine bindE (fun o15 => ?_)
        refine Eq.trans (k_lcond (t := o15) rfl) ?_
        refine bifE2 (fun hc => ?_) (fun hc => ?_)
        · rw [hc]
          refine Eq.trans (k_region0 rfl (dbd_areFields_r7 k a0 a1 x8)) ?_
          refine Eq.trans k_lret ?_
          refine Eq.trans blk_ret ?_
          refine Eq.trans loop_ret ?_
          refine Eq.trans (hret _) ?_
          rfl
        · rw [hc]
          refine Eq.trans k_lskip ?_
          refine Eq.trans blk_normal ?_
          refine Eq.trans (k_lregion0 rfl (dbd_areFields_r8 k a0 a1 x8)) ?_
          refine Eq.trans loop_normal ?_
          exact ih (Go.IntKind.wrap .i64 (x8 + 1))
    · rw [hc]
      refine Eq.trans k_exit ?_
      refine Eq.trans loop_exit ?_
      exact hK0 x8
theorem dbd_areFields_r9 (k : Nat) (a0 : (List T_api_Field)) (a1 : Int) (y16 : Int) : regionE prog (evF prog anns ext k) dbd_areFields_a9 dbd_areFields_o9 false ⟨[(0, (V.sl 0 3 (List.map enc_T_api_Field a0))), (1, (V.int .i64 a1)), (7, (V.sl 0 3 (List.map enc_T_api_Field a0))), (8, (V.int .i64 (a0.length : Int))), (9, (V.int .i64 y16)), (10, (V.bool false))], [], 52⟩ = some ⟨[(4, (V.bool (decide ((a0.length : Int) ≤ 5))))], [], 52⟩ := by
  refine Eq.trans regionE_reg ?_
  refine Eq.trans (reg_adv (m := 1) (j := 1) (st' := ⟨[(0, (V.sl 0 3 (List.map enc_T_api_Field a0))), (1, (V.int .i64 a1)), (7, (V.sl 0 3 (List.map enc_T_api_Field a0))), (8, (V.int .i64 (a0.length : Int))), (9, (V.int .i64 y16)), (10, (V.bool false)), (49, (V.sl 0 3 (List.map enc_T_api_Field a0)))], [], 52⟩) rfl rfl rfl) ?_
  refine Eq.trans (reg_pure (x := some ()) (w := fun _ => (V.int .i64 (a0.length : Int))) rfl rfl rfl rfl (p_len (e := enc_T_api_Field) rfl rfl rfl rfl rfl rfl Go.Proofs.Try.underlying53)) ?_
  refine Eq.trans some_bind ?_
  exact bind_end rfl
theorem dbd_areFields_ok (k : Nat) (a0 : (List T_api_Field)) (a1 : Int) : evF prog anns ext k 74 [(V.sl 0 3 (List.map enc_T_api_Field a0)), (V.int .i64 a1)] = (dbd_areFields k a0 a1).map dbd_areFields_fin := by
  cases k with
  | zero => rfl
  | succ k =>
    unfold dbd_areFields
    refine Eq.trans (evF_succ (c := dbd_areFields_c) (N := 52) (regs := dbd_areFields_an) rfl Go.Proofs.Try.func74 rfl (by decide) rfl rfl rfl) ?_
    refine Eq.trans (k_region0 rfl (dbd_areFields_r0 k a0 a1)) ?_
    refine Eq.trans k_assoc ?_
    refine Eq.trans (k_region0 rfl (dbd_areFields_r1 k a0 a1)) ?_
    refine Eq.trans k_block ?_
    refine Eq.trans k_loop ?_
    refine dbd_areFields_L1_ok k a0 a1 _ _ ?h_dbd_areFields_L1_0 ?hr_dbd_areFields_L1 k 0
    · intro y16
      refine Eq.trans blk_exit ?_
      refine Eq.trans (k_region0 rfl (dbd_areFields_r9 k a0 a1 y16)) ?_
      refine Eq.trans k_lret ?_
      rfl
    · intro s; exact rfl
def dbd_isType_fin : Bool → V × List V := fun r => ((V.bool r), [])
theorem dbd_isType_r0 (k : Nat) (a0 : T_api_Type) : regionE prog (evF prog anns ext k) dbd_isType_a0 dbd_isType_o0 false ⟨[(0, (enc_T_api_Type a0))], [], 70⟩ = some ⟨[(1, (V.ptr 1 0 0))], [(1, ⟨false, 8, [(enc_T_api_Type a0)]⟩)], 70⟩ := by
  refine Eq.trans regionE_reg ?_
  exact reg_end rfl
theorem dbd_isType_r1 (k : Nat) (a0 : T_api_Type) : regionE prog (evF prog anns ext k) dbd_isType_a1 dbd_isType_o1 false ⟨[(1, (V.ptr 1 0 0))], [(1, ⟨false, 8, [(enc_T_api_Type a0)]⟩)], 70⟩ = (((dbd_IsName k a0.fName).bind fun v1 => (bif (!v1) then (some (true)) else (bif (decide (a0.fMin < 1)) then (some (true)) else (bif (decide (a0.fMin > a0.fSize)) then (some (true)) else (bif (decide (a0.fSize > 40)) then (some (true)) else ((dbd_areFields k a0.fFields a0.fSize).bind fun v2 => (some ((!v2)))))))))).map (fun (o : Bool) => (⟨[(1, (V.ptr 1 0 0)), (3, (V.bool o))], [(1, ⟨false, 8, [(enc_T_api_Type a0)]⟩)], 70⟩ : St)) := by
  refine Eq.trans regionE_reg ?_
  refine Eq.trans (reg_adv (m := 2) (j := 2) (st' := ⟨[(1, (V.ptr 1 0 0)), (4, (V.ptr 1 0 0)), (5, (V.str a0.fName))], [(1, ⟨false, 8, [(enc_T_api_Type a0)]⟩)], 70⟩) rfl rfl rfl) ?_
  refine Eq.trans (reg_pure (x := (dbd_IsName k a0.fName)) (w := fun v1 => (V.bool v1)) rfl rfl rfl rfl (p_call rfl rfl rfl rfl rfl (dbd_IsName_ok k a0.fName) (.inl rfl))) ?_
  refine bindE (fun v1 => ?_)
  refine Eq.trans (bind_adv (m := 2) (j := 5) (st' := ⟨[(1, (V.ptr 1 0 0)), (4, (V.ptr 1 0 0)), (5, (V.str a0.fName)), (6, (V.bool v1)), (7, (V.bool (!v1))), (8, (V.bool (!v1)))], [(1, ⟨false, 8, [(enc_T_api_Type a0)]⟩)], 70⟩) rfl rfl rfl) ?_
  refine bifE (c := (!v1)) (fun hc => ?_) (fun hc => ?_)
  · rw [hc]
    exact reg_end rfl
  · rw [hc]
    refine Eq.trans (reg_adv (m := 5) (j := 10) (st' := ⟨[(1, (V.ptr 1 0 0)), (4, (V.ptr 1 0 0)), (5, (V.str a0.fName)), (6, (V.bool v1)), (7, (V.bool false)), (8, (V.bool false)), (9, (V.ptr 1 0 2)), (10, (V.int .i64 a0.fMin)), (11, (V.bool (decide (a0.fMin < 1)))), (12, (V.bool (decide (a0.fMin < 1)))), (13, (V.bool (decide (a0.fMin < 1))))], [(1, ⟨false, 8, [(enc_T_api_Type a0)]⟩)], 70⟩) rfl rfl rfl) ?_
    refine bifE (c := (decide (a0.fMin < 1))) (fun hc => ?_) (fun hc => ?_)
    · rw [hc]
      exact reg_end rfl
    · rw [hc]
      refine Eq.trans (reg_adv (m := 7) (j := 17) (st' := ⟨[(1, (V.ptr 1 0 0)), (4, (V.ptr 1 0 0)), (5, (V.str a0.fName)), (6, (V.bool v1)), (7, (V.bool false)), (8, (V.bool false)), (9, (V.ptr 1 0 2)), (10, (V.int .i64 a0.fMin)), (11, (V.bool false)), (12, (V.bool false)), (13, (V.bool false)), (14, (V.ptr 1 0 2)), (15, (V.int .i64 a0.fMin)), (16, (V.ptr 1 0 3)), (17, (V.int .i64 a0.fSize)), (18, (V.bool (decide (a0.fMin > a0.fSize)))), (19, (V.bool (decide (a0.fMin > a0.fSize)))), (20, (V.bool (decide (a0.fMin > a0.fSize))))], [(1, ⟨false, 8, [(enc_T_api_Type a0)]⟩)], 70⟩) rfl rfl rfl) ?_
      refine bifE (c := (decide (a0.fMin > a0.fSize))) (fun hc => ?_) (fun hc => ?_)
      · rw [hc]
        exact reg_end rfl
      · rw [hc]
        refine Eq.trans (reg_adv (m := 5) (j := 22) (st' := ⟨[(1, (V.ptr 1 0 0)), (4, (V.ptr 1 0 0)), (5, (V.str a0.fName)), (6, (V.bool v1)), (7, (V.bool false)), (8, (V.bool false)), (9, (V.ptr 1 0 2)), (10, (V.int .i64 a0.fMin)), (11, (V.bool false)), (12, (V.bool false)), (13, (V.bool false)), (14, (V.ptr 1 0 2)), (15, (V.int .i64 a0.fMin)), (16, (V.ptr 1 0 3)), (17, (V.int .i64 a0.fSize)), (18, (V.bool false)), (19, (V.bool false)), (20, (V.bool false)), (21, (V.ptr 1 0 3)), (22, (V.int .i64 a0.fSize)), (23, (V.bool (decide (a0.fSize > 40)))), (24, (V.bool (decide (a0.fSize > 40)))), (25, (V.bool (decide (a0.fSize > 40))))], [(1, ⟨false, 8, [(enc_T_api_Type a0)]⟩)], 70⟩) rfl rfl rfl) ?_
        refine bifE (c := (decide (a0.fSize > 40))) (fun hc => ?_) (fun hc => ?_)
        · rw [hc]
          exact reg_end rfl
        · rw [hc]
          refine Eq.trans (reg_adv (m := 4) (j := 26) (st' := ⟨[(1, (V.ptr 1 0 0)), (4, (V.ptr 1 0 0)), (5, (V.str a0.fName)), (6, (V.bool v1)), (7, (V.bool false)), (8, (V.bool false)), (9, (V.ptr 1 0 2)), (10, (V.int .i64 a0.fMin)), (11, (V.bool false)), (12, (V.bool false)), (13, (V.bool false)), (14, (V.ptr 1 0 2)), (15, (V.int .i64 a0.fMin)), (16, (V.ptr 1 0 3)), (17, (V.int .i64 a0.fSize)), (18, (V.bool false)), (19, (V.bool false)), (20, (V.bool false)), (21, (V.ptr 1 0 3)), (22, (V.int .i64 a0.fSize)), (23, (V.bool false)), (24, (V.bool false)), (25, (V.bool false)), (26, (V.ptr 1 0 4)), (27, (V.sl 0 3 (List.map enc_T_api_Field a0.fFields))), (28, (V.ptr 1 0 3)), (29, (V.int .i64 a0.fSize))], [(1, ⟨false, 8, [(enc_T_api_Type a0)]⟩)], 70⟩) rfl rfl rfl) ?_
          refine Eq.trans (reg_pure (x := (dbd_areFields k a0.fFields a0.fSize)) (w := fun v2 => (V.bool v2)) rfl rfl rfl rfl (p_call rfl rfl rfl rfl rfl (dbd_areFields_ok k a0.fFields a0.fSize) (.inl rfl))) ?_
          refine bindE (fun v2 => ?_)
          exact bind_end rfl
theorem dbd_isType_r2 (k : Nat) (a0 : T_api_Type) : regionE prog (evF prog anns ext k) dbd_isType_a2 dbd_isType_o2 false ⟨[(1, (V.ptr 1 0 0)), (3, (V.bool true))], [(1, ⟨false, 8, [(enc_T_api_Type a0)]⟩)], 70⟩ = some ⟨[(2, (V.bool false))], [], 70⟩ := by
  refine Eq.trans regionE_reg ?_
  exact reg_end rfl
theorem dbd_isType_r3 (k : Nat) (a0 : T_api_Type) : regionE prog (evF prog anns ext k) dbd_isType_a3 dbd_isType_o3 false ⟨[(1, (V.ptr 1 0 0)), (3, (V.bool false))], [(1, ⟨false, 8, [(enc_T_api_Type a0)]⟩)], 70⟩ = some ⟨[(1, (V.ptr 1 0 0)), (33, (V.bool (a0.fKey == (-1))))], [(1, ⟨false, 8, [(enc_T_api_Type a0)]⟩)], 70⟩ := by
  refine Eq.trans regionE_reg ?_
  exact reg_end rfl
theorem dbd_isType_r4 (k : Nat) (a0 : T_api_Type) : regionE prog (evF prog anns ext k) dbd_isType_a4 dbd_isType_o4 false ⟨[(1, (V.ptr 1 0 0)), (33, (V.bool true))], [(1, ⟨false, 8, [(enc_T_api_Type a0)]⟩)], 70⟩ = some ⟨[(2, (V.bool (!a0.fUnique)))], [], 70⟩ := by
  refine Eq.trans regionE_reg ?_
  exact reg_end rfl
theorem dbd_isType_r5 (k : Nat) (a0 : T_api_Type) : regionE prog (evF prog anns ext k) dbd_isType_a5 dbd_isType_o5 false ⟨[(1, (V.ptr 1 0 0)), (33, (V.bool false))], [(1, ⟨false, 8, [(enc_T_api_Type a0)]⟩)], 70⟩ = ((bif (decide (a0.fKey < 0)) then (some (true)) else (some ((decide (a0.fKey ≥ (a0.fFields.length : Int))))))).map (fun (o : Bool) => (⟨[(1, (V.ptr 1 0 0)), (40, (V.bool o))], [(1, ⟨false, 8, [(enc_T_api_Type a0)]⟩)], 70⟩ : St)) := by
  refine Eq.trans regionE_reg ?_
  refine Eq.trans (reg_adv (m := 4) (j := 4) (st' := ⟨[(1, (V.ptr 1 0 0)), (33, (V.bool false)), (41, (V.ptr 1 0 5)), (42, (V.int .i64 a0.fKey)), (43, (V.bool (decide (a0.fKey < 0)))), (44, (V.bool (decide (a0.fKey < 0))))], [(1, ⟨false, 8, [(enc_T_api_Type a0)]⟩)], 70⟩) rfl rfl rfl) ?_
  refine bifE (c := (decide (a0.fKey < 0))) (fun hc => ?_) (fun hc => ?_)
  · rw [hc]
    exact reg_end rfl
  · rw [hc]
    refine Eq.trans (reg_adv (m := 4) (j := 8) (st' := ⟨[(1, (V.ptr 1 0 0)), (33, (V.bool false)), (41, (V.ptr 1 0 5)), (42, (V.int .i64 a0.fKey)), (43, (V.bool false)), (44, (V.bool false)), (45, (V.ptr 1 0 5)), (46, (V.int .i64 a0.fKey)), (47, (V.ptr 1 0 4)), (48, (V.sl 0 3 (List.map enc_T_api_Field a0.fFields)))], [(1, ⟨false, 8, [(enc_T_api_Type a0)]⟩)], 70⟩) rfl rfl rfl) ?_
    refine Eq.trans (reg_pure (x := some ()) (w := fun _ => (V.int .i64 (a0.fFields.length : Int))) rfl rfl rfl rfl (p_len (e := enc_T_api_Field) rfl rfl rfl rfl rfl rfl Go.Proofs.Try.underlying53)) ?_
    refine Eq.trans some_bind ?_
    exact bind_end rfl
theorem dbd_isType_r6 (k : Nat) (a0 : T_api_Type) : regionE prog (evF prog anns ext k) dbd_isType_a6 dbd_isType_o6 false ⟨[(1, (V.ptr 1 0 0)), (40, (V.bool true))], [(1, ⟨false, 8, [(enc_T_api_Type a0)]⟩)], 70⟩ = some ⟨[(2, (V.bool false))], [], 70⟩ := by
  refine Eq.trans regionE_reg ?_
  exact reg_end rfl
theorem dbd_isType_r7 (k : Nat) (a0 : T_api_Type) : regionE prog (evF prog anns ext k) dbd_isType_a7 dbd_isType_o7 true ⟨[(1, (V.ptr 1 0 0)), (40, (V.bool false))], [(1, ⟨false, 8, [(enc_T_api_Type a0)]⟩)], 70⟩ = (((idx a0.fFields a0.fKey).bind fun v5 => ((idx a0.fFields a0.fKey).bind fun v6 => (some ((decide ((Go.IntKind.wrap .i64 (v5.fAt + v6.fBytes)) ≤ a0.fMin))))))).map (fun (o : Bool) => (⟨[(2, (V.bool o))], [], 70⟩ : St)) := by
  refine Eq.trans (regionE_regp (p := 19) (t := [(1, (V.ptr 1 0 0)), (40, (V.bool false))]) (σ := [(1, ⟨false, 8, [(enc_T_api_Type a0)]⟩)]) (n := 70) (by decide) (by decide) rfl) ?_
  refine Eq.trans (regp_adv (m := 4) (j := 4) (t' := [(1, (V.ptr 1 0 0)), (40, (V.bool false)), (52, (V.ptr 1 0 4)), (53, (V.sl 0 3 (List.map enc_T_api_Field a0.fFields))), (54, (V.ptr 1 0 5)), (55, (V.int .i64 a0.fKey))]) rfl rfl rfl) ?_
  refine Eq.trans (regp_pure (x := (idx a0.fFields a0.fKey)) (w := fun v5 => (V.pro (enc_T_api_Field v5))) rfl rfl rfl rfl rfl (p_index (e := enc_T_api_Field) rfl rfl rfl Go.Proofs.Try.underlying53 rfl (by decide))) ?_
  refine bindE (fun v5 => ?_)
  refine Eq.trans (putp_adv (m := 6) (j := 11) (t' := [(1, (V.ptr 1 0 0)), (40, (V.bool false)), (52, (V.ptr 1 0 4)), (53, (V.sl 0 3 (List.map enc_T_api_Field a0.fFields))), (54, (V.ptr 1 0 5)), (55, (V.int .i64 a0.fKey)), (56, (V.pro (enc_T_api_Field v5))), (57, (V.pro (V.int .i64 v5.fAt))), (58, (V.int .i64 v5.fAt)), (59, (V.ptr 1 0 4)), (60, (V.sl 0 3 (List.map enc_T_api_Field a0.fFields))), (61, (V.ptr 1 0 5)), (62, (V.int .i64 a0.fKey))]) rfl rfl rfl) ?_
  refine Eq.trans (regp_pure (x := (idx a0.fFields a0.fKey)) (w := fun v6 => (V.pro (enc_T_api_Field v6))) rfl rfl rfl rfl rfl (p_index (e := enc_T_api_Field) rfl rfl rfl Go.Proofs.Try.underlying53 rfl (by decide))) ?_
  refine bindE (fun v6 => ?_)
  exact regp_end rfl
theorem dbd_isType_ok (k : Nat) (a0 : T_api_Type) : evF prog anns ext k 68 [(enc_T_api_Type a0)] = (dbd_isType k a0).map dbd_isType_fin := by
  cases k with
  | zero => rfl
  | succ k =>
    unfold dbd_isType
    refine Eq.trans (evF_succ (c := dbd_isType_c) (N := 70) (regs := dbd_isType_an) rfl Go.Proofs.Try.func68 rfl (by decide) rfl rfl rfl) ?_
    refine Eq.trans (k_region0 rfl (dbd_isType_r0 k a0)) ?_
    refine Eq.trans k_block ?_
    refine Eq.trans (k_region rfl (dbd_isType_r1 k a0)) ?_
    refine bindE (fun o3 => ?_)
    refine Eq.trans (k_lcond (t := o3) rfl) ?_
    refine bifE2 (fun hc => ?_) (fun hc => ?_)
    · rw [hc]
      refine Eq.trans (k_region0 rfl (dbd_isType_r2 k a0)) ?_
      refine Eq.trans k_lret ?_
      refine Eq.trans blk_ret ?_
      rfl
    · rw [hc]
      refine Eq.trans (k_region0 rfl (dbd_isType_r3 k a0)) ?_
      refine Eq.trans (k_lcond (t := (a0.fKey == (-1))) rfl) ?_
      refine bifE2 (fun hc => ?_) (fun hc => ?_)
      · rw [hc]
        refine Eq.trans (k_region0 rfl (dbd_isType_r4 k a0)) ?_
        refine Eq.trans k_lret ?_
        refine Eq.trans blk_ret ?_
        rfl
      · rw [hc]
        refine Eq.trans (k_region rfl (dbd_isType_r5 k a0)) ?_
        refine bindE (fun o4 => ?_)
        refine Eq.trans (k_lcond (t := o4) rfl) ?_
        refine bifE2 (fun hc => ?_) (fun hc => ?_)
        · rw [hc]
          refine Eq.trans (k_region0 rfl (dbd_isType_r6 k a0)) ?_
          refine Eq.trans k_lret ?_
          refine Eq.trans blk_ret ?_
          rfl
        · rw [hc]
          refine Eq.trans k_lskip ?_
          refine Eq.trans blk_normal ?_
          refine Eq.trans (k_region rfl (dbd_isType_r7 k a0)) ?_
          refine bindE (fun o7 => ?_)
          refine Eq.trans k_lret ?_
          rfl
def slices_IndexFunc_Type_fin : Int → V × List V := fun r => ((V.int .i64 r), [])
theorem slices_IndexFunc_Type_r0 (k : Nat) (a0 : (List T_api_Type)) (a1 : Nat → T_api_Type → Option Bool) (a1_fid : Go.FuncId) (a1_c0 : V) (a1_hok : ∀ j x0, evF prog anns ext j a1_fid [(enc_T_api_Type x0), V.pro a1_c0] = (a1 j x0).map fun b => ((V.bool b), [])) : regionE prog (evF prog anns ext k) slices_IndexFunc_Type_a0 slices_IndexFunc_Type_o0 false ⟨[(0, (V.sl 0 8 (List.map enc_T_api_Type a0))), (1, (V.fn a1_fid [] [V.pro a1_c0]))], [], 19⟩ = some ⟨[(0, (V.sl 0 8 (List.map enc_T_api_Type a0))), (1, (V.fn a1_fid [] [V.pro a1_c0]))], [], 19⟩ := by
  refine Eq.trans regionE_reg ?_
  exact reg_end rfl
theorem slices_IndexFunc_Type_r1 (k : Nat) (a0 : (List T_api_Type)) (a1 : Nat → T_api_Type → Option Bool) (a1_fid : Go.FuncId) (a1_c0 : V) (a1_hok : ∀ j x0, evF prog anns ext j a1_fid [(enc_T_api_Type x0), V.pro a1_c0] = (a1 j x0).map fun b => ((V.bool b), [])) : regionE prog (evF prog anns ext k) slices_IndexFunc_Type_a1 slices_IndexFunc_Type_o1 false ⟨[(0, (V.sl 0 8 (List.map enc_T_api_Type a0))), (1, (V.fn a1_fid [] [V.pro a1_c0]))], [], 19⟩ = some ⟨[(0, (V.sl 0 8 (List.map enc_T_api_Type a0))), (1, (V.fn a1_fid [] [V.pro a1_c0])), (7, (V.int .i64 (a0.length : Int))), (8, (V.int .i64 0))], [], 19⟩ := by
  refine Eq.trans regionE_reg ?_
  refine Eq.trans (reg_adv (m := 1) (j := 1) (st' := ⟨[(0, (V.sl 0 8 (List.map enc_T_api_Type a0))), (1, (V.fn a1_fid [] [V.pro a1_c0])), (6, (V.sl 0 8 (List.map enc_T_api_Type a0)))], [], 19⟩) rfl rfl rfl) ?_
  refine Eq.trans (reg_pure (x := some ()) (w := fun _ => (V.int .i64 (a0.length : Int))) rfl rfl rfl rfl (p_len (e := enc_T_api_Type) rfl rfl rfl rfl rfl rfl Go.Proofs.Try.underlying22)) ?_
  refine Eq.trans some_bind ?_
  exact bind_end rfl
theorem slices_IndexFunc_Type_r2 (k : Nat) (a0 : (List T_api_Type)) (x4 : Int) (a1 : Nat → T_api_Type → Option Bool) (a1_fid : Go.FuncId) (a1_c0 : V) (a1_hok : ∀ j x0, evF prog anns ext j a1_fid [(enc_T_api_Type x0), V.pro a1_c0] = (a1 j x0).map fun b => ((V.bool b), [])) : regionE prog (evF prog anns ext k) slices_IndexFunc_Type_a2 slices_IndexFunc_Type_o2 false ⟨[(0, (V.sl 0 8 (List.map enc_T_api_Type a0))), (1, (V.fn a1_fid [] [V.pro a1_c0])), (7, (V.int .i64 (a0.length : Int))), (8, (V.int .i64 x4))], [], 19⟩ = some ⟨[(0, (V.sl 0 8 (List.map enc_T_api_Type a0))), (1, (V.fn a1_fid [] [V.pro a1_c0])), (7, (V.int .i64 (a0.length : Int))), (8, (V.int .i64 x4)), (9, (V.bool (decide (x4 < (a0.length : Int)))))], [], 19⟩ := by
  refine Eq.trans regionE_reg ?_
  exact reg_end rfl
theorem slices_IndexFunc_Type_r3 (k : Nat) (a0 : (List T_api_Type)) (x4 : Int) (a1 : Nat → T_api_Type → Option Bool) (a1_fid : Go.FuncId) (a1_c0 : V) (a1_hok : ∀ j x0, evF prog anns ext j a1_fid [(enc_T_api_Type x0), V.pro a1_c0] = (a1 j x0).map fun b => ((V.bool b), [])) : regionE prog (evF prog anns ext k) slices_IndexFunc_Type_a3 slices_IndexFunc_Type_o3 false ⟨[(0, (V.sl 0 8 (List.map enc_T_api_Type a0))), (1, (V.fn a1_fid [] [V.pro a1_c0])), (7, (V.int .i64 (a0.length : Int))), (8, (V.int .i64 x4)), (9, (V.bool true))], [], 19⟩ = some ⟨[(0, (V.sl 0 8 (List.map enc_T_api_Type a0))), (1, (V.fn a1_fid [] [V.pro a1_c0])), (5, (V.int .i64 x4)), (7, (V.int .i64 (a0.length : Int))), (8, (V.int .i64 x4))], [], 19⟩ := by
  refine Eq.trans regionE_reg ?_
  exact reg_end rfl
theorem slices_IndexFunc_Type_r4 (k : Nat) (a0 : (List T_api_Type)) (x4 : Int) (a1 : Nat → T_api_Type → Option Bool) (a1_fid : Go.FuncId) (a1_c0 : V) (a1_hok : ∀ j x0, evF prog anns ext j a1_fid [(enc_T_api_Type x0), V.pro a1_c0] = (a1 j x0).map fun b => ((V.bool b), [])) : regionE prog (evF prog anns ext k) slices_IndexFunc_Type_a4 slices_IndexFunc_Type_o4 false ⟨[(0, (V.sl 0 8 (List.map enc_T_api_Type a0))), (1, (V.fn a1_fid [] [V.pro a1_c0])), (5, (V.int .i64 x4)), (7, (V.int .i64 (a0.length : Int))), (8, (V.int .i64 x4))], [], 19⟩ = (((idx a0 x4).bind fun v5 => (a1 k v5))).map (fun (o : Bool) => (⟨[(0, (V.sl 0 8 (List.map enc_T_api_Type a0))), (1, (V.fn a1_fid [] [V.pro a1_c0])), (5, (V.int .i64 x4)), (7, (V.int .i64 (a0.length : Int))), (8, (V.int .i64 x4)), (16, (V.bool o))], [], 19⟩ : St)) := by
  refine Eq.trans regionE_reg ?_
  refine Eq.trans (reg_adv (m := 3) (j := 3) (st' := ⟨[(0, (V.sl 0 8 (List.map enc_T_api_Type a0))), (1, (V.fn a1_fid [] [V.pro a1_c0])), (5, (V.int .i64 x4)), (7, (V.int .i64 (a0.length : Int))), (8, (V.int .i64 x4)), (11, (V.fn a1_fid [] [V.pro a1_c0])), (12, (V.sl 0 8 (List.map enc_T_api_Type a0))), (13, (V.int .i64 x4))], [], 19⟩) rfl rfl rfl) ?_
  refine Eq.trans (reg_pure (x := (idx a0 x4)) (w := fun v5 => (V.pro (enc_T_api_Type v5))) rfl rfl rfl rfl (p_index (e := enc_T_api_Type) rfl rfl rfl Go.Proofs.Try.underlying22 rfl (by decide))) ?_
  refine bindE (fun v5 => ?_)
  refine Eq.trans (bind_adv (m := 1) (j := 5) (st' := ⟨[(0, (V.sl 0 8 (List.map enc_T_api_Type a0))), (1, (V.fn a1_fid [] [V.pro a1_c0])), (5, (V.int .i64 x4)), (7, (V.int .i64 (a0.length : Int))), (8, (V.int .i64 x4)), (11, (V.fn a1_fid [] [V.pro a1_c0])), (12, (V.sl 0 8 (List.map enc_T_api_Type a0))), (13, (V.int .i64 x4)), (14, (V.pro (enc_T_api_Type v5))), (15, (enc_T_api_Type v5))], [], 19⟩) rfl rfl rfl) ?_
  refine Eq.trans (reg_pure (x := (a1 k v5)) (w := fun v6 => (V.bool v6)) rfl rfl rfl rfl (p_call rfl rfl rfl rfl rfl (a1_hok k v5) (.inl rfl))) ?_
  refine bind_self (fun v6 => ?_)
  exact bind_end rfl
theorem slices_IndexFunc_Type_r5 (k : Nat) (a0 : (List T_api_Type)) (x4 : Int) (a1 : Nat → T_api_Type → Option Bool) (a1_fid : Go.FuncId) (a1_c0 : V) (a1_hok : ∀ j x0, evF prog anns ext j a1_fid [(enc_T_api_Type x0), V.pro a1_c0] = (a1 j x0).map fun b => ((V.bool b), [])) : regionE prog (evF prog anns ext k) slices_IndexFunc_Type_a5 slices_IndexFunc_Type_o5 false ⟨[(0, (V.sl 0 8 (List.map enc_T_api_Type a0))), (1, (V.fn a1_fid [] [V.pro a1_c0])), (5, (V.int .i64 x4)), (7, (V.int .i64 (a0.length : Int))), (8, (V.int .i64 x4)), (16, (V.bool true))], [], 19⟩ = some ⟨[(4, (V.int .i64 x4))], [], 19⟩ := by
  refine Eq.trans regionE_reg ?_
  exact reg_end rfl
theorem slices_IndexFunc_Type_r6 (k : Nat) (a0 : (List T_api_Type)) (x4 : Int) (a1 : Nat → T_api_Type → Option Bool) (a1_fid : Go.FuncId) (a1_c0 : V) (a1_hok : ∀ j x0, evF prog anns ext j a1_fid [(enc_T_api_Type x0), V.pro a1_c0] = (a1 j x0).map fun b => ((V.bool b), [])) : regionE prog (evF prog anns ext k) slices_IndexFunc_Type_a6 slices_IndexFunc_Type_o6 false ⟨[(0, (V.sl 0 8 (List.map enc_T_api_Type a0))), (1, (V.fn a1_fid [] [V.pro a1_c0])), (5, (V.int .i64 x4)), (7, (V.int .i64 (a0.length : Int))), (8, (V.int .i64 x4)), (16, (V.bool false))], [], 19⟩ = some ⟨[(0, (V.sl 0 8 (List.map enc_T_api_Type a0))), (1, (V.fn a1_fid [] [V.pro a1_c0])), (7, (V.int .i64 (a0.length : Int))), (8, (V.int .i64 (Go.IntKind.wrap .i64 (x4 + 1))))], [], 19⟩ := by
  refine Eq.trans regionE_reg ?_
  exact reg_end rfl
theorem slices_IndexFunc_Type_L1_ok (k : Nat) (a0 : (List T_api_Type)) (a1 : Nat → T_api_Type → Option Bool) (a1_fid : Go.FuncId) (a1_c0 : V) (a1_hok : ∀ j x0, evF prog anns ext j a1_fid [(enc_T_api_Type x0), V.pro a1_c0] = (a1 j x0).map fun b => ((V.bool b), [])) (K0 : Int → Option Int) (Kst : X × St → Option (V × List V)) (hK0 : ∀ (y0 : Int), Kst (X.exit 0, ⟨[(0, (V.sl 0 8 (List.map enc_T_api_Type a0))), (1, (V.fn a1_fid [] [V.pro a1_c0])), (7, (V.int .i64 (a0.length : Int))), (8, (V.int .i64 y0)), (9, (V.bool false))], [], 19⟩) = (K0 y0).map slices_IndexFunc_Type_fin) (hret : ∀ s, Kst (X.ret, s) = endK prog 19 [(V.sl 0 8 (List.map enc_T_api_Type a0)), (V.fn a1_fid [] [V.pro a1_c0])] [] [.tmp 4] (X.ret, s)) :
    ∀ (m : Nat) (x4 : Int), (iter (exec prog (evF prog anns ext k) slices_IndexFunc_Type_an k slices_IndexFunc_Type_b0) m ⟨[(0, (V.sl 0 8 (List.map enc_T_api_Type a0))), (1, (V.fn a1_fid [] [V.pro a1_c0])), (7, (V.int .i64 (a0.length : Int))), (8, (V.int .i64 x4))], [], 19⟩).bind Kst = (slices_IndexFunc_Type_L1 k a0 a1 K0 m x4).map slices_IndexFunc_Type_fin := by
  intro m
  induction m with
  | zero => intros; rfl
  | succ m ih =>
    intro x4
    unfold slices_IndexFunc_Type_L1
    refine Eq.trans k_round ?_
    refine Eq.trans (k_region0 rfl (slices_IndexFunc_Type_r2 k a0 x4 a1 a1_fid a1_c0 a1_hok)) ?_
    refine Eq.trans (k_cond (t := (decide (x4 < (a0.length : Int)))) rfl) ?_
    refine bifE2 (fun hc => ?_) (fun hc => ?_)
    · rw [hc]
      refine Eq.trans k_skip ?_
      refine Eq.trans k_block ?_
      refine Eq.trans (k_region0 rfl (slices_IndexFunc_Type_r3 k a0 x4 a1 a1_fid a1_c0 a1_hok)) ?_
      refine Eq.trans (k_region rfl (slices_IndexFunc_Type_r4 k a0 x4 a1 a1_fid a1_c0 a1_hok)) ?_
      refine bindE (fun o7 => ?_)
      refine Eq.trans (k_lcond (t := o7) rfl) ?_
      refine bifE2 (fun hc => ?_) (fun hc => ?_)
      · rw [hc]
        refine Eq.trans (k_region0 rfl (slices_IndexFunc_Type_r5 k a0 x4 a1 a1_fid a1_c0 a1_hok)) ?_
        refine Eq.trans k_lret ?_
        refine Eq.trans blk_ret ?_
        refine Eq.trans loop_ret ?_
        refine Eq.trans (hret _) ?_
        rfl
      · rw [hc]
        refine Eq.trans k_lskip ?_
        refine Eq.trans blk_normal ?_
        refine Eq.trans (k_lregion0 rfl (slices_IndexFunc_Type_r6 k a0 x4 a1 a1_fid a1_c0 a1_hok)) ?_
        refine Eq.trans loop_normal ?_
        exact ih (Go.IntKind.wrap .i64 (x4 + 1))
    · rw [hc]
      refine Eq.trans k_exit ?_
      refine Eq.trans loop_exit ?_
      exact hK0 x4
theorem slices_IndexFunc_Type_r7 (k : Nat) (a0 : (List T_api_Type)) (y8 : Int) (a1 : Nat → T_api_Type → Option Bool) (a1_fid : Go.FuncId) (a1_c0 : V) (a1_hok : ∀ j x0, evF prog anns ext j a1_fid [(enc_T_api_Type x0), V.pro a1_c0] = (a1 j x0).map fun b => ((V.bool b), [])) : regionE prog (evF prog anns ext k) slices_IndexFunc_Type_a7 slices_IndexFunc_Type_o7 false ⟨[(0, (V.sl 0 8 (List.map enc_T_api_Type a0))), (1, (V.fn a1_fid [] [V.pro a1_c0])), (7, (V.int .i64 (a0.length : Int))), (8, (V.int .i64 y8)), (9, (V.bool false))], [], 19⟩ = some ⟨[(4, (V.int .i64 (-1)))], [], 19⟩ := by
  refine Eq.trans regionE_reg ?_
  exact reg_end rfl
theorem slices_IndexFunc_Type_ok (k : Nat) (a0 : (List T_api_Type)) (a1 : Nat → T_api_Type → Option Bool) (a1_fid : Go.FuncId) (a1_c0 : V) (a1_hok : ∀ j x0, evF prog anns ext j a1_fid [(enc_T_api_Type x0), V.pro a1_c0] = (a1 j x0).map fun b => ((V.bool b), [])) : evF prog anns ext k 45 [(V.sl 0 8 (List.map enc_T_api_Type a0)), (V.fn a1_fid [] [V.pro a1_c0])] = (slices_IndexFunc_Type k a0 a1).map slices_IndexFunc_Type_fin := by
  cases k with
  | zero => rfl
  | succ k =>
    unfold slices_IndexFunc_Type
    refine Eq.trans (evF_succ (c := slices_IndexFunc_Type_c) (N := 19) (regs := slices_IndexFunc_Type_an) rfl Go.Proofs.Try.func45 rfl (by decide) rfl rfl rfl) ?_
    refine Eq.trans (k_region0 rfl (slices_IndexFunc_Type_r0 k a0 a1 a1_fid a1_c0 a1_hok)) ?_
    refine Eq.trans k_assoc ?_
    refine Eq.trans (k_region0 rfl (slices_IndexFunc_Type_r1 k a0 a1 a1_fid a1_c0 a1_hok)) ?_
    refine Eq.trans k_block ?_
    refine Eq.trans k_loop ?_
    refine slices_IndexFunc_Type_L1_ok k a0 a1 a1_fid a1_c0 a1_hok _ _ ?h_slices_IndexFunc_Type_L1_0 ?hr_slices_IndexFunc_Type_L1 k 0
    · intro y8
      refine Eq.trans blk_exit ?_
      refine Eq.trans (k_region0 rfl (slices_IndexFunc_Type_r7 k a0 y8 a1 a1_fid a1_c0 a1_hok)) ?_
      refine Eq.trans k_lret ?_
      rfl
    · intro s; exact rfl
def slices_ContainsFunc_Type_fin : Bool → V × List V := fun r => ((V.bool r), [])
theorem slices_ContainsFunc_Type_r0 (k : Nat) (a0 : (List T_api_Type)) (a1 : Nat → T_api_Type → Option Bool) (a1_fid : Go.FuncId) (a1_c0 : V) (a1_hok : ∀ j x0, evF prog anns ext j a1_fid [(enc_T_api_Type x0), V.pro a1_c0] = (a1 j x0).map fun b => ((V.bool b), [])) : regionE prog (evF prog anns ext k) slices_ContainsFunc_Type_a0 slices_ContainsFunc_Type_o0 false ⟨[(0, (V.sl 0 8 (List.map enc_T_api_Type a0))), (1, (V.fn a1_fid [] [V.pro a1_c0]))], [], 9⟩ = some ⟨[(0, (V.sl 0 8 (List.map enc_T_api_Type a0))), (1, (V.fn a1_fid [] [V.pro a1_c0]))], [], 9⟩ := by
  refine Eq.trans regionE_reg ?_
  exact reg_end rfl
theorem slices_ContainsFunc_Type_r1 (k : Nat) (a0 : (List T_api_Type)) (a1 : Nat → T_api_Type → Option Bool) (a1_fid : Go.FuncId) (a1_c0 : V) (a1_hok : ∀ j x0, evF prog anns ext j a1_fid [(enc_T_api_Type x0), V.pro a1_c0] = (a1 j x0).map fun b => ((V.bool b), [])) : regionE prog (evF prog anns ext k) slices_ContainsFunc_Type_a1 slices_ContainsFunc_Type_o1 false ⟨[(0, (V.sl 0 8 (List.map enc_T_api_Type a0))), (1, (V.fn a1_fid [] [V.pro a1_c0]))], [], 9⟩ = (((slices_IndexFunc_Type k a0 a1).bind fun v1 => (some ((decide (v1 ≥ 0)))))).map (fun (o : Bool) => (⟨[(4, (V.bool o))], [], 9⟩ : St)) := by
  refine Eq.trans regionE_reg ?_
  refine Eq.trans (reg_adv (m := 2) (j := 2) (st' := ⟨[(0, (V.sl 0 8 (List.map enc_T_api_Type a0))), (1, (V.fn a1_fid [] [V.pro a1_c0])), (5, (V.sl 0 8 (List.map enc_T_api_Type a0))), (6, (V.fn a1_fid [] [V.pro a1_c0]))], [], 9⟩) rfl rfl rfl) ?_
  refine Eq.trans (reg_pure (x := (slices_IndexFunc_Type k a0 a1)) (w := fun v1 => (V.int .i64 v1)) rfl rfl rfl rfl (p_call rfl rfl rfl rfl rfl (slices_IndexFunc_Type_ok k a0 a1 a1_fid a1_c0 a1_hok) (.inl rfl))) ?_
  refine bindE (fun v1 => ?_)
  exact bind_end rfl
theorem slices_ContainsFunc_Type_ok (k : Nat) (a0 : (List T_api_Type)) (a1 : Nat → T_api_Type → Option Bool) (a1_fid : Go.FuncId) (a1_c0 : V) (a1_hok : ∀ j x0, evF prog anns ext j a1_fid [(enc_T_api_Type x0), V.pro a1_c0] = (a1 j x0).map fun b => ((V.bool b), [])) : evF prog anns ext k 69 [(V.sl 0 8 (List.map enc_T_api_Type a0)), (V.fn a1_fid [] [V.pro a1_c0])] = (slices_ContainsFunc_Type k a0 a1).map slices_ContainsFunc_Type_fin := by
  cases k with
  | zero => rfl
  | succ k =>
    unfold slices_ContainsFunc_Type
    refine Eq.trans (evF_succ (c := slices_ContainsFunc_Type_c) (N := 9) (regs := slices_ContainsFunc_Type_an) rfl Go.Proofs.Try.func69 rfl (by decide) rfl rfl rfl) ?_
    refine Eq.trans (k_region0 rfl (slices_ContainsFunc_Type_r0 k a0 a1 a1_fid a1_c0 a1_hok)) ?_
    refine Eq.trans (k_region rfl (slices_ContainsFunc_Type_r1 k a0 a1 a1_fid a1_c0 a1_hok)) ?_
    refine bindE (fun o2 => ?_)
    refine Eq.trans k_lret ?_
    rfl
def dbd_areTypes_1_fin : Bool → V × List V := fun r => ((V.bool r), [])
theorem dbd_areTypes_1_r0 (k : Nat) (a0 : T_api_Type) (a1 : T_api_Type) : regionE prog (evF prog anns ext k) dbd_areTypes_1_a0 dbd_areTypes_1_o0 false ⟨[(0, (enc_T_api_Type a0)), (1, (V.pro (enc_T_api_Type a1)))], [], 9⟩ = some ⟨[(1, (V.pro (enc_T_api_Type a1))), (2, (V.ptr 2 0 0))], [(2, ⟨false, 8, [(enc_T_api_Type a0)]⟩)], 9⟩ := by
  refine Eq.trans regionE_reg ?_
  exact reg_end rfl
theorem dbd_areTypes_1_r1 (k : Nat) (a0 : T_api_Type) (a1 : T_api_Type) : regionE prog (evF prog anns ext k) dbd_areTypes_1_a1 dbd_areTypes_1_o1 false ⟨[(1, (V.pro (enc_T_api_Type a1))), (2, (V.ptr 2 0 0))], [(2, ⟨false, 8, [(enc_T_api_Type a0)]⟩)], 9⟩ = some ⟨[(3, (V.bool (a0.fName == a1.fName)))], [], 9⟩ := by
  refine Eq.trans regionE_reg ?_
  exact reg_end rfl
theorem dbd_areTypes_1_ok (k : Nat) (a0 : T_api_Type) (a1 : T_api_Type) : evF prog anns ext k 70 [(enc_T_api_Type a0), (V.pro (enc_T_api_Type a1))] = (dbd_areTypes_1 k a0 a1).map dbd_areTypes_1_fin := by
  cases k with
  | zero => rfl
  | succ k =>
    unfold dbd_areTypes_1
    refine Eq.trans (evF_succ (c := dbd_areTypes_1_c) (N := 9) (regs := dbd_areTypes_1_an) rfl Go.Proofs.Try.func70 rfl (by decide) rfl rfl rfl) ?_
    refine Eq.trans (k_region0 rfl (dbd_areTypes_1_r0 k a0 a1)) ?_
    refine Eq.trans (k_region0 rfl (dbd_areTypes_1_r1 k a0 a1)) ?_
    refine Eq.trans k_lret ?_
    rfl
def slices_Index_int_fin : Int → V × List V := fun r => ((V.int .i64 r), [])
theorem slices_Index_int_r0 (k : Nat) (a0 : (List Int)) (a1 : Int) : regionE prog (evF prog anns ext k) slices_Index_int_a0 slices_Index_int_o0 false ⟨[(0, (V.sl 0 1 (List.map (V.int .i64) a0))), (1, (V.int .i64 a1))], [], 19⟩ = some ⟨[(0, (V.sl 0 1 (List.map (V.int .i64) a0))), (1, (V.int .i64 a1))], [], 19⟩ := by
  refine Eq.trans regionE_reg ?_
  exact reg_end rfl
theorem slices_Index_int_r1 (k : Nat) (a0 : (List Int)) (a1 : Int) : regionE prog (evF prog anns ext k) slices_Index_int_a1 slices_Index_int_o1 false ⟨[(0, (V.sl 0 1 (List.map (V.int .i64) a0))), (1, (V.int .i64 a1))], [], 19⟩ = some ⟨[(0, (V.sl 0 1 (List.map (V.int .i64) a0))), (1, (V.int .i64 a1)), (7, (V.int .i64 (a0.length : Int))), (8, (V.int .i64 0))], [], 19⟩ := by
  refine Eq.trans regionE_reg ?_
  refine Eq.trans (reg_adv (m := 1) (j := 1) (st' := ⟨[(0, (V.sl 0 1 (List.map (V.int .i64) a0))), (1, (V.int .i64 a1)), (6, (V.sl 0 1 (List.map (V.int .i64) a0)))], [], 19⟩) rfl rfl rfl) ?_
  refine Eq.trans (reg_pure (x := some ()) (w := fun _ => (V.int .i64 (a0.length : Int))) rfl rfl rfl rfl (p_len (e := (V.int .i64)) rfl rfl rfl rfl rfl rfl Go.Proofs.Try.underlying28)) ?_
  refine Eq.trans some_bind ?_
  exact bind_end rfl
theorem slices_Index_int_r2 (k : Nat) (a0 : (List Int)) (a1 : Int) (x3 : Int) : regionE prog (evF prog anns ext k) slices_Index_int_a2 slices_Index_int_o2 false ⟨[(0, (V.sl 0 1 (List.map (V.int .i64) a0))), (1, (V.int .i64 a1)), (7, (V.int .i64 (a0.length : Int))), (8, (V.int .i64 x3))], [], 19⟩ = some ⟨[(0, (V.sl 0 1 (List.map (V.int .i64) a0))), (1, (V.int .i64 a1)), (7, (V.int .i64 (a0.length : Int))), (8, (V.int .i64 x3)), (9, (V.bool (decide (x3 < (a0.length : Int)))))], [], 19⟩ := by
  refine Eq.trans regionE_reg ?_
  exact reg_end rfl
theorem slices_Index_int_r3 (k : Nat) (a0 : (List Int)) (a1 : Int) (x3 : Int) : regionE prog (evF prog anns ext k) slices_Index_int_a3 slices_Index_int_o3 false ⟨[(0, (V.sl 0 1 (List.map (V.int .i64) a0))), (1, (V.int .i64 a1)), (7, (V.int .i64 (a0.length : Int))), (8, (V.int .i64 x3)), (9, (V.bool true))], [], 19⟩ = some ⟨[(0, (V.sl 0 1 (List.map (V.int .i64) a0))), (1, (V.int .i64 a1)), (5, (V.int .i64 x3)), (7, (V.int .i64 (a0.length : Int))), (8, (V.int .i64 x3))], [], 19⟩ := by
  refine Eq.trans regionE_reg ?_
  exact reg_end rfl
theorem slices_Index_int_r4 (k : Nat) (a0 : (List Int)) (a1 : Int) (x3 : Int) : regionE prog (evF prog anns ext k) slices_Index_int_a4 slices_Index_int_o4 false ⟨[(0, (V.sl 0 1 (List.map (V.int .i64) a0))), (1, (V.int .i64 a1)), (5, (V.int .i64 x3)), (7, (V.int .i64 (a0.length : Int))), (8, (V.int .i64 x3))], [], 19⟩ = (((idx a0 x3).bind fun v4 => (some ((a1 == v4))))).map (fun (o : Bool) => (⟨[(0, (V.sl 0 1 (List.map (V.int .i64) a0))), (1, (V.int .i64 a1)), (5, (V.int .i64 x3)), (7, (V.int .i64 (a0.length : Int))), (8, (V.int .i64 x3)), (16, (V.bool o))], [], 19⟩ : St)) := by
  refine Eq.trans regionE_reg ?_
  refine Eq.trans (reg_adv (m := 3) (j := 3) (st' := ⟨[(0, (V.sl 0 1 (List.map (V.int .i64) a0))), (1, (V.int .i64 a1)), (5, (V.int .i64 x3)), (7, (V.int .i64 (a0.length : Int))), (8, (V.int .i64 x3)), (11, (V.int .i64 a1)), (12, (V.sl 0 1 (List.map (V.int .i64) a0))), (13, (V.int .i64 x3))], [], 19⟩) rfl rfl rfl) ?_
  refine Eq.trans (reg_pure (x := (idx a0 x3)) (w := fun v4 => (V.pro (V.int .i64 v4))) rfl rfl rfl rfl (p_index (e := (V.int .i64)) rfl rfl rfl Go.Proofs.Try.underlying28 rfl (by decide))) ?_
  refine bindE (fun v4 => ?_)
  exact bind_end rfl
theorem slices_Index_int_r5 (k : Nat) (a0 : (List Int)) (a1 : Int) (x3 : Int) : regionE prog (evF prog anns ext k) slices_Index_int_a5 slices_Index_int_o5 false ⟨[(0, (V.sl 0 1 (List.map (V.int .i64) a0))), (1, (V.int .i64 a1)), (5, (V.int .i64 x3)), (7, (V.int .i64 (a0.length : Int))), (8, (V.int .i64 x3)), (16, (V.bool true))], [], 19⟩ = some ⟨[(4, (V.int .i64 x3))], [], 19⟩ := by
  refine Eq.trans regionE_reg ?_
  exact reg_end rfl
theorem slices_Index_int_r6 (k : Nat) (a0 : (List Int)) (a1 : Int) (x3 : Int) : regionE prog (evF prog anns ext k) slices_Index_int_a6 slices_Index_int_o6 false ⟨[(0, (V.sl 0 1 (List.map (V.int .i64) a0))), (1, (V.int .i64 a1)), (5, (V.int .i64 x3)), (7, (V.int .i64 (a0.length : Int))), (8, (V.int .i64 x3)), (16, (V.bool false))], [], 19⟩ = some ⟨[(0, (V.sl 0 1 (List.map (V.int .i64) a0))), (1, (V.int .i64 a1)), (7, (V.int .i64 (a0.length : Int))), (8, (V.int .i64 (Go.IntKind.wrap .i64 (x3 + 1))))], [], 19⟩ := by
  refine Eq.trans regionE_reg ?_
  exact reg_end rfl
theorem slices_Index_int_L1_ok (k : Nat) (a0 : (List Int)) (a1 : Int)  (K0 : Int → Option Int) (Kst : X × St → Option (V × List V)) (hK0 : ∀ (y0 : Int), Kst (X.exit 0, ⟨[(0, (V.sl 0 1 (List.map (V.int .i64) a0))), (1, (V.int .i64 a1)), (7, (V.int .i64 (a0.length : Int))), (8, (V.int .i64 y0)), (9, (V.bool false))], [], 19⟩) = (K0 y0).map slices_Index_int_fin) (hret : ∀ s, Kst (X.ret, s) = endK prog 19 [(V.sl 0 1 (List.map (V.int .i64) a0)), (V.int .i64 a1)] [] [.tmp 4] (X.ret, s)) :
    ∀ (m : Nat) (x3 : Int), (iter (exec prog (evF prog anns ext k) slices_Index_int_an k slices_Index_int_b0) m ⟨[(0, (V.sl 0 1 (List.map (V.int .i64) a0))), (1, (V.int .i64 a1)), (7, (V.int .i64 (a0.length : Int))), (8, (V.int .i64 x3))], [], 19⟩).bind Kst = (slices_Index_int_L1 a0 a1 K0 m x3).map slices_Index_int_fin := by
  intro m
  induction m with
  | zero => intros; rfl
  | succ m ih =>
    intro x3
    unfold slices_Index_int_L1
    refine Eq.trans k_round ?_
    refine Eq.trans (k_region0 rfl (slices_Index_int_r2 k a0 a1 x3)) ?_
    refine Eq.trans (k_cond (t := (decide (x3 < (a0.length : Int)))) rfl) ?_
    refine bifE2 (fun hc => ?_) (fun hc => ?_)
    · rw [hc]
      refine Eq.trans k_skip ?_
      refine Eq.trans k_block ?_
      refine Eq.trans (k_region0 rfl (slices_Index_int_r3 k a0 a1 x3)) ?_
      refine Eq.trans (k_region rfl (slices_Index_int_r4 k a0 a1 x3)) ?_
      refine bindE (fun o5 => ?_)
      refine Eq.trans (k_lcond (t := o5) rfl) ?_
      refine bifE2 (fun hc => ?_) (fun hc => ?_)
      · rw [hc]
        refine Eq.trans (k_region0 rfl (slices_Index_int_r5 k a0 a1 x3)) ?_
        refine Eq.trans k_lret ?_
        refine Eq.trans blk_ret ?_
        refine Eq.trans loop_ret ?_
        refine Eq.trans (hret _) ?_
        rfl
      · rw [hc]
        refine Eq.trans k_lskip ?_
        refine Eq.trans blk_normal ?_
        refine Eq.trans (k_lregion0 rfl (slices_Index_int_r6 k a0 a1 x3)) ?_
        refine Eq.trans loop_normal ?_
        exact ih (Go.IntKind.wrap .i64 (x3 + 1))
    · rw [hc]
      refine Eq.trans k_exit ?_
      refine Eq.trans loop_exit ?_
      exact hK0 x3
theorem slices_Index_int_r7 (k : Nat) (a0 : (List Int)) (a1 : Int) (y6 : Int) : regionE prog (evF prog anns ext k) slices_Index_int_a7 slices_Index_int_o7 false ⟨[(0, (V.sl 0 1 (List.map (V.int .i64) a0))), (1, (V.int .i64 a1)), (7, (V.int .i64 (a0.length : Int))), (8, (V.int .i64 y6)), (9, (V.bool false))], [], 19⟩ = some ⟨[(4, (V.int .i64 (-1)))], [], 19⟩ := by
  refine Eq.trans regionE_reg ?_
  exact reg_end rfl
theorem slices_Index_int_ok (k : Nat) (a0 : (List Int)) (a1 : Int) : evF prog anns ext k 53 [(V.sl 0 1 (List.map (V.int .i64) a0)), (V.int .i64 a1)] = (slices_Index_int k a0 a1).map slices_Index_int_fin := by
  cases k with
  | zero => rfl
  | succ k =>
    unfold slices_Index_int
    refine Eq.trans (evF_succ (c := slices_Index_int_c) (N := 19) (regs := slices_Index_int_an) rfl Go.Proofs.Try.func53 rfl (by decide) rfl rfl rfl) ?_
    refine Eq.trans (k_region0 rfl (slices_Index_int_r0 k a0 a1)) ?_
    refine Eq.trans k_assoc ?_
    refine Eq.trans (k_region0 rfl (slices_Index_int_r1 k a0 a1)) ?_
    refine Eq.trans k_block ?_
    refine Eq.trans k_loop ?_
    refine slices_Index_int_L1_ok k a0 a1 _ _ ?h_slices_Index_int_L1_0 ?hr_slices_Index_int_L1 k 0
    · intro y6
      refine Eq.trans blk_exit ?_
      refine Eq.trans (k_region0 rfl (slices_Index_int_r7 k a0 a1 y6)) ?_
      refine Eq.trans k_lret ?_
      rfl
    · intro s; exact rfl
def dbd_areTypes_fin : Bool → V × List V := fun r => ((V.bool r), [])
theorem dbd_areTypes_r0 (k : Nat) (a0 : (List T_api_Type)) : regionE prog (evF prog anns ext k) dbd_areTypes_a0 dbd_areTypes_o0 false ⟨[(0, (V.sl 0 8 (List.map enc_T_api_Type a0)))], [], 82⟩ = some ⟨[(0, (V.sl 0 8 (List.map enc_T_api_Type a0)))], [], 82⟩ := by
  refine Eq.trans regionE_reg ?_
  exact reg_end rfl
theorem dbd_areTypes_r1 (k : Nat) (a0 : (List T_api_Type)) : regionE prog (evF prog anns ext k) dbd_areTypes_a1 dbd_areTypes_o1 false ⟨[(0, (V.sl 0 8 (List.map enc_T_api_Type a0)))], [], 82⟩ = ((bif (decide ((a0.length : Int) < 1)) then (some (true)) else (some ((decide ((a0.length : Int) > 8)))))).map (fun (o : Bool) => (⟨[(0, (V.sl 0 8 (List.map enc_T_api_Type a0))), (14, (V.bool o))], [], 82⟩ : St)) := by
  refine Eq.trans regionE_reg ?_
  refine Eq.trans (reg_adv (m := 1) (j := 1) (st' := ⟨[(0, (V.sl 0 8 (List.map enc_T_api_Type a0))), (7, (V.sl 0 8 (List.map enc_T_api_Type a0)))], [], 82⟩) rfl rfl rfl) ?_
  refine Eq.trans (reg_pure (x := some ()) (w := fun _ => (V.int .i64 (a0.length : Int))) rfl rfl rfl rfl (p_len (e := enc_T_api_Type) rfl rfl rfl rfl rfl rfl Go.Proofs.Try.underlying22)) ?_
  refine Eq.trans some_bind ?_
  refine Eq.trans (bind_adv (m := 2) (j := 4) (st' := ⟨[(0, (V.sl 0 8 (List.map enc_T_api_Type a0))), (7, (V.sl 0 8 (List.map enc_T_api_Type a0))), (8, (V.int .i64 (a0.length : Int))), (9, (V.bool (decide ((a0.length : Int) < 1)))), (10, (V.bool (decide ((a0.length : Int) < 1))))], [], 82⟩) rfl rfl rfl) ?_
  refine bifE (c := (decide ((a0.length : Int) < 1))) (fun hc => ?_) (fun hc => ?_)
  · rw [hc]
    exact reg_end rfl
  · rw [hc]
    refine Eq.trans (reg_adv (m := 1) (j := 5) (st' := ⟨[(0, (V.sl 0 8 (List.map enc_T_api_Type a0))), (7, (V.sl 0 8 (List.map enc_T_api_Type a0))), (8, (V.int .i64 (a0.length : Int))), (9, (V.bool false)), (10, (V.bool false)), (11, (V.sl 0 8 (List.map enc_T_api_Type a0)))], [], 82⟩) rfl rfl rfl) ?_
    refine Eq.trans (reg_pure (x := some ()) (w := fun _ => (V.int .i64 (a0.length : Int))) rfl rfl rfl rfl (p_len (e := enc_T_api_Type) rfl rfl rfl rfl rfl rfl Go.Proofs.Try.underlying22)) ?_
    refine Eq.trans some_bind ?_
    exact bind_end rfl
theorem dbd_areTypes_r2 (k : Nat) (a0 : (List T_api_Type)) : regionE prog (evF prog anns ext k) dbd_areTypes_a2 dbd_areTypes_o2 false ⟨[(0, (V.sl 0 8 (List.map enc_T_api_Type a0))), (14, (V.bool true))], [], 82⟩ = some ⟨[(2, (V.bool false))], [], 82⟩ := by
  refine Eq.trans regionE_reg ?_
  exact reg_end rfl
theorem dbd_areTypes_r3 (k : Nat) (a0 : (List T_api_Type)) : regionE prog (evF prog anns ext k) dbd_areTypes_a3 dbd_areTypes_o3 false ⟨[(0, (V.sl 0 8 (List.map enc_T_api_Type a0))), (14, (V.bool false))], [], 82⟩ = some ⟨[(0, (V.sl 0 8 (List.map enc_T_api_Type a0))), (3, (V.aref 3 0 (List.map (V.int .i64) ([] : List Int)).length))], [(3, ⟨true, 1, List.map (V.int .i64) ([] : List Int)⟩)], 82⟩ := by
  refine Eq.trans regionE_reg ?_
  exact reg_end rfl
theorem dbd_areTypes_r4 (k : Nat) (a0 : (List T_api_Type)) : regionE prog (evF prog anns ext k) dbd_areTypes_a4 dbd_areTypes_o4 false ⟨[(0, (V.sl 0 8 (List.map enc_T_api_Type a0))), (3, (V.aref 3 0 (List.map (V.int .i64) ([] : List Int)).length))], [(3, ⟨true, 1, List.map (V.int .i64) ([] : List Int)⟩)], 82⟩ = some ⟨[(0, (V.sl 0 8 (List.map enc_T_api_Type a0))), (3, (V.aref 3 0 (List.map (V.int .i64) ([] : List Int)).length)), (15, (V.sl 0 8 (List.map enc_T_api_Type a0))), (16, (V.int .i64 (a0.length : Int))), (17, (V.int .i64 0))], [(3, ⟨true, 1, List.map (V.int .i64) ([] : List Int)⟩)], 82⟩ := by
  refine Eq.trans regionE_reg ?_
  refine Eq.trans (reg_adv (m := 1) (j := 1) (st' := ⟨[(0, (V.sl 0 8 (List.map enc_T_api_Type a0))), (3, (V.aref 3 0 (List.map (V.int .i64) ([] : List Int)).length)), (15, (V.sl 0 8 (List.map enc_T_api_Type a0)))], [(3, ⟨true, 1, List.map (V.int .i64) ([] : List Int)⟩)], 82⟩) rfl rfl rfl) ?_
  refine Eq.trans (reg_pure (x := some ()) (w := fun _ => (V.int .i64 (a0.length : Int))) rfl rfl rfl rfl (p_len (e := enc_T_api_Type) rfl rfl rfl rfl rfl rfl Go.Proofs.Try.underlying22)) ?_
  refine Eq.trans some_bind ?_
  exact bind_end rfl
theorem dbd_areTypes_r5 (k : Nat) (a0 : (List T_api_Type)) (x15 : Int) (x16 : (List Int)) : regionE prog (evF prog anns ext k) dbd_areTypes_a5 dbd_areTypes_o5 false ⟨[(0, (V.sl 0 8 (List.map enc_T_api_Type a0))), (3, (V.aref 3 0 (List.map (V.int .i64) x16).length)), (15, (V.sl 0 8 (List.map enc_T_api_Type a0))), (16, (V.int .i64 (a0.length : Int))), (17, (V.int .i64 x15))], [(3, ⟨true, 1, List.map (V.int .i64) x16⟩)], 82⟩ = some ⟨[(0, (V.sl 0 8 (List.map enc_T_api_Type a0))), (3, (V.aref 3 0 (List.map (V.int .i64) x16).length)), (15, (V.sl 0 8 (List.map enc_T_api_Type a0))), (16, (V.int .i64 (a0.length : Int))), (17, (V.int .i64 x15)), (18, (V.bool (decide (x15 < (a0.length : Int)))))], [(3, ⟨true, 1, List.map (V.int .i64) x16⟩)], 82⟩ := by
  refine Eq.trans regionE_reg ?_
  exact reg_end rfl
theorem dbd_areTypes_r6 (k : Nat) (a0 : (List T_api_Type)) (x15 : Int) (x16 : (List Int)) : regionE prog (evF prog anns ext k) dbd_areTypes_a6 dbd_areTypes_o6 false ⟨[(0, (V.sl 0 8 (List.map enc_T_api_Type a0))), (3, (V.aref 3 0 (List.map (V.int .i64) x16).length)), (15, (V.sl 0 8 (List.map enc_T_api_Type a0))), (16, (V.int .i64 (a0.length : Int))), (17, (V.int .i64 x15)), (18, (V.bool true))], [(3, ⟨true, 1, List.map (V.int .i64) x16⟩)], 82⟩ = (((idx a0 x15).bind fun v17 => (some (x15, v17)))).map (fun (o : Int × T_api_Type) => (⟨[(0, (V.sl 0 8 (List.map enc_T_api_Type a0))), (3, (V.aref 3 0 (List.map (V.int .i64) x16).length)), (4, (V.int .i64 o.1)), (5, (V.ptr 5 0 0)), (15, (V.sl 0 8 (List.map enc_T_api_Type a0))), (16, (V.int .i64 (a0.length : Int))), (17, (V.int .i64 x15))], [(3, ⟨true, 1, List.map (V.int .i64) x16⟩), (5, ⟨false, 8, [(enc_T_api_Type o.2)]⟩)], 82⟩ : St)) := by
  refine Eq.trans regionE_reg ?_
  refine Eq.trans (reg_adv (m := 1) (j := 1) (st' := ⟨[(0, (V.sl 0 8 (List.map enc_T_api_Type a0))), (3, (V.aref 3 0 (List.map (V.int .i64) x16).length)), (15, (V.sl 0 8 (List.map enc_T_api_Type a0))), (16, (V.int .i64 (a0.length : Int))), (17, (V.int .i64 x15)), (18, (V.bool true)), (19, (V.int .i64 x15))], [(3, ⟨true, 1, List.map (V.int .i64) x16⟩)], 82⟩) rfl rfl rfl) ?_
  refine Eq.trans (reg_pure (x := (idx a0 x15)) (w := fun v17 => (V.pro (enc_T_api_Type v17))) rfl rfl rfl rfl (p_index (e := enc_T_api_Type) rfl rfl rfl Go.Proofs.Try.underlying22 rfl (by decide))) ?_
  refine bindE (fun v17 => ?_)
  exact bind_end rfl
theorem dbd_areTypes_r7 (k : Nat) (a0 : (List T_api_Type)) (x15 : Int) (x16 : (List Int)) (o18 : Int × T_api_Type) : regionE prog (evF prog anns ext k) dbd_areTypes_a7 dbd_areTypes_o7 false ⟨[(0, (V.sl 0 8 (List.map enc_T_api_Type a0))), (3, (V.aref 3 0 (List.map (V.int .i64) x16).length)), (4, (V.int .i64 o18.1)), (5, (V.ptr 5 0 0)), (15, (V.sl 0 8 (List.map enc_T_api_Type a0))), (16, (V.int .i64 (a0.length : Int))), (17, (V.int .i64 x15))], [(3, ⟨true, 1, List.map (V.int .i64) x16⟩), (5, ⟨false, 8, [(enc_T_api_Type o18.2)]⟩)], 82⟩ = (((dbd_isType k o18.2).bind fun v19 => (bif (!v19) then (some (true)) else ((cut a0 0 o18.1).bind fun v20 => (slices_ContainsFunc_Type k v20 (fun j x0 => (dbd_areTypes_1 j x0 o18.2))))))).map (fun (o : Bool) => (⟨[(0, (V.sl 0 8 (List.map enc_T_api_Type a0))), (3, (V.aref 3 0 (List.map (V.int .i64) x16).length)), (4, (V.int .i64 o18.1)), (5, (V.ptr 5 0 0)), (15, (V.sl 0 8 (List.map enc_T_api_Type a0))), (16, (V.int .i64 (a0.length : Int))), (17, (V.int .i64 x15)), (31, (V.bool o))], [(3, ⟨true, 1, List.map (V.int .i64) x16⟩), (5, ⟨false, 8, [(enc_T_api_Type o18.2)]⟩)], 82⟩ : St)) := by
  refine Eq.trans regionE_reg ?_
  refine Eq.trans (reg_adv (m := 1) (j := 1) (st' := ⟨[(0, (V.sl 0 8 (List.map enc_T_api_Type a0))), (3, (V.aref 3 0 (List.map (V.int .i64) x16).length)), (4, (V.int .i64 o18.1)), (5, (V.ptr 5 0 0)), (15, (V.sl 0 8 (List.map enc_T_api_Type a0))), (16, (V.int .i64 (a0.length : Int))), (17, (V.int .i64 x15)), (22, (enc_T_api_Type o18.2))], [(3, ⟨true, 1, List.map (V.int .i64) x16⟩), (5, ⟨false, 8, [(enc_T_api_Type o18.2)]⟩)], 82⟩) rfl rfl rfl) ?_
  refine Eq.trans (reg_pure (x := (dbd_isType k o18.2)) (w := fun v19 => (V.bool v19)) rfl rfl rfl rfl (p_call rfl rfl rfl rfl rfl (dbd_isType_ok k o18.2) (.inl rfl))) ?_
  refine bindE (fun v19 => ?_)
  refine Eq.trans (bind_adv (m := 2) (j := 4) (st' := ⟨[(0, (V.sl 0 8 (List.map enc_T_api_Type a0))), (3, (V.aref 3 0 (List.map (V.int .i64) x16).length)), (4, (V.int .i64 o18.1)), (5, (V.ptr 5 0 0)), (15, (V.sl 0 8 (List.map enc_T_api_Type a0))), (16, (V.int .i64 (a0.length : Int))), (17, (V.int .i64 x15)), (22, (enc_T_api_Type o18.2)), (23, (V.bool v19)), (24, (V.bool (!v19))), (25, (V.bool (!v19)))], [(3, ⟨true, 1, List.map (V.int .i64) x16⟩), (5, ⟨false, 8, [(enc_T_api_Type o18.2)]⟩)], 82⟩) rfl rfl rfl) ?_
  refine bifE (c := (!v19)) (fun hc => ?_) (fun hc => ?_)
  · rw [hc]
    exact reg_end rfl
  · rw [hc]
    refine Eq.trans (reg_adv (m := 2) (j := 6) (st' := ⟨[(0, (V.sl 0 8 (List.map enc_T_api_Type a0))), (3, (V.aref 3 0 (List.map (V.int .i64) x16).length)), (4, (V.int .i64 o18.1)), (5, (V.ptr 5 0 0)), (15, (V.sl 0 8 (List.map enc_T_api_Type a0))), (16, (V.int .i64 (a0.length : Int))), (17, (V.int .i64 x15)), (22, (enc_T_api_Type o18.2)), (23, (V.bool v19)), (24, (V.bool false)), (25, (V.bool false)), (26, (V.sl 0 8 (List.map enc_T_api_Type a0))), (27, (V.int .i64 o18.1))], [(3, ⟨true, 1, List.map (V.int .i64) x16⟩), (5, ⟨false, 8, [(enc_T_api_Type o18.2)]⟩)], 82⟩) rfl rfl rfl) ?_
    refine Eq.trans (reg_pure (x := (cut a0 0 o18.1)) (w := fun v20 => (V.sl 0 8 (List.map enc_T_api_Type v20))) rfl rfl rfl rfl (p_slice (e := enc_T_api_Type) rfl rfl rfl rfl rfl rfl Go.Proofs.Try.underlying22 rfl (by decide))) ?_
    refine bindE (fun v20 => ?_)
    refine Eq.trans (bind_adv (m := 1) (j := 8) (st' := ⟨[(0, (V.sl 0 8 (List.map enc_T_api_Type a0))), (3, (V.aref 3 0 (List.map (V.int .i64) x16).length)), (4, (V.int .i64 o18.1)), (5, (V.ptr 5 0 0)), (15, (V.sl 0 8 (List.map enc_T_api_Type a0))), (16, (V.int .i64 (a0.length : Int))), (17, (V.int .i64 x15)), (22, (enc_T_api_Type o18.2)), (23, (V.bool v19)), (24, (V.bool false)), (25, (V.bool false)), (26, (V.sl 0 8 (List.map enc_T_api_Type a0))), (27, (V.int .i64 o18.1)), (28, (V.sl 0 8 (List.map enc_T_api_Type v20))), (29, (V.fn 70 [] [(V.ptr 5 0 0)]))], [(3, ⟨true, 1, List.map (V.int .i64) x16⟩), (5, ⟨false, 8, [(enc_T_api_Type o18.2)]⟩)], 82⟩) rfl rfl rfl) ?_
    refine Eq.trans (reg_pure (x := (slices_ContainsFunc_Type k v20 (fun j x0 => (dbd_areTypes_1 j x0 o18.2)))) (w := fun v21 => (V.bool v21)) rfl rfl rfl rfl (p_call rfl rfl rfl rfl rfl (slices_ContainsFunc_Type_ok k v20 (fun j x0 => (dbd_areTypes_1 j x0 o18.2)) 70 (enc_T_api_Type o18.2) (fun j x0 => (dbd_areTypes_1_ok j x0 o18.2))) (.inr (fun _ => rfl)))) ?_
    refine bind_self (fun v21 => ?_)
    exact bind_end rfl
theorem dbd_areTypes_r8 (k : Nat) (a0 : (List T_api_Type)) (x15 : Int) (x16 : (List Int)) (o18 : Int × T_api_Type) : regionE prog (evF prog anns ext k) dbd_areTypes_a8 dbd_areTypes_o8 false ⟨[(0, (V.sl 0 8 (List.map enc_T_api_Type a0))), (3, (V.aref 3 0 (List.map (V.int .i64) x16).length)), (4, (V.int .i64 o18.1)), (5, (V.ptr 5 0 0)), (15, (V.sl 0 8 (List.map enc_T_api_Type a0))), (16, (V.int .i64 (a0.length : Int))), (17, (V.int .i64 x15)), (31, (V.bool true))], [(3, ⟨true, 1, List.map (V.int .i64) x16⟩), (5, ⟨false, 8, [(enc_T_api_Type o18.2)]⟩)], 82⟩ = some ⟨[(2, (V.bool false))], [], 82⟩ := by
  refine Eq.trans regionE_reg ?_
  exact reg_end rfl
theorem dbd_areTypes_r9 (k : Nat) (a0 : (List T_api_Type)) (x15 : Int) (x16 : (List Int)) (o18 : Int × T_api_Type) : regionE prog (evF prog anns ext k) dbd_areTypes_a9 dbd_areTypes_o9 false ⟨[(0, (V.sl 0 8 (List.map enc_T_api_Type a0))), (3, (V.aref 3 0 (List.map (V.int .i64) x16).length)), (4, (V.int .i64 o18.1)), (5, (V.ptr 5 0 0)), (15, (V.sl 0 8 (List.map enc_T_api_Type a0))), (16, (V.int .i64 (a0.length : Int))), (17, (V.int .i64 x15)), (31, (V.bool false))], [(3, ⟨true, 1, List.map (V.int .i64) x16⟩), (5, ⟨false, 8, [(enc_T_api_Type o18.2)]⟩)], 82⟩ = ((slices_Index_int k x16 o18.2.fParent)).map (fun (o : Int) => (⟨[(0, (V.sl 0 8 (List.map enc_T_api_Type a0))), (3, (V.aref 3 0 (List.map (V.int .i64) x16).length)), (4, (V.int .i64 o18.1)), (5, (V.ptr 5 0 0)), (6, (V.int .i64 o)), (15, (V.sl 0 8 (List.map enc_T_api_Type a0))), (16, (V.int .i64 (a0.length : Int))), (17, (V.int .i64 x15))], [(3, ⟨true, 1, List.map (V.int .i64) x16⟩), (5, ⟨false, 8, [(enc_T_api_Type o18.2)]⟩)], 82⟩ : St)) := by
  refine Eq.trans regionE_reg ?_
  refine Eq.trans (reg_adv (m := 3) (j := 3) (st' := ⟨[(0, (V.sl 0 8 (List.map enc_T_api_Type a0))), (3, (V.aref 3 0 (List.map (V.int .i64) x16).length)), (4, (V.int .i64 o18.1)), (5, (V.ptr 5 0 0)), (15, (V.sl 0 8 (List.map enc_T_api_Type a0))), (16, (V.int .i64 (a0.length : Int))), (17, (V.int .i64 x15)), (31, (V.bool false)), (32, (V.aref 3 0 (List.map (V.int .i64) x16).length)), (33, (V.ptr 5 0 1)), (34, (V.int .i64 o18.2.fParent))], [(3, ⟨true, 1, List.map (V.int .i64) x16⟩), (5, ⟨false, 8, [(enc_T_api_Type o18.2)]⟩)], 82⟩) rfl rfl rfl) ?_
  refine Eq.trans (reg_pure (x := (slices_Index_int k x16 o18.2.fParent)) (w := fun v23 => (V.int .i64 v23)) rfl rfl rfl rfl (p_call rfl rfl rfl rfl (argsL (lendA (e := (V.int .i64)) rfl) (by intro s i q h; cases h) (argsL rfl (by intro s i q h; cases h) rfl)) (slices_Index_int_ok k x16 o18.2.fParent) (.inr (fun _ => rfl)))) ?_
  refine bind_self (fun v23 => ?_)
  exact bind_end rfl
theorem dbd_areTypes_r10 (k : Nat) (a0 : (List T_api_Type)) (x15 : Int) (x16 : (List Int)) (o18 : Int × T_api_Type) (o24 : Int) : regionE prog (evF prog anns ext k) dbd_areTypes_a10 dbd_areTypes_o10 false ⟨[(0, (V.sl 0 8 (List.map enc_T_api_Type a0))), (3, (V.aref 3 0 (List.map (V.int .i64) x16).length)), (4, (V.int .i64 o18.1)), (5, (V.ptr 5 0 0)), (6, (V.int .i64 o24)), (15, (V.sl 0 8 (List.map enc_T_api_Type a0))), (16, (V.int .i64 (a0.length : Int))), (17, (V.int .i64 x15))], [(3, ⟨true, 1, List.map (V.int .i64) x16⟩), (5, ⟨false, 8, [(enc_T_api_Type o18.2)]⟩)], 82⟩ = ((bif (o18.1 == 0) then (bif (o18.2.fParent != (-1)) then (some (true)) else (bif (decide (o18.2.fKey < 0)) then (some (true)) else (bif (!o18.2.fUnique) then (some (true)) else ((idx o18.2.fFields o18.2.fKey).bind fun v25 => (bif (decide (v25.fBytes > 24)) then (some (true)) else (bif (decide (o18.1 > 0)) then (some ((decide (o24 < 0)))) else (some (false)))))))) else (bif (decide (o18.1 > 0)) then (some ((decide (o24 < 0)))) else (some (false))))).map (fun (o : Bool) => (⟨[(0, (V.sl 0 8 (List.map enc_T_api_Type a0))), (3, (V.aref 3 0 (List.map (V.int .i64) x16).length)), (4, (V.int .i64 o18.1)), (6, (V.int .i64 o24)), (15, (V.sl 0 8 (List.map enc_T_api_Type a0))), (16, (V.int .i64 (a0.length : Int))), (17, (V.int .i64 x15)), (70, (V.bool o))], [(3, ⟨true, 1, List.map (V.int .i64) x16⟩)], 82⟩ : St)) := by
  refine Eq.trans regionE_reg ?_
  refine Eq.trans (reg_adv (m := 3) (j := 3) (st' := ⟨[(0, (V.sl 0 8 (List.map enc_T_api_Type a0))), (3, (V.aref 3 0 (List.map (V.int .i64) x16).length)), (4, (V.int .i64 o18.1)), (5, (V.ptr 5 0 0)), (6, (V.int .i64 o24)), (15, (V.sl 0 8 (List.map enc_T_api_Type a0))), (16, (V.int .i64 (a0.length : Int))), (17, (V.int .i64 x15)), (36, (V.int .i64 o18.1)), (37, (V.bool (o18.1 == 0))), (38, (V.bool (o18.1 == 0)))], [(3, ⟨true, 1, List.map (V.int .i64) x16⟩), (5, ⟨false, 8, [(enc_T_api_Type o18.2)]⟩)], 82⟩) rfl rfl rfl) ?_
  refine bifE (c := (o18.1 == 0)) (fun hc => ?_) (fun hc => ?_)
  · rw [hc]
    refine Eq.trans (reg_adv (m := 4) (j := 7) (st' := ⟨[(0, (V.sl 0 8 (List.map enc_T_api_Type a0))), (3, (V.aref 3 0 (List.map (V.int .i64) x16).length)), (4, (V.int .i64 o18.1)), (5, (V.ptr 5 0 0)), (6, (V.int .i64 o24)), (15, (V.sl 0 8 (List.map enc_T_api_Type a0))), (16, (V.int .i64 (a0.length : Int))), (17, (V.int .i64 x15)), (36, (V.int .i64 o18.1)), (37, (V.bool true)), (38, (V.bool true)), (39, (V.ptr 5 0 1)), (40, (V.int .i64 o18.2.fParent)), (41, (V.bool (o18.2.fParent != (-1)))), (42, (V.bool (o18.2.fParent != (-1))))], [(3, ⟨true, 1, List.map (V.int .i64) x16⟩), (5, ⟨false, 8, [(enc_T_api_Type o18.2)]⟩)], 82⟩) rfl rfl rfl) ?_
    refine bifE (c := (o18.2.fParent != (-1))) (fun hc => ?_) (fun hc => ?_)
    · rw [hc]
      exact reg_end rfl
    · rw [hc]
      refine Eq.trans (reg_adv (m := 5) (j := 12) (st' := ⟨[(0, (V.sl 0 8 (List.map enc_T_api_Type a0))), (3, (V.aref 3 0 (List.map (V.int .i64) x16).length)), (4, (V.int .i64 o18.1)), (5, (V.ptr 5 0 0)), (6, (V.int .i64 o24)), (15, (V.sl 0 8 (List.map enc_T_api_Type a0))), (16, (V.int .i64 (a0.length : Int))), (17, (V.int .i64 x15)), (36, (V.int .i64 o18.1)), (37, (V.bool true)), (38, (V.bool true)), (39, (V.ptr 5 0 1)), (40, (V.int .i64 o18.2.fParent)), (41, (V.bool false)), (42, (V.bool false)), (43, (V.ptr 5 0 5)), (44, (V.int .i64 o18.2.fKey)), (45, (V.bool (decide (o18.2.fKey < 0)))), (46, (V.bool (decide (o18.2.fKey < 0)))), (47, (V.bool (decide (o18.2.fKey < 0))))], [(3, ⟨true, 1, List.map (V.int .i64) x16⟩), (5, ⟨false, 8, [(enc_T_api_Type o18.2)]⟩)], 82⟩) rfl rfl rfl) ?_
      refine bifE (c := (decide (o18.2.fKey < 0))) (fun hc => ?_) (fun hc => ?_)
      · rw [hc]
        exact reg_end rfl
      · rw [hc]
        refine Eq.trans (reg_adv (m := 5) (j := 17) (st' := ⟨[(0, (V.sl 0 8 (List.map enc_T_api_Type a0))), (3, (V.aref 3 0 (List.map (V.int .i64) x16).length)), (4, (V.int .i64 o18.1)), (5, (V.ptr 5 0 0)), (6, (V.int .i64 o24)), (15, (V.sl 0 8 (List.map enc_T_api_Type a0))), (16, (V.int .i64 (a0.length : Int))), (17, (V.int .i64 x15)), (36, (V.int .i64 o18.1)), (37, (V.bool true)), (38, (V.bool true)), (39, (V.ptr 5 0 1)), (40, (V.int .i64 o18.2.fParent)), (41, (V.bool false)), (42, (V.bool false)), (43, (V.ptr 5 0 5)), (44, (V.int .i64 o18.2.fKey)), (45, (V.bool false)), (46, (V.bool false)), (47, (V.bool false)), (48, (V.ptr 5 0 6)), (49, (V.bool o18.2.fUnique)), (50, (V.bool (!o18.2.fUnique))), (51, (V.bool (!o18.2.fUnique))), (52, (V.bool (!o18.2.fUnique)))], [(3, ⟨true, 1, List.map (V.int .i64) x16⟩), (5, ⟨false, 8, [(enc_T_api_Type o18.2)]⟩)], 82⟩) rfl rfl rfl) ?_
        refine bifE (c := (!o18.2.fUnique)) (fun hc => ?_) (fun hc => ?_)
        · rw [hc]
          exact reg_end rfl
        · rw [hc]
          refine Eq.trans (reg_adv (m := 4) (j := 21) (st' := ⟨[(0, (V.sl 0 8 (List.map enc_T_api_Type a0))), (3, (V.aref 3 0 (List.map (V.int .i64) x16).length)), (4, (V.int .i64 o18.1)), (5, (V.ptr 5 0 0)), (6, (V.int .i64 o24)), (15, (V.sl 0 8 (List.map enc_T_api_Type a0))), (16, (V.int .i64 (a0.length : Int))), (17, (V.int .i64 x15)), (36, (V.int .i64 o18.1)), (37, (V.bool true)), (38, (V.bool true)), (39, (V.ptr 5 0 1)), (40, (V.int .i64 o18.2.fParent)), (41, (V.bool false)), (42, (V.bool false)), (43, (V.ptr 5 0 5)), (44, (V.int .i64 o18.2.fKey)), (45, (V.bool false)), (46, (V.bool false)), (47, (V.bool false)), (48, (V.ptr 5 0 6)), (49, (V.bool o18.2.fUnique)), (50, (V.bool false)), (51, (V.bool false)), (52, (V.bool false)), (53, (V.ptr 5 0 4)), (54, (V.sl 0 3 (List.map enc_T_api_Field o18.2.fFields))), (55, (V.ptr 5 0 5)), (56, (V.int .i64 o18.2.fKey))], [(3, ⟨true, 1, List.map (V.int .i64) x16⟩), (5, ⟨false, 8, [(enc_T_api_Type o18.2)]⟩)], 82⟩) rfl rfl rfl) ?_
          refine Eq.trans (reg_pure (x := (idx o18.2.fFields o18.2.fKey)) (w := fun v25 => (V.pro (enc_T_api_Field v25))) rfl rfl rfl rfl (p_index (e := enc_T_api_Field) rfl rfl rfl Go.Proofs.Try.underlying53 rfl (by decide))) ?_
          refine bindE (fun v25 => ?_)
          refine Eq.trans (bind_adv (m := 6) (j := 28) (st' := ⟨[(0, (V.sl 0 8 (List.map enc_T_api_Type a0))), (3, (V.aref 3 0 (List.map (V.int .i64) x16).length)), (4, (V.int .i64 o18.1)), (5, (V.ptr 5 0 0)), (6, (V.int .i64 o24)), (15, (V.sl 0 8 (List.map enc_T_api_Type a0))), (16, (V.int .i64 (a0.length : Int))), (17, (V.int .i64 x15)), (36, (V.int .i64 o18.1)), (37, (V.bool true)), (38, (V.bool true)), (39, (V.ptr 5 0 1)), (40, (V.int .i64 o18.2.fParent)), (41, (V.bool false)), (42, (V.bool false)), (43, (V.ptr 5 0 5)), (44, (V.int .i64 o18.2.fKey)), (45, (V.bool false)), (46, (V.bool false)), (47, (V.bool false)), (48, (V.ptr 5 0 6)), (49, (V.bool o18.2.fUnique)), (50, (V.bool false)), (51, (V.bool false)), (52, (V.bool false)), (53, (V.ptr 5 0 4)), (54, (V.sl 0 3 (List.map enc_T_api_Field o18.2.fFields))), (55, (V.ptr 5 0 5)), (56, (V.int .i64 o18.2.fKey)), (57, (V.pro (enc_T_api_Field v25))), (58, (V.pro (V.int .i64 v25.fBytes))), (59, (V.int .i64 v25.fBytes)), (60, (V.bool (decide (v25.fBytes > 24)))), (61, (V.bool (decide (v25.fBytes > 24)))), (62, (V.bool (decide (v25.fBytes > 24)))), (63, (V.bool (decide (v25.fBytes > 24))))], [(3, ⟨true, 1, List.map (V.int .i64) x16⟩), (5, ⟨false, 8, [(enc_T_api_Type o18.2)]⟩)], 82⟩) rfl rfl rfl) ?_
          refine bifE (c := (decide (v25.fBytes > 24))) (fun hc => ?_) (fun hc => ?_)
          · rw [hc]
            exact reg_end rfl
          · rw [hc]
            refine Eq.trans (reg_adv (m := 3) (j := 31) (st' := ⟨[(0, (V.sl 0 8 (List.map enc_T_api_Type a0))), (3, (V.aref 3 0 (List.map (V.int .i64) x16).length)), (4, (V.int .i64 o18.1)), (5, (V.ptr 5 0 0)), (6, (V.int .i64 o24)), (15, (V.sl 0 8 (List.map enc_T_api_Type a0))), (16, (V.int .i64 (a0.length : Int))), (17, (V.int .i64 x15)), (36, (V.int .i64 o18.1)), (37, (V.bool true)), (38, (V.bool true)), (39, (V.ptr 5 0 1)), (40, (V.int .i64 o18.2.fParent)), (41, (V.bool false)), (42, (V.bool false)), (43, (V.ptr 5 0 5)), (44, (V.int .i64 o18.2.fKey)), (45, (V.bool false)), (46, (V.bool false)), (47, (V.bool false)), (48, (V.ptr 5 0 6)), (49, (V.bool o18.2.fUnique)), (50, (V.bool false)), (51, (V.bool false)), (52, (V.bool false)), (53, (V.ptr 5 0 4)), (54, (V.sl 0 3 (List.map enc_T_api_Field o18.2.fFields))), (55, (V.ptr 5 0 5)), (56, (V.int .i64 o18.2.fKey)), (57, (V.pro (enc_T_api_Field v25))), (58, (V.pro (V.int .i64 v25.fBytes))), (59, (V.int .i64 v25.fBytes)), (60, (V.bool false)), (61, (V.bool false)), (62, (V.bool false)), (63, (V.bool false)), (64, (V.int .i64 o18.1)), (65, (V.bool (decide (o18.1 > 0)))), (66, (V.bool (decide (o18.1 > 0))))], [(3, ⟨true, 1, List.map (V.int .i64) x16⟩), (5, ⟨false, 8, [(enc_T_api_Type o18.2)]⟩)], 82⟩) rfl rfl rfl) ?_
            refine bifE (c := (decide (o18.1 > 0))) (fun hc => ?_) (fun hc => ?_)
            · rw [hc]
              exact reg_end rfl
            · rw [hc]
              exact reg_end rfl
  · rw [hc]
    refine Eq.trans (reg_adv (m := 28) (j := 31) (st' := ⟨[(0, (V.sl 0 8 (List.map enc_T_api_Type a0))), (3, (V.aref 3 0 (List.map (V.int .i64) x16).length)), (4, (V.int .i64 o18.1)), (5, (V.ptr 5 0 0)), (6, (V.int .i64 o24)), (15, (V.sl 0 8 (List.map enc_T_api_Type a0))), (16, (V.int .i64 (a0.length : Int))), (17, (V.int .i64 x15)), (36, (V.int .i64 o18.1)), (37, (V.bool false)), (38, (V.bool false)), (39, (V.tup [])), (40, (V.tup [])), (41, (V.tup [])), (42, (V.tup [])), (43, (V.tup [])), (44, (V.tup [])), (45, (V.tup [])), (46, (V.tup [])), (47, (V.tup [])), (48, (V.tup [])), (49, (V.tup [])), (50, (V.tup [])), (51, (V.tup [])), (52, (V.tup [])), (53, (V.tup [])), (54, (V.tup [])), (55, (V.tup [])), (56, (V.tup [])), (57, (V.tup [])), (58, (V.tup [])), (59, (V.tup [])), (60, (V.tup [])), (61, (V.tup [])), (62, (V.bool false)), (63, (V.bool false)), (64, (V.int .i64 o18.1)), (65, (V.bool (decide (o18.1 > 0)))), (66, (V.bool (decide (o18.1 > 0))))], [(3, ⟨true, 1, List.map (V.int .i64) x16⟩), (5, ⟨false, 8, [(enc_T_api_Type o18.2)]⟩)], 82⟩) rfl rfl rfl) ?_
    refine bifE (c := (decide (o18.1 > 0))) (fun hc => ?_) (fun hc => ?_)
    · rw [hc]
      exact reg_end rfl
    · rw [hc]
      exact reg_end rfl
theorem dbd_areTypes_r11 (k : Nat) (a0 : (List T_api_Type)) (x15 : Int) (x16 : (List Int)) (o18 : Int × T_api_Type) (o24 : Int) : regionE prog (evF prog anns ext k) dbd_areTypes_a11 dbd_areTypes_o11 false ⟨[(0, (V.sl 0 8 (List.map enc_T_api_Type a0))), (3, (V.aref 3 0 (List.map (V.int .i64) x16).length)), (4, (V.int .i64 o18.1)), (6, (V.int .i64 o24)), (15, (V.sl 0 8 (List.map enc_T_api_Type a0))), (16, (V.int .i64 (a0.length : Int))), (17, (V.int .i64 x15)), (70, (V.bool true))], [(3, ⟨true, 1, List.map (V.int .i64) x16⟩)], 82⟩ = some ⟨[(2, (V.bool false))], [], 82⟩ := by
  refine Eq.trans regionE_reg ?_
  exact reg_end rfl
theorem dbd_areTypes_r12 (k : Nat) (a0 : (List T_api_Type)) (x15 : Int) (x16 : (List Int)) (o18 : Int × T_api_Type) (o24 : Int) : regionE prog (evF prog anns ext k) dbd_areTypes_a12 dbd_areTypes_o12 false ⟨[(0, (V.sl 0 8 (List.map enc_T_api_Type a0))), (3, (V.aref 3 0 (List.map (V.int .i64) x16).length)), (4, (V.int .i64 o18.1)), (6, (V.int .i64 o24)), (15, (V.sl 0 8 (List.map enc_T_api_Type a0))), (16, (V.int .i64 (a0.length : Int))), (17, (V.int .i64 x15)), (70, (V.bool false))], [(3, ⟨true, 1, List.map (V.int .i64) x16⟩)], 82⟩ = (((upTo x16 (Go.IntKind.wrap .i64 (o24 + 1))).bind fun v27 => (app (List.take v27 x16) ([o18.1] : List Int)))).map (fun (o : (List Int)) => (⟨[(0, (V.sl 0 8 (List.map enc_T_api_Type a0))), (3, (V.aref 3 0 (List.map (V.int .i64) o).length)), (15, (V.sl 0 8 (List.map enc_T_api_Type a0))), (16, (V.int .i64 (a0.length : Int))), (17, (V.int .i64 x15))], [(3, ⟨true, 1, List.map (V.int .i64) o⟩)], 82⟩ : St)) := by
  refine Eq.trans regionE_reg ?_
  refine Eq.trans (reg_adv (m := 3) (j := 3) (st' := ⟨[(0, (V.sl 0 8 (List.map enc_T_api_Type a0))), (3, (V.aref 3 0 (List.map (V.int .i64) x16).length)), (4, (V.int .i64 o18.1)), (6, (V.int .i64 o24)), (15, (V.sl 0 8 (List.map enc_T_api_Type a0))), (16, (V.int .i64 (a0.length : Int))), (17, (V.int .i64 x15)), (70, (V.bool false)), (71, (V.aref 3 0 (List.map (V.int .i64) x16).length)), (72, (V.int .i64 o24)), (73, (V.int .i64 (Go.IntKind.wrap .i64 (o24 + 1))))], [(3, ⟨true, 1, List.map (V.int .i64) x16⟩)], 82⟩) rfl rfl rfl) ?_
  refine Eq.trans (reg_pure (x := (upTo x16 (Go.IntKind.wrap .i64 (o24 + 1)))) (w := fun v27 => (V.aref 3 0 v27)) rfl rfl rfl rfl (p_sliceA (e := (V.int .i64)) rfl rfl rfl Go.Proofs.Try.underlying28 (by decide))) ?_
  refine bindX (fun v27 hv27 => ?_)
  refine Eq.trans (bind_adv (m := 2) (j := 6) (st' := ⟨[(0, (V.sl 0 8 (List.map enc_T_api_Type a0))), (3, (V.aref 3 0 (List.map (V.int .i64) x16).length)), (4, (V.int .i64 o18.1)), (6, (V.int .i64 o24)), (15, (V.sl 0 8 (List.map enc_T_api_Type a0))), (16, (V.int .i64 (a0.length : Int))), (17, (V.int .i64 x15)), (70, (V.bool false)), (71, (V.aref 3 0 (List.map (V.int .i64) x16).length)), (72, (V.int .i64 o24)), (73, (V.int .i64 (Go.IntKind.wrap .i64 (o24 + 1)))), (74, (V.aref 3 0 v27)), (75, (V.int .i64 o18.1)), (76, (V.sl 0 1 (List.map (V.int .i64) ([o18.1] : List Int))))], [(3, ⟨true, 1, List.map (V.int .i64) x16⟩)], 82⟩) rfl rfl rfl) ?_
  refine Eq.trans (reg_eff (x := (app (List.take v27 x16) ([o18.1] : List Int))) (w := fun v28 => ((V.aref 3 0 (List.map (V.int .i64) v28).length), _)) rfl rfl rfl rfl (p_appA (e := (V.int .i64)) (l := x16) rfl rfl rfl rfl rfl rfl rfl rfl rfl rfl rfl (upTo_le hv27) (of_decide_eq_true rfl))) ?_
  refine bind_self (fun v28 => ?_)
  exact bind_end rfl
theorem dbd_areTypes_r13 (k : Nat) (a0 : (List T_api_Type)) (x15 : Int) (o29 : (List Int)) : regionE prog (evF prog anns ext k) dbd_areTypes_a13 dbd_areTypes_o13 false ⟨[(0, (V.sl 0 8 (List.map enc_T_api_Type a0))), (3, (V.aref 3 0 (List.map (V.int .i64) o29).length)), (15, (V.sl 0 8 (List.map enc_T_api_Type a0))), (16, (V.int .i64 (a0.length : Int))), (17, (V.int .i64 x15))], [(3, ⟨true, 1, List.map (V.int .i64) o29⟩)], 82⟩ = some ⟨[(0, (V.sl 0 8 (List.map enc_T_api_Type a0))), (3, (V.aref 3 0 (List.map (V.int .i64) o29).length)), (15, (V.sl 0 8 (List.map enc_T_api_Type a0))), (16, (V.int .i64 (a0.length : Int))), (17, (V.int .i64 x15)), (80, (V.bool (decide ((o29.length : Int) > 5))))], [(3, ⟨true, 1, List.map (V.int .i64) o29⟩)], 82⟩ := by
  refine Eq.trans regionE_reg ?_
  refine Eq.trans (reg_adv (m := 1) (j := 1) (st' := ⟨[(0, (V.sl 0 8 (List.map enc_T_api_Type a0))), (3, (V.aref 3 0 (List.map (V.int .i64) o29).length)), (15, (V.sl 0 8 (List.map enc_T_api_Type a0))), (16, (V.int .i64 (a0.length : Int))), (17, (V.int .i64 x15)), (78, (V.aref 3 0 (List.map (V.int .i64) o29).length))], [(3, ⟨true, 1, List.map (V.int .i64) o29⟩)], 82⟩) rfl rfl rfl) ?_
  refine Eq.trans (reg_pure (x := some ()) (w := fun _ => (V.int .i64 (o29.length : Int))) rfl rfl rfl rfl (p_lenA (e := (V.int .i64)) rfl rfl rfl rfl rfl rfl Go.Proofs.Try.underlying28)) ?_
  refine Eq.trans some_bind ?_
  exact bind_end rfl
theorem dbd_areTypes_r14 (k : Nat) (a0 : (List T_api_Type)) (x15 : Int) (o29 : (List Int)) : regionE prog (evF prog anns ext k) dbd_areTypes_a14 dbd_areTypes_o14 false ⟨[(0, (V.sl 0 8 (List.map enc_T_api_Type a0))), (3, (V.aref 3 0 (List.map (V.int .i64) o29).length)), (15, (V.sl 0 8 (List.map enc_T_api_Type a0))), (16, (V.int .i64 (a0.length : Int))), (17, (V.int .i64 x15)), (80, (V.bool true))], [(3, ⟨true, 1, List.map (V.int .i64) o29⟩)], 82⟩ = some ⟨[(2, (V.bool false))], [], 82⟩ := by
  refine Eq.trans regionE_reg ?_
  exact reg_end rfl
theorem dbd_areTypes_r15 (k : Nat) (a0 : (List T_api_Type)) (x15 : Int) (o29 : (List Int)) : regionE prog (evF prog anns ext k) dbd_areTypes_a15 dbd_areTypes_o15 false ⟨[(0, (V.sl 0 8 (List.map enc_T_api_Type a0))), (3, (V.aref 3 0 (List.map (V.int .i64) o29).length)), (15, (V.sl 0 8 (List.map enc_T_api_Type a0))), (16, (V.int .i64 (a0.length : Int))), (17, (V.int .i64 x15)), (80, (V.bool false))], [(3, ⟨true, 1, List.map (V.int .i64) o29⟩)], 82⟩ = some ⟨[(0, (V.sl 0 8 (List.map enc_T_api_Type a0))), (3, (V.aref 3 0 (List.map (V.int .i64) o29).length)), (15, (V.sl 0 8 (List.map enc_T_api_Type a0))), (16, (V.int .i64 (a0.length : Int))), (17, (V.int .i64 (Go.IntKind.wrap .i64 (x15 + 1))))], [(3, ⟨true, 1, List.map (V.int .i64) o29⟩)], 82⟩ := by
  refine Eq.trans regionE_reg ?_
  exact reg_end rfl
theorem dbd_areTypes_L1_ok (k : Nat) (a0 : (List T_api_Type))  (K0 : Int → (List Int) → Option Bool) (Kst : X × St → Option (V × List V)) (hK0 : ∀ (y0 : Int) (y1 : (List Int)), Kst (X.exit 0, ⟨[(0, (V.sl 0 8 (List.map enc_T_api_Type a0))), (3, (V.aref 3 0 (List.map (V.int .i64) y1).length)), (15, (V.sl 0 8 (List.map enc_T_api_Type a0))), (16, (V.int .i64 (a0.length : Int))), (17, (V.int .i64 y0)), (18, (V.bool false))], [(3, ⟨true, 1, List.map (V.int .i64) y1⟩)], 82⟩) = (K0 y0 y1).map dbd_areTypes_fin) (hret : ∀ s, Kst (X.ret, s) = endK prog 82 [(V.sl 0 8 (List.map enc_T_api_Type a0))] [] [.tmp 2] (X.ret, s)) :
    ∀ (m : Nat) (x15 : Int) (x16 : (List Int)), (iter (exec prog (evF prog anns ext k) dbd_areTypes_an k dbd_areTypes_b0) m ⟨[(0, (V.sl 0 8 (List.map enc_T_api_Type a0))), (3, (V.aref 3 0 (List.map (V.int .i64) x16).length)), (15, (V.sl 0 8 (List.map enc_T_api_Type a0))), (16, (V.int .i64 (a0.length : Int))), (17, (V.int .i64 x15))], [(3, ⟨true, 1, List.map (V.int .i64) x16⟩)], 82⟩).bind Kst = (dbd_areTypes_L1 k a0 K0 m x15 x16).map dbd_areTypes_fin := by
  intro m
  induction m with
  | zero => intros; rfl
  | succ m ih =>
    intro x15 x16
    unfold dbd_areTypes_L1
    refine Eq.trans k_round ?_
    refine Eq.trans (k_region0 rfl (dbd_areTypes_r5 k a0 x15 x16)) ?_
    refine Eq.trans (k_cond (t := (decide (x15 < (a0.length : Int)))) rfl) ?_
    refine bifE2 (fun hc => ?_) (fun hc => ?_)
    · rw [hc]
      refine Eq.trans k_skip ?_
      refine Eq.trans k_block ?_
      refine Eq.trans (k_region rfl (dbd_areTypes_r6 k a0 x15 x16)) ?_
      refine bindE (fun o18 => ?_)
      refine Eq.trans k_assoc ?_
      refine Eq.trans (k_region rfl (dbd_areTypes_r7 k a0 x15 x16 o18)) ?_
      refine bindE (fun o22 => ?_)
      refine Eq.trans (k_cond (t := o22) rfl) ?_
      refine bifE2 (fun hc => ?_) (fun hc => ?_)
      · rw [hc]
        refine Eq.trans k_assoc ?_
        refine Eq.trans (k_region0 rfl (dbd_areTypes_r8 k a0 x15 x16 o18)) ?_
        refine Eq.trans k_ret ?_
        refine Eq.trans blk_ret ?_
        refine Eq.trans loop_ret ?_
        refine Eq.trans (hret _) ?_
        rfl
      · rw [hc]
        refine Eq.trans k_skip ?_
        refine Eq.trans (k_region rfl (dbd_areTypes_r9 k a0 x15 x16 o18)) ?_
        refine bindE (fun o24 => ?_)
        refine Eq.trans k_assoc ?_
        refine Eq.trans (k_region rfl (dbd_areTypes_r10 k a0 x15 x16 o18 o24)) ?_
        refine bindE (fun o26 => ?_)
        refine Eq.trans (k_cond (t := o26) rfl) ?_
        refine bifE2 (fun hc => ?_) (fun hc => ?_)
        · rw [hc]
          refine Eq.trans k_assoc ?_
          refine Eq.trans (k_region0 rfl (dbd_areTypes_r11 k a0 x15 x16 o18 o24)) ?_
          refine Eq.trans k_ret ?_
          refine Eq.trans blk_ret ?_
          refine Eq.trans loop_ret ?_
          refine Eq.trans (hret _) ?_
          rfl
        · rw [hc]
          refine Eq.trans k_skip ?_
          refine Eq.trans (k_region rfl (dbd_areTypes_r12 k a0 x15 x16 o18 o24)) ?_
          refine bindE (fun o29 => ?_)
          refine Eq.trans (k_region0 rfl (dbd_areTypes_r13 k a0 x15 o29)) ?_
          refine Eq.trans (k_lcond (t := (decide ((o29.length : Int) > 5))) rfl) ?_
          refine bifE2 (fun hc => ?_) (fun hc => ?_)
          · rw [hc]
            refine Eq.trans (k_region0 rfl (dbd_areTypes_r14 k a0 x15 o29)) ?_
            refine Eq.trans k_lret ?_
            refine Eq.trans blk_ret ?_
            refine Eq.trans loop_ret ?_
            refine Eq.trans (hret _) ?_
            rfl
          · rw [hc]
            refine Eq.trans k_lskip ?_
            refine Eq.trans blk_normal ?_
            refine Eq.trans (k_lregion0 rfl (dbd_areTypes_r15 k a0 x15 o29)) ?_
            refine Eq.trans loop_normal ?_
            exact ih (Go.IntKind.wrap .i64 (x15 + 1)) o29
    · rw [hc]
      refine Eq.trans k_exit ?_
      refine Eq.trans loop_exit ?_
      exact hK0 x15 x16
theorem dbd_areTypes_r16 (k : Nat) (a0 : (List T_api_Type)) (y30 : Int) (y31 : (List Int)) : regionE prog (evF prog anns ext k) dbd_areTypes_a16 dbd_areTypes_o16 false ⟨[(0, (V.sl 0 8 (List.map enc_T_api_Type a0))), (3, (V.aref 3 0 (List.map (V.int .i64) y31).length)), (15, (V.sl 0 8 (List.map enc_T_api_Type a0))), (16, (V.int .i64 (a0.length : Int))), (17, (V.int .i64 y30)), (18, (V.bool false))], [(3, ⟨true, 1, List.map (V.int .i64) y31⟩)], 82⟩ = some ⟨[(2, (V.bool true))], [], 82⟩ := by
  refine Eq.trans regionE_reg ?_
  exact reg_end rfl
theorem dbd_areTypes_ok (k : Nat) (a0 : (List T_api_Type)) : evF prog anns ext k 57 [(V.sl 0 8 (List.map enc_T_api_Type a0))] = (dbd_areTypes k a0).map dbd_areTypes_fin := by
  cases k with
  | zero => rfl
  | succ k =>
    unfold dbd_areTypes
    refine Eq.trans (evF_succ (c := dbd_areTypes_c) (N := 82) (regs := dbd_areTypes_an) rfl Go.Proofs.Try.func57 rfl (by decide) rfl rfl rfl) ?_
    refine Eq.trans (k_region0 rfl (dbd_areTypes_r0 k a0)) ?_
    refine Eq.trans k_assoc ?_
    refine Eq.trans (k_region rfl (dbd_areTypes_r1 k a0)) ?_
    refine bindE (fun o1 => ?_)
    refine Eq.trans (k_cond (t := o1) rfl) ?_
    refine bifE2 (fun hc => ?_) (fun hc => ?_)
    · rw [hc]
      refine Eq.trans k_assoc ?_
      refine Eq.trans (k_region0 rfl (dbd_areTypes_r2 k a0)) ?_
      refine Eq.trans k_ret ?_
      rfl
    · rw [hc]
      refine Eq.trans k_skip ?_
      refine Eq.trans (k_region0 rfl (dbd_areTypes_r3 k a0)) ?_
      refine Eq.trans k_assoc ?_
      refine Eq.trans (k_region0 rfl (dbd_areTypes_r4 k a0)) ?_
      refine Eq.trans k_block ?_
      refine Eq.trans k_loop ?_
      refine dbd_areTypes_L1_ok k a0 _ _ ?h_dbd_areTypes_L1_0 ?hr_dbd_areTypes_L1 k 0 ([] : List Int)
      · intro y30 y31
        refine Eq.trans blk_exit ?_
        refine Eq.trans (k_region0 rfl (dbd_areTypes_r16 k a0 y30 y31)) ?_
        refine Eq.trans k_lret ?_
        rfl
      · intro s; exact rfl
def slices_IndexFunc_Search_fin : Int → V × List V := fun r => ((V.int .i64 r), [])
theorem slices_IndexFunc_Search_r0 (k : Nat) (a0 : (List T_api_Search)) (a1 : Nat → T_api_Search → Option Bool) (a1_fid : Go.FuncId) (a1_c0 : V) (a1_hok : ∀ j x0, evF prog anns ext j a1_fid [(enc_T_api_Search x0), V.pro a1_c0] = (a1 j x0).map fun b => ((V.bool b), [])) : regionE prog (evF prog anns ext k) slices_IndexFunc_Search_a0 slices_IndexFunc_Search_o0 false ⟨[(0, (V.sl 0 4 (List.map enc_T_api_Search a0))), (1, (V.fn a1_fid [] [V.pro a1_c0]))], [], 19⟩ = some ⟨[(0, (V.sl 0 4 (List.map enc_T_api_Search a0))), (1, (V.fn a1_fid [] [V.pro a1_c0]))], [], 19⟩ := by
  refine Eq.trans regionE_reg ?_
  exact reg_end rfl
theorem slices_IndexFunc_Search_r1 (k : Nat) (a0 : (List T_api_Search)) (a1 : Nat → T_api_Search → Option Bool) (a1_fid : Go.FuncId) (a1_c0 : V) (a1_hok : ∀ j x0, evF prog anns ext j a1_fid [(enc_T_api_Search x0), V.pro a1_c0] = (a1 j x0).map fun b => ((V.bool b), [])) : regionE prog (evF prog anns ext k) slices_IndexFunc_Search_a1 slices_IndexFunc_Search_o1 false ⟨[(0, (V.sl 0 4 (List.map enc_T_api_Search a0))), (1, (V.fn a1_fid [] [V.pro a1_c0]))], [], 19⟩ = some ⟨[(0, (V.sl 0 4 (List.map enc_T_api_Search a0))), (1, (V.fn a1_fid [] [V.pro a1_c0])), (7, (V.int .i64 (a0.length : Int))), (8, (V.int .i64 0))], [], 19⟩ := by
  refine Eq.trans regionE_reg ?_
  refine Eq.trans (reg_adv (m := 1) (j := 1) (st' := ⟨[(0, (V.sl 0 4 (List.map enc_T_api_Search a0))), (1, (V.fn a1_fid [] [V.pro a1_c0])), (6, (V.sl 0 4 (List.map enc_T_api_Search a0)))], [], 19⟩) rfl rfl rfl) ?_
  refine Eq.trans (reg_pure (x := some ()) (w := fun _ => (V.int .i64 (a0.length : Int))) rfl rfl rfl rfl (p_len (e := enc_T_api_Search) rfl rfl rfl rfl rfl rfl Go.Proofs.Try.underlying23)) ?_
  refine Eq.trans some_bind ?_
  exact bind_end rfl
theorem slices_IndexFunc_Search_r2 (k : Nat) (a0 : (List T_api_Search)) (x4 : Int) (a1 : Nat → T_api_Search → Option Bool) (a1_fid : Go.FuncId) (a1_c0 : V) (a1_hok : ∀ j x0, evF prog anns ext j a1_fid [(enc_T_api_Search x0), V.pro a1_c0] = (a1 j x0).map fun b => ((V.bool b), [])) : regionE prog (evF prog anns ext k) slices_IndexFunc_Search_a2 slices_IndexFunc_Search_o2 false ⟨[(0, (V.sl 0 4 (List.map enc_T_api_Search a0))), (1, (V.fn a1_fid [] [V.pro a1_c0])), (7, (V.int .i64 (a0.length : Int))), (8, (V.int .i64 x4))], [], 19⟩ = some ⟨[(0, (V.sl 0 4 (List.map enc_T_api_Search a0))), (1, (V.fn a1_fid [] [V.pro a1_c0])), (7, (V.int .i64 (a0.length : Int))), (8, (V.int .i64 x4)), (9, (V.bool (decide (x4 < (a0.length : Int)))))], [], 19⟩ := by
  refine Eq.trans regionE_reg ?_
  exact reg_end rfl
theorem slices_IndexFunc_Search_r3 (k : Nat) (a0 : (List T_api_Search)) (x4 : Int) (a1 : Nat → T_api_Search → Option Bool) (a1_fid : Go.FuncId) (a1_c0 : V) (a1_hok : ∀ j x0, evF prog anns ext j a1_fid [(enc_T_api_Search x0), V.pro a1_c0] = (a1 j x0).map fun b => ((V.bool b), [])) : regionE prog (evF prog anns ext k) slices_IndexFunc_Search_a3 slices_IndexFunc_Search_o3 false ⟨[(0, (V.sl 0 4 (List.map enc_T_api_Search a0))), (1, (V.fn a1_fid [] [V.pro a1_c0])), (7, (V.int .i64 (a0.length : Int))), (8, (V.int .i64 x4)), (9, (V.bool true))], [], 19⟩ = some ⟨[(0, (V.sl 0 4 (List.map enc_T_api_Search a0))), (1, (V.fn a1_fid [] [V.pro a1_c0])), (5, (V.int .i64 x4)), (7, (V.int .i64 (a0.length : Int))), (8, (V.int .i64 x4))], [], 19⟩ := by
  refine Eq.trans regionE_reg ?_
  exact reg_end rfl
theorem slices_IndexFunc_Search_r4 (k : Nat) (a0 : (List T_api_Search)) (x4 : Int) (a1 : Nat → T_api_Search → Option Bool) (a1_fid : Go.FuncId) (a1_c0 : V) (a1_hok : ∀ j x0, evF prog anns ext j a1_fid [(enc_T_api_Search x0), V.pro a1_c0] = (a1 j x0).map fun b => ((V.bool b), [])) : regionE prog (evF prog anns ext k) slices_IndexFunc_Search_a4 slices_IndexFunc_Search_o4 false ⟨[(0, (V.sl 0 4 (List.map enc_T_api_Search a0))), (1, (V.fn a1_fid [] [V.pro a1_c0])), (5, (V.int .i64 x4)), (7, (V.int .i64 (a0.length : Int))), (8, (V.int .i64 x4))], [], 19⟩ = (((idx a0 x4).bind fun v5 => (a1 k v5))).map (fun (o : Bool) => (⟨[(0, (V.sl 0 4 (List.map enc_T_api_Search a0))), (1, (V.fn a1_fid [] [V.pro a1_c0])), (5, (V.int .i64 x4)), (7, (V.int .i64 (a0.length : Int))), (8, (V.int .i64 x4)), (16, (V.bool o))], [], 19⟩ : St)) := by
  refine Eq.trans regionE_reg ?_
  refine Eq.trans (reg_adv (m := 3) (j := 3) (st' := ⟨[(0, (V.sl 0 4 (List.map enc_T_api_Search a0))), (1, (V.fn a1_fid [] [V.pro a1_c0])), (5, (V.int .i64 x4)), (7, (V.int .i64 (a0.length : Int))), (8, (V.int .i64 x4)), (11, (V.fn a1_fid [] [V.pro a1_c0])), (12, (V.sl 0 4 (List.map enc_T_api_Search a0))), (13, (V.int .i64 x4))], [], 19⟩) rfl rfl rfl) ?_
  refine Eq.trans (reg_pure (x := (idx a0 x4)) (w := fun v5 => (V.pro (enc_T_api_Search v5))) rfl rfl rfl rfl (p_index (e := enc_T_api_Search) rfl rfl rfl Go.Proofs.Try.underlying23 rfl (by decide))) ?_
  refine bindE (fun v5 => ?_)
  refine Eq.trans (bind_adv (m := 1) (j := 5) (st' := ⟨[(0, (V.sl 0 4 (List.map enc_T_api_Search a0))), (1, (V.fn a1_fid [] [V.pro a1_c0])), (5, (V.int .i64 x4)), (7, (V.int .i64 (a0.length : Int))), (8, (V.int .i64 x4)), (11, (V.fn a1_fid [] [V.pro a1_c0])), (12, (V.sl 0 4 (List.map enc_T_api_Search a0))), (13, (V.int .i64 x4)), (14, (V.pro (enc_T_api_Search v5))), (15, (enc_T_api_Search v5))], [], 19⟩) rfl rfl rfl) ?_
  refine Eq.trans (reg_pure (x := (a1 k v5)) (w := fun v6 => (V.bool v6)) rfl rfl rfl rfl (p_call rfl rfl rfl rfl rfl (a1_hok k v5) (.inl rfl))) ?_
  refine bind_self (fun v6 => ?_)
  exact bind_end rfl
theorem slices_IndexFunc_Search_r5 (k : Nat) (a0 : (List T_api_Search)) (x4 : Int) (a1 : Nat → T_api_Search → Option Bool) (a1_fid : Go.FuncId) (a1_c0 : V) (a1_hok : ∀ j x0, evF prog anns ext j a1_fid [(enc_T_api_Search x0), V.pro a1_c0] = (a1 j x0).map fun b => ((V.bool b), [])) : regionE prog (evF prog anns ext k) slices_IndexFunc_Search_a5 slices_IndexFunc_Search_o5 false ⟨[(0, (V.sl 0 4 (List.map enc_T_api_Search a0))), (1, (V.fn a1_fid [] [V.pro a1_c0])), (5, (V.int .i64 x4)), (7, (V.int .i64 (a0.length : Int))), (8, (V.int .i64 x4)), (16, (V.bool true))], [], 19⟩ = some ⟨[(4, (V.int .i64 x4))], [], 19⟩ := by
  refine Eq.trans regionE_reg ?_
  exact reg_end rfl
theorem slices_IndexFunc_Search_r6 (k : Nat) (a0 : (List T_api_Search)) (x4 : Int) (a1 : Nat → T_api_Search → Option Bool) (a1_fid : Go.FuncId) (a1_c0 : V) (a1_hok : ∀ j x0, evF prog anns ext j a1_fid [(enc_T_api_Search x0), V.pro a1_c0] = (a1 j x0).map fun b => ((V.bool b), [])) : regionE prog (evF prog anns ext k) slices_IndexFunc_Search_a6 slices_IndexFunc_Search_o6 false ⟨[(0, (V.sl 0 4 (List.map enc_T_api_Search a0))), (1, (V.fn a1_fid [] [V.pro a1_c0])), (5, (V.int .i64 x4)), (7, (V.int .i64 (a0.length : Int))), (8, (V.int .i64 x4)), (16, (V.bool false))], [], 19⟩ = some ⟨[(0, (V.sl 0 4 (List.map enc_T_api_Search a0))), (1, (V.fn a1_fid [] [V.pro a1_c0])), (7, (V.int .i64 (a0.length : Int))), (8, (V.int .i64 (Go.IntKind.wrap .i64 (x4 + 1))))], [], 19⟩ := by
  refine Eq.trans regionE_reg ?_
  exact reg_end rfl
theorem slices_IndexFunc_Search_L1_ok (k : Nat) (a0 : (List T_api_Search)) (a1 : Nat → T_api_Search → Option Bool) (a1_fid : Go.FuncId) (a1_c0 : V) (a1_hok : ∀ j x0, evF prog anns ext j a1_fid [(enc_T_api_Search x0), V.pro a1_c0] = (a1 j x0).map fun b => ((V.bool b), [])) (K0 : Int → Option Int) (Kst : X × St → Option (V × List V)) (hK0 : ∀ (y0 : Int), Kst (X.exit 0, ⟨[(0, (V.sl 0 4 (List.map enc_T_api_Search a0))), (1, (V.fn a1_fid [] [V.pro a1_c0])), (7, (V.int .i64 (a0.length : Int))), (8, (V.int .i64 y0)), (9, (V.bool false))], [], 19⟩) = (K0 y0).map slices_IndexFunc_Search_fin) (hret : ∀ s, Kst (X.ret, s) = endK prog 19 [(V.sl 0 4 (List.map enc_T_api_Search a0)), (V.fn a1_fid [] [V.pro a1_c0])] [] [.tmp 4] (X.ret, s)) :
    ∀ (m : Nat) (x4 : Int), (iter (exec prog (evF prog anns ext k) slices_IndexFunc_Search_an k slices_IndexFunc_Search_b0) m ⟨[(0, (V.sl 0 4 (List.map enc_T_api_Search a0))), (1, (V.fn a1_fid [] [V.pro a1_c0])), (7, (V.int .i64 (a0.length : Int))), (8, (V.int .i64 x4))], [], 19⟩).bind Kst = (slices_IndexFunc_Search_L1 k a0 a1 K0 m x4).map slices_IndexFunc_Search_fin := by
  intro m
  induction m with
  | zero => intros; rfl
  | succ m ih =>
    intro x4
    unfold slices_IndexFunc_Search_L1
    refine Eq.trans k_round ?_
    refine Eq.trans (k_region0 rfl (slices_IndexFunc_Search_r2 k a0 x4 a1 a1_fid a1_c0 a1_hok)) ?_
    refine Eq.trans (k_cond (t := (decide (x4 < (a0.length : Int)))) rfl) ?_
    refine bifE2 (fun hc => ?_) (fun hc => ?_)
    · rw [hc]
      refine Eq.trans k_skip ?_
      refine Eq.trans k_block ?_
      refine Eq.trans (k_region0 rfl (slices_IndexFunc_Search_r3 k a0 x4 a1 a1_fid a1_c0 a1_hok)) ?_
      refine Eq.trans (k_region rfl (slices_IndexFunc_Search_r4 k a0 x4 a1 a1_fid a1_c0 a1_hok)) ?_
      refine bindE (fun o7 => ?_)
      refine Eq.trans (k_lcond (t := o7) rfl) ?_
      refine bifE2 (fun hc => ?_) (fun hc => ?_)
      · rw [hc]
        refine Eq.trans (k_region0 rfl (slices_IndexFunc_Search_r5 k a0 x4 a1 a1_fid a1_c0 a1_hok)) ?_
        refine Eq.trans k_lret ?_
        refine Eq.trans blk_ret ?_
        refine Eq.trans loop_ret ?_
        refine Eq.trans (hret _) ?_
        rfl
      · rw [hc]
        refine Eq.trans k_lskip ?_
        refine Eq.trans blk_normal ?_
        refine Eq.trans (k_lregion0 rfl (slices_IndexFunc_Search_r6 k a0 x4 a1 a1_fid a1_c0 a1_hok)) ?_
        refine Eq.trans loop_normal ?_
        exact ih (Go.IntKind.wrap .i64 (x4 + 1))
    · rw [hc]
      refine Eq.trans k_exit ?_
      refine Eq.trans loop_exit ?_
      exact hK0 x4
theorem slices_IndexFunc_Search_r7 (k : Nat) (a0 : (List T_api_Search)) (y8 : Int) (a1 : Nat → T_api_Search → Option Bool) (a1_fid : Go.FuncId) (a1_c0 : V) (a1_hok : ∀ j x0, evF prog anns ext j a1_fid [(enc_T_api_Search x0), V.pro a1_c0] = (a1 j x0).map fun b => ((V.bool b), [])) : regionE prog (evF prog anns ext k) slices_IndexFunc_Search_a7 slices_IndexFunc_Search_o7 false ⟨[(0, (V.sl 0 4 (List.map enc_T_api_Search a0))), (1, (V.fn a1_fid [] [V.pro a1_c0])), (7, (V.int .i64 (a0.length : Int))), (8, (V.int .i64 y8)), (9, (V.bool false))], [], 19⟩ = some ⟨[(4, (V.int .i64 (-1)))], [], 19⟩ := by
  refine Eq.trans regionE_reg ?_
  exact reg_end rfl
theorem slices_IndexFunc_Search_ok (k : Nat) (a0 : (List T_api_Search)) (a1 : Nat → T_api_Search → Option Bool) (a1_fid : Go.FuncId) (a1_c0 : V) (a1_hok : ∀ j x0, evF prog anns ext j a1_fid [(enc_T_api_Search x0), V.pro a1_c0] = (a1 j x0).map fun b => ((V.bool b), [])) : evF prog anns ext k 75 [(V.sl 0 4 (List.map enc_T_api_Search a0)), (V.fn a1_fid [] [V.pro a1_c0])] = (slices_IndexFunc_Search k a0 a1).map slices_IndexFunc_Search_fin := by
  cases k with
  | zero => rfl
  | succ k =>
    unfold slices_IndexFunc_Search
    refine Eq.trans (evF_succ (c := slices_IndexFunc_Search_c) (N := 19) (regs := slices_IndexFunc_Search_an) rfl Go.Proofs.Try.func75 rfl (by decide) rfl rfl rfl) ?_
    refine Eq.trans (k_region0 rfl (slices_IndexFunc_Search_r0 k a0 a1 a1_fid a1_c0 a1_hok)) ?_
    refine Eq.trans k_assoc ?_
    refine Eq.trans (k_region0 rfl (slices_IndexFunc_Search_r1 k a0 a1 a1_fid a1_c0 a1_hok)) ?_
    refine Eq.trans k_block ?_
    refine Eq.trans k_loop ?_
    refine slices_IndexFunc_Search_L1_ok k a0 a1 a1_fid a1_c0 a1_hok _ _ ?h_slices_IndexFunc_Search_L1_0 ?hr_slices_IndexFunc_Search_L1 k 0
    · intro y8
      refine Eq.trans blk_exit ?_
      refine Eq.trans (k_region0 rfl (slices_IndexFunc_Search_r7 k a0 y8 a1 a1_fid a1_c0 a1_hok)) ?_
      refine Eq.trans k_lret ?_
      rfl
    · intro s; exact rfl
def slices_ContainsFunc_Search_fin : Bool → V × List V := fun r => ((V.bool r), [])
theorem slices_ContainsFunc_Search_r0 (k : Nat) (a0 : (List T_api_Search)) (a1 : Nat → T_api_Search → Option Bool) (a1_fid : Go.FuncId) (a1_c0 : V) (a1_hok : ∀ j x0, evF prog anns ext j a1_fid [(enc_T_api_Search x0), V.pro a1_c0] = (a1 j x0).map fun b => ((V.bool b), [])) : regionE prog (evF prog anns ext k) slices_ContainsFunc_Search_a0 slices_ContainsFunc_Search_o0 false ⟨[(0, (V.sl 0 4 (List.map enc_T_api_Search a0))), (1, (V.fn a1_fid [] [V.pro a1_c0]))], [], 9⟩ = some ⟨[(0, (V.sl 0 4 (List.map enc_T_api_Search a0))), (1, (V.fn a1_fid [] [V.pro a1_c0]))], [], 9⟩ := by
  refine Eq.trans regionE_reg ?_
  exact reg_end rfl
theorem slices_ContainsFunc_Search_r1 (k : Nat) (a0 : (List T_api_Search)) (a1 : Nat → T_api_Search → Option Bool) (a1_fid : Go.FuncId) (a1_c0 : V) (a1_hok : ∀ j x0, evF prog anns ext j a1_fid [(enc_T_api_Search x0), V.pro a1_c0] = (a1 j x0).map fun b => ((V.bool b), [])) : regionE prog (evF prog anns ext k) slices_ContainsFunc_Search_a1 slices_ContainsFunc_Search_o1 false ⟨[(0, (V.sl 0 4 (List.map enc_T_api_Search a0))), (1, (V.fn a1_fid [] [V.pro a1_c0]))], [], 9⟩ = (((slices_IndexFunc_Search k a0 a1).bind fun v1 => (some ((decide (v1 ≥ 0)))))).map (fun (o : Bool) => (⟨[(4, (V.bool o))], [], 9⟩ : St)) := by
  refine Eq.trans regionE_reg ?_
  refine Eq.trans (reg_adv (m := 2) (j := 2) (st' := ⟨[(0, (V.sl 0 4 (List.map enc_T_api_Search a0))), (1, (V.fn a1_fid [] [V.pro a1_c0])), (5, (V.sl 0 4 (List.map enc_T_api_Search a0))), (6, (V.fn a1_fid [] [V.pro a1_c0]))], [], 9⟩) rfl rfl rfl) ?_
  refine Eq.trans (reg_pure (x := (slices_IndexFunc_Search k a0 a1)) (w := fun v1 => (V.int .i64 v1)) rfl rfl rfl rfl (p_call rfl rfl rfl rfl rfl (slices_IndexFunc_Search_ok k a0 a1 a1_fid a1_c0 a1_hok) (.inl rfl))) ?_
  refine bindE (fun v1 => ?_)
  exact bind_end rfl
theorem slices_ContainsFunc_Search_ok (k : Nat) (a0 : (List T_api_Search)) (a1 : Nat → T_api_Search → Option Bool) (a1_fid : Go.FuncId) (a1_c0 : V) (a1_hok : ∀ j x0, evF prog anns ext j a1_fid [(enc_T_api_Search x0), V.pro a1_c0] = (a1 j x0).map fun b => ((V.bool b), [])) : evF prog anns ext k 71 [(V.sl 0 4 (List.map enc_T_api_Search a0)), (V.fn a1_fid [] [V.pro a1_c0])] = (slices_ContainsFunc_Search k a0 a1).map slices_ContainsFunc_Search_fin := by
  cases k with
  | zero => rfl
  | succ k =>
    unfold slices_ContainsFunc_Search
    refine Eq.trans (evF_succ (c := slices_ContainsFunc_Search_c) (N := 9) (regs := slices_ContainsFunc_Search_an) rfl Go.Proofs.Try.func71 rfl (by decide) rfl rfl rfl) ?_
    refine Eq.trans (k_region0 rfl (slices_ContainsFunc_Search_r0 k a0 a1 a1_fid a1_c0 a1_hok)) ?_
    refine Eq.trans (k_region rfl (slices_ContainsFunc_Search_r1 k a0 a1 a1_fid a1_c0 a1_hok)) ?_
    refine bindE (fun o2 => ?_)
    refine Eq.trans k_lret ?_
    rfl
def dbd_areIndexes_1_fin : Bool → V × List V := fun r => ((V.bool r), [])
theorem dbd_areIndexes_1_r0 (k : Nat) (a0 : T_api_Search) (a1 : T_api_Search) : regionE prog (evF prog anns ext k) dbd_areIndexes_1_a0 dbd_areIndexes_1_o0 false ⟨[(0, (enc_T_api_Search a0)), (1, (V.pro (enc_T_api_Search a1)))], [], 9⟩ = some ⟨[(1, (V.pro (enc_T_api_Search a1))), (2, (V.ptr 2 0 0))], [(2, ⟨false, 4, [(enc_T_api_Search a0)]⟩)], 9⟩ := by
  refine Eq.trans regionE_reg ?_
  exact reg_end rfl
theorem dbd_areIndexes_1_r1 (k : Nat) (a0 : T_api_Search) (a1 : T_api_Search) : regionE prog (evF prog anns ext k) dbd_areIndexes_1_a1 dbd_areIndexes_1_o1 false ⟨[(1, (V.pro (enc_T_api_Search a1))), (2, (V.ptr 2 0 0))], [(2, ⟨false, 4, [(enc_T_api_Search a0)]⟩)], 9⟩ = some ⟨[(3, (V.bool (a0.fName == a1.fName)))], [], 9⟩ := by
  refine Eq.trans regionE_reg ?_
  exact reg_end rfl
theorem dbd_areIndexes_1_ok (k : Nat) (a0 : T_api_Search) (a1 : T_api_Search) : evF prog anns ext k 72 [(enc_T_api_Search a0), (V.pro (enc_T_api_Search a1))] = (dbd_areIndexes_1 k a0 a1).map dbd_areIndexes_1_fin := by
  cases k with
  | zero => rfl
  | succ k =>
    unfold dbd_areIndexes_1
    refine Eq.trans (evF_succ (c := dbd_areIndexes_1_c) (N := 9) (regs := dbd_areIndexes_1_an) rfl Go.Proofs.Try.func72 rfl (by decide) rfl rfl rfl) ?_
    refine Eq.trans (k_region0 rfl (dbd_areIndexes_1_r0 k a0 a1)) ?_
    refine Eq.trans (k_region0 rfl (dbd_areIndexes_1_r1 k a0 a1)) ?_
    refine Eq.trans k_lret ?_
    rfl
def dbd_areIndexes_fin : Bool → V × List V := fun r => ((V.bool r), [])
theorem dbd_areIndexes_r0 (k : Nat) (a0 : (List T_api_Search)) (a1 : (List T_api_Type)) : regionE prog (evF prog anns ext k) dbd_areIndexes_a0 dbd_areIndexes_o0 false ⟨[(0, (V.sl 0 4 (List.map enc_T_api_Search a0))), (1, (V.sl 0 8 (List.map enc_T_api_Type a1)))], [], 73⟩ = some ⟨[(0, (V.sl 0 4 (List.map enc_T_api_Search a0))), (1, (V.sl 0 8 (List.map enc_T_api_Type a1)))], [], 73⟩ := by
  refine Eq.trans regionE_reg ?_
  exact reg_end rfl
theorem dbd_areIndexes_r1 (k : Nat) (a0 : (List T_api_Search)) (a1 : (List T_api_Type)) : regionE prog (evF prog anns ext k) dbd_areIndexes_a1 dbd_areIndexes_o1 false ⟨[(0, (V.sl 0 4 (List.map enc_T_api_Search a0))), (1, (V.sl 0 8 (List.map enc_T_api_Type a1)))], [], 73⟩ = some ⟨[(0, (V.sl 0 4 (List.map enc_T_api_Search a0))), (1, (V.sl 0 8 (List.map enc_T_api_Type a1))), (8, (V.sl 0 4 (List.map enc_T_api_Search a0))), (9, (V.int .i64 (a0.length : Int))), (10, (V.int .i64 0))], [], 73⟩ := by
  refine Eq.trans regionE_reg ?_
  refine Eq.trans (reg_adv (m := 1) (j := 1) (st' := ⟨[(0, (V.sl 0 4 (List.map enc_T_api_Search a0))), (1, (V.sl 0 8 (List.map enc_T_api_Type a1))), (8, (V.sl 0 4 (List.map enc_T_api_Search a0)))], [], 73⟩) rfl rfl rfl) ?_
  refine Eq.trans (reg_pure (x := some ()) (w := fun _ => (V.int .i64 (a0.length : Int))) rfl rfl rfl rfl (p_len (e := enc_T_api_Search) rfl rfl rfl rfl rfl rfl Go.Proofs.Try.underlying23)) ?_
  refine Eq.trans some_bind ?_
  exact bind_end rfl
theorem dbd_areIndexes_r2 (k : Nat) (a0 : (List T_api_Search)) (a1 : (List T_api_Type)) (x11 : Int) : regionE prog (evF prog anns ext k) dbd_areIndexes_a2 dbd_areIndexes_o2 false ⟨[(0, (V.sl 0 4 (List.map enc_T_api_Search a0))), (1, (V.sl 0 8 (List.map enc_T_api_Type a1))), (8, (V.sl 0 4 (List.map enc_T_api_Search a0))), (9, (V.int .i64 (a0.length : Int))), (10, (V.int .i64 x11))], [], 73⟩ = some ⟨[(0, (V.sl 0 4 (List.map enc_T_api_Search a0))), (1, (V.sl 0 8 (List.map enc_T_api_Type a1))), (8, (V.sl 0 4 (List.map enc_T_api_Search a0))), (9, (V.int .i64 (a0.length : Int))), (10, (V.int .i64 x11)), (11, (V.bool (decide (x11 < (a0.length : Int)))))], [], 73⟩ := by
  refine Eq.trans regionE_reg ?_
  exact reg_end rfl
theorem dbd_areIndexes_r3 (k : Nat) (a0 : (List T_api_Search)) (a1 : (List T_api_Type)) (x11 : Int) : regionE prog (evF prog anns ext k) dbd_areIndexes_a3 dbd_areIndexes_o3 false ⟨[(0, (V.sl 0 4 (List.map enc_T_api_Search a0))), (1, (V.sl 0 8 (List.map enc_T_api_Type a1))), (8, (V.sl 0 4 (List.map enc_T_api_Search a0))), (9, (V.int .i64 (a0.length : Int))), (10, (V.int .i64 x11)), (11, (V.bool true))], [], 73⟩ = (((idx a0 x11).bind fun v12 => (some (x11, v12)))).map (fun (o : Int × T_api_Search) => (⟨[(0, (V.sl 0 4 (List.map enc_T_api_Search a0))), (1, (V.sl 0 8 (List.map enc_T_api_Type a1))), (5, (V.int .i64 o.1)), (6, (V.ptr 6 0 0)), (8, (V.sl 0 4 (List.map enc_T_api_Search a0))), (9, (V.int .i64 (a0.length : Int))), (10, (V.int .i64 x11))], [(6, ⟨false, 4, [(enc_T_api_Search o.2)]⟩)], 73⟩ : St)) := by
  refine Eq.trans regionE_reg ?_
  refine Eq.trans (reg_adv (m := 1) (j := 1) (st' := ⟨[(0, (V.sl 0 4 (List.map enc_T_api_Search a0))), (1, (V.sl 0 8 (List.map enc_T_api_Type a1))), (8, (V.sl 0 4 (List.map enc_T_api_Search a0))), (9, (V.int .i64 (a0.length : Int))), (10, (V.int .i64 x11)), (11, (V.bool true)), (12, (V.int .i64 x11))], [], 73⟩) rfl rfl rfl) ?_
  refine Eq.trans (reg_pure (x := (idx a0 x11)) (w := fun v12 => (V.pro (enc_T_api_Search v12))) rfl rfl rfl rfl (p_index (e := enc_T_api_Search) rfl rfl rfl Go.Proofs.Try.underlying23 rfl (by decide))) ?_
  refine bindE (fun v12 => ?_)
  exact bind_end rfl
theorem dbd_areIndexes_r4 (k : Nat) (a0 : (List T_api_Search)) (a1 : (List T_api_Type)) (x11 : Int) (o13 : Int × T_api_Search) : regionE prog (evF prog anns ext k) dbd_areIndexes_a4 dbd_areIndexes_o4 false ⟨[(0, (V.sl 0 4 (List.map enc_T_api_Search a0))), (1, (V.sl 0 8 (List.map enc_T_api_Type a1))), (5, (V.int .i64 o13.1)), (6, (V.ptr 6 0 0)), (8, (V.sl 0 4 (List.map enc_T_api_Search a0))), (9, (V.int .i64 (a0.length : Int))), (10, (V.int .i64 x11))], [(6, ⟨false, 4, [(enc_T_api_Search o13.2)]⟩)], 73⟩ = (((dbd_IsName k o13.2.fName).bind fun v14 => (bif (!v14) then (some (true)) else (bif (decide (o13.2.fType < 0)) then (some (true)) else (bif (decide (o13.2.fType ≥ (a1.length : Int))) then (some (true)) else (bif (decide ((o13.2.fSparse.length : Int) > 1)) then (some (true)) else ((cut a0 0 o13.1).bind fun v15 => (slices_ContainsFunc_Search k v15 (fun j x0 => (dbd_areIndexes_1 j x0 o13.2)))))))))).map (fun (o : Bool) => (⟨[(0, (V.sl 0 4 (List.map enc_T_api_Search a0))), (1, (V.sl 0 8 (List.map enc_T_api_Type a1))), (6, (V.ptr 6 0 0)), (8, (V.sl 0 4 (List.map enc_T_api_Search a0))), (9, (V.int .i64 (a0.length : Int))), (10, (V.int .i64 x11)), (43, (V.bool o))], [(6, ⟨false, 4, [(enc_T_api_Search o13.2)]⟩)], 73⟩ : St)) := by
  refine Eq.trans regionE_reg ?_
  refine Eq.trans (reg_adv (m := 2) (j := 2) (st' := ⟨[(0, (V.sl 0 4 (List.map enc_T_api_Search a0))), (1, (V.sl 0 8 (List.map enc_T_api_Type a1))), (5, (V.int .i64 o13.1)), (6, (V.ptr 6 0 0)), (8, (V.sl 0 4 (List.map enc_T_api_Search a0))), (9, (V.int .i64 (a0.length : Int))), (10, (V.int .i64 x11)), (15, (V.ptr 6 0 0)), (16, (V.str o13.2.fName))], [(6, ⟨false, 4, [(enc_T_api_Search o13.2)]⟩)], 73⟩) rfl rfl rfl) ?_
  refine Eq.trans (reg_pure (x := (dbd_IsName k o13.2.fName)) (w := fun v14 => (V.bool v14)) rfl rfl rfl rfl (p_call rfl rfl rfl rfl rfl (dbd_IsName_ok k o13.2.fName) (.inl rfl))) ?_
  refine bindE (fun v14 => ?_)
  refine Eq.trans (bind_adv (m := 2) (j := 5) (st' := ⟨[(0, (V.sl 0 4 (List.map enc_T_api_Search a0))), (1, (V.sl 0 8 (List.map enc_T_api_Type a1))), (5, (V.int .i64 o13.1)), (6, (V.ptr 6 0 0)), (8, (V.sl 0 4 (List.map enc_T_api_Search a0))), (9, (V.int .i64 (a0.length : Int))), (10, (V.int .i64 x11)), (15, (V.ptr 6 0 0)), (16, (V.str o13.2.fName)), (17, (V.bool v14)), (18, (V.bool (!v14))), (19, (V.bool (!v14)))], [(6, ⟨false, 4, [(enc_T_api_Search o13.2)]⟩)], 73⟩) rfl rfl rfl) ?_
  refine bifE (c := (!v14)) (fun hc => ?_) (fun hc => ?_)
  · rw [hc]
    exact reg_end rfl
  · rw [hc]
    refine Eq.trans (reg_adv (m := 5) (j := 10) (st' := ⟨[(0, (V.sl 0 4 (List.map enc_T_api_Search a0))), (1, (V.sl 0 8 (List.map enc_T_api_Type a1))), (5, (V.int .i64 o13.1)), (6, (V.ptr 6 0 0)), (8, (V.sl 0 4 (List.map enc_T_api_Search a0))), (9, (V.int .i64 (a0.length : Int))), (10, (V.int .i64 x11)), (15, (V.ptr 6 0 0)), (16, (V.str o13.2.fName)), (17, (V.bool v14)), (18, (V.bool false)), (19, (V.bool false)), (20, (V.ptr 6 0 1)), (21, (V.int .i64 o13.2.fType)), (22, (V.bool (decide (o13.2.fType < 0)))), (23, (V.bool (decide (o13.2.fType < 0)))), (24, (V.bool (decide (o13.2.fType < 0))))], [(6, ⟨false, 4, [(enc_T_api_Search o13.2)]⟩)], 73⟩) rfl rfl rfl) ?_
    refine bifE (c := (decide (o13.2.fType < 0))) (fun hc => ?_) (fun hc => ?_)
    · rw [hc]
      exact reg_end rfl
    · rw [hc]
      refine Eq.trans (reg_adv (m := 3) (j := 13) (st' := ⟨[(0, (V.sl 0 4 (List.map enc_T_api_Search a0))), (1, (V.sl 0 8 (List.map enc_T_api_Type a1))), (5, (V.int .i64 o13.1)), (6, (V.ptr 6 0 0)), (8, (V.sl 0 4 (List.map enc_T_api_Search a0))), (9, (V.int .i64 (a0.length : Int))), (10, (V.int .i64 x11)), (15, (V.ptr 6 0 0)), (16, (V.str o13.2.fName)), (17, (V.bool v14)), (18, (V.bool false)), (19, (V.bool false)), (20, (V.ptr 6 0 1)), (21, (V.int .i64 o13.2.fType)), (22, (V.bool false)), (23, (V.bool false)), (24, (V.bool false)), (25, (V.ptr 6 0 1)), (26, (V.int .i64 o13.2.fType)), (27, (V.sl 0 8 (List.map enc_T_api_Type a1)))], [(6, ⟨false, 4, [(enc_T_api_Search o13.2)]⟩)], 73⟩) rfl rfl rfl) ?_
      refine Eq.trans (reg_pure (x := some ()) (w := fun _ => (V.int .i64 (a1.length : Int))) rfl rfl rfl rfl (p_len (e := enc_T_api_Type) rfl rfl rfl rfl rfl rfl Go.Proofs.Try.underlying22)) ?_
      refine Eq.trans some_bind ?_
      refine Eq.trans (bind_adv (m := 3) (j := 17) (st' := ⟨[(0, (V.sl 0 4 (List.map enc_T_api_Search a0))), (1, (V.sl 0 8 (List.map enc_T_api_Type a1))), (5, (V.int .i64 o13.1)), (6, (V.ptr 6 0 0)), (8, (V.sl 0 4 (List.map enc_T_api_Search a0))), (9, (V.int .i64 (a0.length : Int))), (10, (V.int .i64 x11)), (15, (V.ptr 6 0 0)), (16, (V.str o13.2.fName)), (17, (V.bool v14)), (18, (V.bool false)), (19, (V.bool false)), (20, (V.ptr 6 0 1)), (21, (V.int .i64 o13.2.fType)), (22, (V.bool false)), (23, (V.bool false)), (24, (V.bool false)), (25, (V.ptr 6 0 1)), (26, (V.int .i64 o13.2.fType)), (27, (V.sl 0 8 (List.map enc_T_api_Type a1))), (28, (V.int .i64 (a1.length : Int))), (29, (V.bool (decide (o13.2.fType ≥ (a1.length : Int))))), (30, (V.bool (decide (o13.2.fType ≥ (a1.length : Int))))), (31, (V.bool (decide (o13.2.fType ≥ (a1.length : Int)))))], [(6, ⟨false, 4, [(enc_T_api_Search o13.2)]⟩)], 73⟩) rfl rfl rfl) ?_
      refine bifE (c := (decide (o13.2.fType ≥ (a1.length : Int)))) (fun hc => ?_) (fun hc => ?_)
      · rw [hc]
        exact reg_end rfl
      · rw [hc]
        refine Eq.trans (reg_adv (m := 6) (j := 23) (st' := ⟨[(0, (V.sl 0 4 (List.map enc_T_api_Search a0))), (1, (V.sl 0 8 (List.map enc_T_api_Type a1))), (5, (V.int .i64 o13.1)), (6, (V.ptr 6 0 0)), (8, (V.sl 0 4 (List.map enc_T_api_Search a0))), (9, (V.int .i64 (a0.length : Int))), (10, (V.int .i64 x11)), (15, (V.ptr 6 0 0)), (16, (V.str o13.2.fName)), (17, (V.bool v14)), (18, (V.bool false)), (19, (V.bool false)), (20, (V.ptr 6 0 1)), (21, (V.int .i64 o13.2.fType)), (22, (V.bool false)), (23, (V.bool false)), (24, (V.bool false)), (25, (V.ptr 6 0 1)), (26, (V.int .i64 o13.2.fType)), (27, (V.sl 0 8 (List.map enc_T_api_Type a1))), (28, (V.int .i64 (a1.length : Int))), (29, (V.bool false)), (30, (V.bool false)), (31, (V.bool false)), (32, (V.ptr 6 0 3)), (33, (V.str o13.2.fSparse)), (34, (V.int .i64 (o13.2.fSparse.length : Int))), (35, (V.bool (decide ((o13.2.fSparse.length : Int) > 1)))), (36, (V.bool (decide ((o13.2.fSparse.length : Int) > 1)))), (37, (V.bool (decide ((o13.2.fSparse.length : Int) > 1))))], [(6, ⟨false, 4, [(enc_T_api_Search o13.2)]⟩)], 73⟩) rfl rfl rfl) ?_
        refine bifE (c := (decide ((o13.2.fSparse.length : Int) > 1))) (fun hc => ?_) (fun hc => ?_)
        · rw [hc]
          exact reg_end rfl
        · rw [hc]
          refine Eq.trans (reg_adv (m := 2) (j := 25) (st' := ⟨[(0, (V.sl 0 4 (List.map enc_T_api_Search a0))), (1, (V.sl 0 8 (List.map enc_T_api_Type a1))), (5, (V.int .i64 o13.1)), (6, (V.ptr 6 0 0)), (8, (V.sl 0 4 (List.map enc_T_api_Search a0))), (9, (V.int .i64 (a0.length : Int))), (10, (V.int .i64 x11)), (15, (V.ptr 6 0 0)), (16, (V.str o13.2.fName)), (17, (V.bool v14)), (18, (V.bool false)), (19, (V.bool false)), (20, (V.ptr 6 0 1)), (21, (V.int .i64 o13.2.fType)), (22, (V.bool false)), (23, (V.bool false)), (24, (V.bool false)), (25, (V.ptr 6 0 1)), (26, (V.int .i64 o13.2.fType)), (27, (V.sl 0 8 (List.map enc_T_api_Type a1))), (28, (V.int .i64 (a1.length : Int))), (29, (V.bool false)), (30, (V.bool false)), (31, (V.bool false)), (32, (V.ptr 6 0 3)), (33, (V.str o13.2.fSparse)), (34, (V.int .i64 (o13.2.fSparse.length : Int))), (35, (V.bool false)), (36, (V.bool false)), (37, (V.bool false)), (38, (V.sl 0 4 (List.map enc_T_api_Search a0))), (39, (V.int .i64 o13.1))], [(6, ⟨false, 4, [(enc_T_api_Search o13.2)]⟩)], 73⟩) rfl rfl rfl) ?_
          refine Eq.trans (reg_pure (x := (cut a0 0 o13.1)) (w := fun v15 => (V.sl 0 4 (List.map enc_T_api_Search v15))) rfl rfl rfl rfl (p_slice (e := enc_T_api_Search) rfl rfl rfl rfl rfl rfl Go.Proofs.Try.underlying23 rfl (by decide))) ?_
          refine bindE (fun v15 => ?_)
          refine Eq.trans (bind_adv (m := 1) (j := 27) (st' := ⟨[(0, (V.sl 0 4 (List.map enc_T_api_Search a0))), (1, (V.sl 0 8 (List.map enc_T_api_Type a1))), (5, (V.int .i64 o13.1)), (6, (V.ptr 6 0 0)), (8, (V.sl 0 4 (List.map enc_T_api_Search a0))), (9, (V.int .i64 (a0.length : Int))), (10, (V.int .i64 x11)), (15, (V.ptr 6 0 0)), (16, (V.str o13.2.fName)), (17, (V.bool v14)), (18, (V.bool false)), (19, (V.bool false)), (20, (V.ptr 6 0 1)), (21, (V.int .i64 o13.2.fType)), (22, (V.bool false)), (23, (V.bool false)), (24, (V.bool false)), (25, (V.ptr 6 0 1)), (26, (V.int .i64 o13.2.fType)), (27, (V.sl 0 8 (List.map enc_T_api_Type a1))), (28, (V.int .i64 (a1.length : Int))), (29, (V.bool false)), (30, (V.bool false)), (31, (V.bool false)), (32, (V.ptr 6 0 3)), (33, (V.str o13.2.fSparse)), (34, (V.int .i64 (o13.2.fSparse.length : Int))), (35, (V.bool false)), (36, (V.bool false)), (37, (V.bool false)), (38, (V.sl 0 4 (List.map enc_T_api_Search a0))), (39, (V.int .i64 o13.1)), (40, (V.sl 0 4 (List.map enc_T_api_Search v15))), (41, (V.fn 72 [] [(V.ptr 6 0 0)]))], [(6, ⟨false, 4, [(enc_T_api_Search o13.2)]⟩)], 73⟩) rfl rfl rfl) ?_
          refine Eq.trans (reg_pure (x := (slices_ContainsFunc_Search k v15 (fun j x0 => (dbd_areIndexes_1 j x0 o13.2)))) (w := fun v16 => (V.bool v16)) rfl rfl rfl rfl (p_call rfl rfl rfl rfl rfl (slices_ContainsFunc_Search_ok k v15 (fun j x0 => (dbd_areIndexes_1 j x0 o13.2)) 72 (enc_T_api_Search o13.2) (fun j x0 => (dbd_areIndexes_1_ok j x0 o13.2))) (.inr (fun _ => rfl)))) ?_
          refine bind_self (fun v16 => ?_)
          exact bind_end rfl
theorem dbd_areIndexes_r5 (k : Nat) (a0 : (List T_api_Search)) (a1 : (List T_api_Type)) (x11 : Int) (o13 : Int × T_api_Search) : regionE prog (evF prog anns ext k) dbd_areIndexes_a5 dbd_areIndexes_o5 false ⟨[(0, (V.sl 0 4 (List.map enc_T_api_Search a0))), (1, (V.sl 0 8 (List.map enc_T_api_Type a1))), (6, (V.ptr 6 0 0)), (8, (V.sl 0 4 (List.map enc_T_api_Search a0))), (9, (V.int .i64 (a0.length : Int))), (10, (V.int .i64 x11)), (43, (V.bool true))], [(6, ⟨false, 4, [(enc_T_api_Search o13.2)]⟩)], 73⟩ = some ⟨[(4, (V.bool false))], [], 73⟩ := by
  refine Eq.trans regionE_reg ?_
  exact reg_end rfl
theorem dbd_areIndexes_r6 (k : Nat) (a0 : (List T_api_Search)) (a1 : (List T_api_Type)) (x11 : Int) (o13 : Int × T_api_Search) : regionE prog (evF prog anns ext k) dbd_areIndexes_a6 dbd_areIndexes_o6 false ⟨[(0, (V.sl 0 4 (List.map enc_T_api_Search a0))), (1, (V.sl 0 8 (List.map enc_T_api_Type a1))), (6, (V.ptr 6 0 0)), (8, (V.sl 0 4 (List.map enc_T_api_Search a0))), (9, (V.int .i64 (a0.length : Int))), (10, (V.int .i64 x11)), (43, (V.bool false))], [(6, ⟨false, 4, [(enc_T_api_Search o13.2)]⟩)], 73⟩ = (((idx a1 o13.2.fType).bind fun v18 => (some (v18.fFields)))).map (fun (o : (List T_api_Field)) => (⟨[(0, (V.sl 0 4 (List.map enc_T_api_Search a0))), (1, (V.sl 0 8 (List.map enc_T_api_Type a1))), (6, (V.ptr 6 0 0)), (7, (V.sl 0 3 (List.map enc_T_api_Field o))), (8, (V.sl 0 4 (List.map enc_T_api_Search a0))), (9, (V.int .i64 (a0.length : Int))), (10, (V.int .i64 x11))], [(6, ⟨false, 4, [(enc_T_api_Search o13.2)]⟩)], 73⟩ : St)) := by
  refine Eq.trans regionE_reg ?_
  refine Eq.trans (reg_adv (m := 3) (j := 3) (st' := ⟨[(0, (V.sl 0 4 (List.map enc_T_api_Search a0))), (1, (V.sl 0 8 (List.map enc_T_api_Type a1))), (6, (V.ptr 6 0 0)), (8, (V.sl 0 4 (List.map enc_T_api_Search a0))), (9, (V.int .i64 (a0.length : Int))), (10, (V.int .i64 x11)), (43, (V.bool false)), (44, (V.sl 0 8 (List.map enc_T_api_Type a1))), (45, (V.ptr 6 0 1)), (46, (V.int .i64 o13.2.fType))], [(6, ⟨false, 4, [(enc_T_api_Search o13.2)]⟩)], 73⟩) rfl rfl rfl) ?_
  refine Eq.trans (reg_pure (x := (idx a1 o13.2.fType)) (w := fun v18 => (V.pro (enc_T_api_Type v18))) rfl rfl rfl rfl (p_index (e := enc_T_api_Type) rfl rfl rfl Go.Proofs.Try.underlying22 rfl (by decide))) ?_
  refine bindE (fun v18 => ?_)
  exact bind_end rfl
theorem dbd_areIndexes_r7 (k : Nat) (a0 : (List T_api_Search)) (a1 : (List T_api_Type)) (x11 : Int) (o13 : Int × T_api_Search) (o19 : (List T_api_Field)) : regionE prog (evF prog anns ext k) dbd_areIndexes_a7 dbd_areIndexes_o7 false ⟨[(0, (V.sl 0 4 (List.map enc_T_api_Search a0))), (1, (V.sl 0 8 (List.map enc_T_api_Type a1))), (6, (V.ptr 6 0 0)), (7, (V.sl 0 3 (List.map enc_T_api_Field o19))), (8, (V.sl 0 4 (List.map enc_T_api_Search a0))), (9, (V.int .i64 (a0.length : Int))), (10, (V.int .i64 x11))], [(6, ⟨false, 4, [(enc_T_api_Search o13.2)]⟩)], 73⟩ = ((bif (decide (o13.2.fField < 0)) then (some (true)) else (bif (decide (o13.2.fField ≥ (o19.length : Int))) then (some (true)) else ((idx o19 o13.2.fField).bind fun v20 => (some ((decide (v20.fBytes > 20)))))))).map (fun (o : Bool) => (⟨[(0, (V.sl 0 4 (List.map enc_T_api_Search a0))), (1, (V.sl 0 8 (List.map enc_T_api_Type a1))), (8, (V.sl 0 4 (List.map enc_T_api_Search a0))), (9, (V.int .i64 (a0.length : Int))), (10, (V.int .i64 x11)), (68, (V.bool o))], [], 73⟩ : St)) := by
  refine Eq.trans regionE_reg ?_
  refine Eq.trans (reg_adv (m := 4) (j := 4) (st' := ⟨[(0, (V.sl 0 4 (List.map enc_T_api_Search a0))), (1, (V.sl 0 8 (List.map enc_T_api_Type a1))), (6, (V.ptr 6 0 0)), (7, (V.sl 0 3 (List.map enc_T_api_Field o19))), (8, (V.sl 0 4 (List.map enc_T_api_Search a0))), (9, (V.int .i64 (a0.length : Int))), (10, (V.int .i64 x11)), (50, (V.ptr 6 0 2)), (51, (V.int .i64 o13.2.fField)), (52, (V.bool (decide (o13.2.fField < 0)))), (53, (V.bool (decide (o13.2.fField < 0))))], [(6, ⟨false, 4, [(enc_T_api_Search o13.2)]⟩)], 73⟩) rfl rfl rfl) ?_
  refine bifE (c := (decide (o13.2.fField < 0))) (fun hc => ?_) (fun hc => ?_)
  · rw [hc]
    exact reg_end rfl
  · rw [hc]
    refine Eq.trans (reg_adv (m := 3) (j := 7) (st' := ⟨[(0, (V.sl 0 4 (List.map enc_T_api_Search a0))), (1, (V.sl 0 8 (List.map enc_T_api_Type a1))), (6, (V.ptr 6 0 0)), (7, (V.sl 0 3 (List.map enc_T_api_Field o19))), (8, (V.sl 0 4 (List.map enc_T_api_Search a0))), (9, (V.int .i64 (a0.length : Int))), (10, (V.int .i64 x11)), (50, (V.ptr 6 0 2)), (51, (V.int .i64 o13.2.fField)), (52, (V.bool false)), (53, (V.bool false)), (54, (V.ptr 6 0 2)), (55, (V.int .i64 o13.2.fField)), (56, (V.sl 0 3 (List.map enc_T_api_Field o19)))], [(6, ⟨false, 4, [(enc_T_api_Search o13.2)]⟩)], 73⟩) rfl rfl rfl) ?_
    refine Eq.trans (reg_pure (x := some ()) (w := fun _ => (V.int .i64 (o19.length : Int))) rfl rfl rfl rfl (p_len (e := enc_T_api_Field) rfl rfl rfl rfl rfl rfl Go.Proofs.Try.underlying53)) ?_
    refine Eq.trans some_bind ?_
    refine Eq.trans (bind_adv (m := 3) (j := 11) (st' := ⟨[(0, (V.sl 0 4 (List.map enc_T_api_Search a0))), (1, (V.sl 0 8 (List.map enc_T_api_Type a1))), (6, (V.ptr 6 0 0)), (7, (V.sl 0 3 (List.map enc_T_api_Field o19))), (8, (V.sl 0 4 (List.map enc_T_api_Search a0))), (9, (V.int .i64 (a0.length : Int))), (10, (V.int .i64 x11)), (50, (V.ptr 6 0 2)), (51, (V.int .i64 o13.2.fField)), (52, (V.bool false)), (53, (V.bool false)), (54, (V.ptr 6 0 2)), (55, (V.int .i64 o13.2.fField)), (56, (V.sl 0 3 (List.map enc_T_api_Field o19))), (57, (V.int .i64 (o19.length : Int))), (58, (V.bool (decide (o13.2.fField ≥ (o19.length : Int))))), (59, (V.bool (decide (o13.2.fField ≥ (o19.length : Int))))), (60, (V.bool (decide (o13.2.fField ≥ (o19.length : Int)))))], [(6, ⟨false, 4, [(enc_T_api_Search o13.2)]⟩)], 73⟩) rfl rfl rfl) ?_
    refine bifE (c := (decide (o13.2.fField ≥ (o19.length : Int)))) (fun hc => ?_) (fun hc => ?_)
    · rw [hc]
      exact reg_end rfl
    · rw [hc]
      refine Eq.trans (reg_adv (m := 3) (j := 14) (st' := ⟨[(0, (V.sl 0 4 (List.map enc_T_api_Search a0))), (1, (V.sl 0 8 (List.map enc_T_api_Type a1))), (6, (V.ptr 6 0 0)), (7, (V.sl 0 3 (List.map enc_T_api_Field o19))), (8, (V.sl 0 4 (List.map enc_T_api_Search a0))), (9, (V.int .i64 (a0.length : Int))), (10, (V.int .i64 x11)), (50, (V.ptr 6 0 2)), (51, (V.int .i64 o13.2.fField)), (52, (V.bool false)), (53, (V.bool false)), (54, (V.ptr 6 0 2)), (55, (V.int .i64 o13.2.fField)), (56, (V.sl 0 3 (List.map enc_T_api_Field o19))), (57, (V.int .i64 (o19.length : Int))), (58, (V.bool false)), (59, (V.bool false)), (60, (V.bool false)), (61, (V.sl 0 3 (List.map enc_T_api_Field o19))), (62, (V.ptr 6 0 2)), (63, (V.int .i64 o13.2.fField))], [(6, ⟨false, 4, [(enc_T_api_Search o13.2)]⟩)], 73⟩) rfl rfl rfl) ?_
      refine Eq.trans (reg_pure (x := (idx o19 o13.2.fField)) (w := fun v20 => (V.pro (enc_T_api_Field v20))) rfl rfl rfl rfl (p_index (e := enc_T_api_Field) rfl rfl rfl Go.Proofs.Try.underlying53 rfl (by decide))) ?_
      refine bindE (fun v20 => ?_)
      exact bind_end rfl
theorem dbd_areIndexes_r8 (k : Nat) (a0 : (List T_api_Search)) (a1 : (List T_api_Type)) (x11 : Int) : regionE prog (evF prog anns ext k) dbd_areIndexes_a8 dbd_areIndexes_o8 false ⟨[(0, (V.sl 0 4 (List.map enc_T_api_Search a0))), (1, (V.sl 0 8 (List.map enc_T_api_Type a1))), (8, (V.sl 0 4 (List.map enc_T_api_Search a0))), (9, (V.int .i64 (a0.length : Int))), (10, (V.int .i64 x11)), (68, (V.bool true))], [], 73⟩ = some ⟨[(4, (V.bool false))], [], 73⟩ := by
  refine Eq.trans regionE_reg ?_
  exact reg_end rfl
theorem dbd_areIndexes_r9 (k : Nat) (a0 : (List T_api_Search)) (a1 : (List T_api_Type)) (x11 : Int) : regionE prog (evF prog anns ext k) dbd_areIndexes_a9 dbd_areIndexes_o9 false ⟨[(0, (V.sl 0 4 (List.map enc_T_api_Search a0))), (1, (V.sl 0 8 (List.map enc_T_api_Type a1))), (8, (V.sl 0 4 (List.map enc_T_api_Search a0))), (9, (V.int .i64 (a0.length : Int))), (10, (V.int .i64 x11)), (68, (V.bool false))], [], 73⟩ = some ⟨[(0, (V.sl 0 4 (List.map enc_T_api_Search a0))), (1, (V.sl 0 8 (List.map enc_T_api_Type a1))), (8, (V.sl 0 4 (List.map enc_T_api_Search a0))), (9, (V.int .i64 (a0.length : Int))), (10, (V.int .i64 (Go.IntKind.wrap .i64 (x11 + 1))))], [], 73⟩ := by
  refine Eq.trans regionE_reg ?_
  exact reg_end rfl
theorem dbd_areIndexes_L1_ok (k : Nat) (a0 : (List T_api_Search)) (a1 : (List T_api_Type))  (K0 : Int → Option Bool) (Kst : X × St → Option (V × List V)) (hK0 : ∀ (y0 : Int), Kst (X.exit 0, ⟨[(0, (V.sl 0 4 (List.map enc_T_api_Search a0))), (1, (V.sl 0 8 (List.map enc_T_api_Type a1))), (8, (V.sl 0 4 (List.map enc_T_api_Search a0))), (9, (V.int .i64 (a0.length : Int))), (10, (V.int .i64 y0)), (11, (V.bool false))], [], 73⟩) = (K0 y0).map dbd_areIndexes_fin) (hret : ∀ s, Kst (X.ret, s) = endK prog 73 [(V.sl 0 4 (List.map enc_T_api_Search a0)), (V.sl 0 8 (List.map enc_T_api_Type a1))] [] [.tmp 4] (X.ret, s)) :
    ∀ (m : Nat) (x11 : Int), (iter (exec prog (evF prog anns ext k) dbd_areIndexes_an k dbd_areIndexes_b0) m ⟨[(0, (V.sl 0 4 (List.map enc_T_api_Search a0))), (1, (V.sl 0 8 (List.map enc_T_api_Type a1))), (8, (V.sl 0 4 (List.map enc_T_api_Search a0))), (9, (V.int .i64 (a0.length : Int))), (10, (V.int .i64 x11))], [], 73⟩).bind Kst = (dbd_areIndexes_L1 k a0 a1 K0 m x11).map dbd_areIndexes_fin := by
  intro m
  induction m with
  | zero => intros; rfl
  | succ m ih =>
    intro x11
    unfold dbd_areIndexes_L1
    refine Eq.trans k_round ?_
    refine Eq.trans (k_region0 rfl (dbd_areIndexes_r2 k a0 a1 x11)) ?_
    refine Eq.trans (k_cond (t := (decide (x11 < (a0.length : Int)))) rfl) ?_
    refine bifE2 (fun hc => ?_) (fun hc => ?_)
    · rw [hc]
      refine Eq.trans k_skip ?_
      refine Eq.trans k_block ?_
      refine Eq.trans (k_region rfl (dbd_areIndexes_r3 k a0 a1 x11)) ?_
      refine bindE (fun o13 => ?_)
      refine Eq.trans k_assoc ?_
      refine Eq.trans (k_region rfl (dbd_areIndexes_r4 k a0 a1 x11 o13)) ?_
      refine bindE (fun o17 => ?_)
      refine Eq.trans (k_cond (t := o17) rfl) ?_
      refine bifE2 (fun hc => ?_) (fun hc => ?_)
      · rw [hc]
        refine Eq.trans k_assoc ?_
        refine Eq.trans (k_region0 rfl (dbd_areIndexes_r5 k a0 a1 x11 o13)) ?_
        refine Eq.trans k_ret ?_
        refine Eq.trans blk_ret ?_
        refine Eq.trans loop_ret ?_
        refine Eq.trans (hret _) ?_
        rfl
      · rw [hc]
        refine Eq.trans k_skip ?_
        refine Eq.trans (k_region rfl (dbd_areIndexes_r6 k a0 a1 x11 o13)) ?_
        refine bindE (fun o19 => ?_)
        refine Eq.trans (k_region rfl (dbd_areIndexes_r7 k a0 a1 x11 o13 o19)) ?_
        refine bindE (fun o21 => ?_)
        refine Eq.trans (k_lcond (t := o21) rfl) ?_
        refine bifE2 (fun hc => ?_) (fun hc => ?_)
        · rw [hc]
          refine Eq.trans (k_region0 rfl (dbd_areIndexes_r8 k a0 a1 x11)) ?_
          refine Eq.trans k_lret ?_
          refine Eq.trans blk_ret ?_
          refine Eq.trans loop_ret ?_
          refine Eq.trans (hret _) ?_
          rfl
        · rw [hc]
          refine Eq.trans k_lskip ?_
          refine Eq.trans blk_normal ?_
          refine Eq.trans (k_lregion0 rfl (dbd_areIndexes_r9 k a0 a1 x11)) ?_
          refine Eq.trans loop_normal ?_
          exact ih (Go.IntKind.wrap .i64 (x11 + 1))
    · rw [hc]
      refine Eq.trans k_exit ?_
      refine Eq.trans loop_exit ?_
      exact hK0 x11
theorem dbd_areIndexes_r10 (k : Nat) (a0 : (List T_api_Search)) (a1 : (List T_api_Type)) (y22 : Int) : regionE prog (evF prog anns ext k) dbd_areIndexes_a10 dbd_areIndexes_o10 false ⟨[(0, (V.sl 0 4 (List.map enc_T_api_Search a0))), (1, (V.sl 0 8 (List.map enc_T_api_Type a1))), (8, (V.sl 0 4 (List.map enc_T_api_Search a0))), (9, (V.int .i64 (a0.length : Int))), (10, (V.int .i64 y22)), (11, (V.bool false))], [], 73⟩ = some ⟨[(4, (V.bool (decide ((a0.length : Int) ≤ 3))))], [], 73⟩ := by
  refine Eq.trans regionE_reg ?_
  refine Eq.trans (reg_adv (m := 1) (j := 1) (st' := ⟨[(0, (V.sl 0 4 (List.map enc_T_api_Search a0))), (1, (V.sl 0 8 (List.map enc_T_api_Type a1))), (8, (V.sl 0 4 (List.map enc_T_api_Search a0))), (9, (V.int .i64 (a0.length : Int))), (10, (V.int .i64 y22)), (11, (V.bool false)), (70, (V.sl 0 4 (List.map enc_T_api_Search a0)))], [], 73⟩) rfl rfl rfl) ?_
  refine Eq.trans (reg_pure (x := some ()) (w := fun _ => (V.int .i64 (a0.length : Int))) rfl rfl rfl rfl (p_len (e := enc_T_api_Search) rfl rfl rfl rfl rfl rfl Go.Proofs.Try.underlying23)) ?_
  refine Eq.trans some_bind ?_
  exact bind_end rfl
theorem dbd_areIndexes_ok (k : Nat) (a0 : (List T_api_Search)) (a1 : (List T_api_Type)) : evF prog anns ext k 58 [(V.sl 0 4 (List.map enc_T_api_Search a0)), (V.sl 0 8 (List.map enc_T_api_Type a1))] = (dbd_areIndexes k a0 a1).map dbd_areIndexes_fin := by
  cases k with
  | zero => rfl
  | succ k =>
    unfold dbd_areIndexes
    refine Eq.trans (evF_succ (c := dbd_areIndexes_c) (N := 73) (regs := dbd_areIndexes_an) rfl Go.Proofs.Try.func58 rfl (by decide) rfl rfl rfl) ?_
    refine Eq.trans (k_region0 rfl (dbd_areIndexes_r0 k a0 a1)) ?_
    refine Eq.trans k_assoc ?_
    refine Eq.trans (k_region0 rfl (dbd_areIndexes_r1 k a0 a1)) ?_
    refine Eq.trans k_block ?_
    refine Eq.trans k_loop ?_
    refine dbd_areIndexes_L1_ok k a0 a1 _ _ ?h_dbd_areIndexes_L1_0 ?hr_dbd_areIndexes_L1 k 0
    · intro y22
      refine Eq.trans blk_exit ?_
      refine Eq.trans (k_region0 rfl (dbd_areIndexes_r10 k a0 a1 y22)) ?_
      refine Eq.trans k_lret ?_
      rfl
    · intro s; exact rfl
def dbd_Valid_fin : Bool → V × List V := fun r => ((V.bool r), [])
theorem dbd_Valid_r0 (k : Nat) (a0 : T_api_Base) : regionE prog (evF prog anns ext k) dbd_Valid_a0 dbd_Valid_o0 false ⟨[(0, (enc_T_api_Base a0))], [], 28⟩ = some ⟨[(1, (V.ptr 1 0 0))], [(1, ⟨false, 4, [(enc_T_api_Base a0)]⟩)], 28⟩ := by
  refine Eq.trans regionE_reg ?_
  exact reg_end rfl
theorem dbd_Valid_r1 (k : Nat) (a0 : T_api_Base) : regionE prog (evF prog anns ext k) dbd_Valid_a1 dbd_Valid_o1 false ⟨[(1, (V.ptr 1 0 0))], [(1, ⟨false, 4, [(enc_T_api_Base a0)]⟩)], 28⟩ = (((dbd_IsName k a0.fName).bind fun v1 => (bif v1 then (bif (decide (a0.fKind ≥ 1)) then (bif (decide (a0.fKind ≤ 4)) then ((dbd_areTypes k a0.fTypes).bind fun v2 => (bif v2 then (dbd_areIndexes k a0.fIndexes a0.fTypes) else (some (false)))) else (some (false))) else (some (false))) else (some (false))))).map (fun (o : Bool) => (⟨[(2, (V.bool o))], [], 28⟩ : St)) := by
  refine Eq.trans regionE_reg ?_
  refine Eq.trans (reg_adv (m := 2) (j := 2) (st' := ⟨[(1, (V.ptr 1 0 0)), (3, (V.ptr 1 0 0)), (4, (V.str a0.fName))], [(1, ⟨false, 4, [(enc_T_api_Base a0)]⟩)], 28⟩) rfl rfl rfl) ?_
  refine Eq.trans (reg_pure (x := (dbd_IsName k a0.fName)) (w := fun v1 => (V.bool v1)) rfl rfl rfl rfl (p_call rfl rfl rfl rfl rfl (dbd_IsName_ok k a0.fName) (.inl rfl))) ?_
  refine bindE (fun v1 => ?_)
  refine Eq.trans (bind_adv (m := 1) (j := 4) (st' := ⟨[(1, (V.ptr 1 0 0)), (3, (V.ptr 1 0 0)), (4, (V.str a0.fName)), (5, (V.bool v1)), (6, (V.bool v1))], [(1, ⟨false, 4, [(enc_T_api_Base a0)]⟩)], 28⟩) rfl rfl rfl) ?_
  refine bifE (c := v1) (fun hc => ?_) (fun hc => ?_)
  · rw [hc]
    refine Eq.trans (reg_adv (m := 5) (j := 9) (st' := ⟨[(1, (V.ptr 1 0 0)), (3, (V.ptr 1 0 0)), (4, (V.str a0.fName)), (5, (V.bool true)), (6, (V.bool true)), (7, (V.ptr 1 0 1)), (8, (V.int .i64 a0.fKind)), (9, (V.bool (decide (a0.fKind ≥ 1)))), (10, (V.bool (decide (a0.fKind ≥ 1)))), (11, (V.bool (decide (a0.fKind ≥ 1))))], [(1, ⟨false, 4, [(enc_T_api_Base a0)]⟩)], 28⟩) rfl rfl rfl) ?_
    refine bifE (c := (decide (a0.fKind ≥ 1))) (fun hc => ?_) (fun hc => ?_)
    · rw [hc]
      refine Eq.trans (reg_adv (m := 5) (j := 14) (st' := ⟨[(1, (V.ptr 1 0 0)), (3, (V.ptr 1 0 0)), (4, (V.str a0.fName)), (5, (V.bool true)), (6, (V.bool true)), (7, (V.ptr 1 0 1)), (8, (V.int .i64 a0.fKind)), (9, (V.bool true)), (10, (V.bool true)), (11, (V.bool true)), (12, (V.ptr 1 0 1)), (13, (V.int .i64 a0.fKind)), (14, (V.bool (decide (a0.fKind ≤ 4)))), (15, (V.bool (decide (a0.fKind ≤ 4)))), (16, (V.bool (decide (a0.fKind ≤ 4))))], [(1, ⟨false, 4, [(enc_T_api_Base a0)]⟩)], 28⟩) rfl rfl rfl) ?_
      refine bifE (c := (decide (a0.fKind ≤ 4))) (fun hc => ?_) (fun hc => ?_)
      · rw [hc]
        refine Eq.trans (reg_adv (m := 2) (j := 16) (st' := ⟨[(1, (V.ptr 1 0 0)), (3, (V.ptr 1 0 0)), (4, (V.str a0.fName)), (5, (V.bool true)), (6, (V.bool true)), (7, (V.ptr 1 0 1)), (8, (V.int .i64 a0.fKind)), (9, (V.bool true)), (10, (V.bool true)), (11, (V.bool true)), (12, (V.ptr 1 0 1)), (13, (V.int .i64 a0.fKind)), (14, (V.bool true)), (15, (V.bool true)), (16, (V.bool true)), (17, (V.ptr 1 0 2)), (18, (V.sl 0 8 (List.map enc_T_api_Type a0.fTypes)))], [(1, ⟨false, 4, [(enc_T_api_Base a0)]⟩)], 28⟩) rfl rfl rfl) ?_
        refine Eq.trans (reg_pure (x := (dbd_areTypes k a0.fTypes)) (w := fun v2 => (V.bool v2)) rfl rfl rfl rfl (p_call rfl rfl rfl rfl rfl (dbd_areTypes_ok k a0.fTypes) (.inl rfl))) ?_
        refine bindE (fun v2 => ?_)
        refine Eq.trans (bind_adv (m := 2) (j := 19) (st' := ⟨[(1, (V.ptr 1 0 0)), (3, (V.ptr 1 0 0)), (4, (V.str a0.fName)), (5, (V.bool true)), (6, (V.bool true)), (7, (V.ptr 1 0 1)), (8, (V.int .i64 a0.fKind)), (9, (V.bool true)), (10, (V.bool true)), (11, (V.bool true)), (12, (V.ptr 1 0 1)), (13, (V.int .i64 a0.fKind)), (14, (V.bool true)), (15, (V.bool true)), (16, (V.bool true)), (17, (V.ptr 1 0 2)), (18, (V.sl 0 8 (List.map enc_T_api_Type a0.fTypes))), (19, (V.bool v2)), (20, (V.bool v2)), (21, (V.bool v2))], [(1, ⟨false, 4, [(enc_T_api_Base a0)]⟩)], 28⟩) rfl rfl rfl) ?_
        refine bifE (c := v2) (fun hc => ?_) (fun hc => ?_)
        · rw [hc]
          refine Eq.trans (reg_adv (m := 4) (j := 23) (st' := ⟨[(1, (V.ptr 1 0 0)), (3, (V.ptr 1 0 0)), (4, (V.str a0.fName)), (5, (V.bool true)), (6, (V.bool true)), (7, (V.ptr 1 0 1)), (8, (V.int .i64 a0.fKind)), (9, (V.bool true)), (10, (V.bool true)), (11, (V.bool true)), (12, (V.ptr 1 0 1)), (13, (V.int .i64 a0.fKind)), (14, (V.bool true)), (15, (V.bool true)), (16, (V.bool true)), (17, (V.ptr 1 0 2)), (18, (V.sl 0 8 (List.map enc_T_api_Type a0.fTypes))), (19, (V.bool true)), (20, (V.bool true)), (21, (V.bool true)), (22, (V.ptr 1 0 3)), (23, (V.sl 0 4 (List.map enc_T_api_Search a0.fIndexes))), (24, (V.ptr 1 0 2)), (25, (V.sl 0 8 (List.map enc_T_api_Type a0.fTypes)))], [(1, ⟨false, 4, [(enc_T_api_Base a0)]⟩)], 28⟩) rfl rfl rfl) ?_
          refine Eq.trans (reg_pure (x := (dbd_areIndexes k a0.fIndexes a0.fTypes)) (w := fun v3 => (V.bool v3)) rfl rfl rfl rfl (p_call rfl rfl rfl rfl rfl (dbd_areIndexes_ok k a0.fIndexes a0.fTypes) (.inl rfl))) ?_
          refine bind_self (fun v3 => ?_)
          exact bind_end rfl
        · rw [hc]
          exact reg_end rfl
      · rw [hc]
        exact reg_end rfl
    · rw [hc]
      exact reg_end rfl
  · rw [hc]
    exact reg_end rfl
theorem dbd_Valid_ok (k : Nat) (a0 : T_api_Base) : evF prog anns ext k 28 [(enc_T_api_Base a0)] = (dbd_Valid k a0).map dbd_Valid_fin := by
  cases k with
  | zero => rfl
  | succ k =>
    unfold dbd_Valid
    refine Eq.trans (evF_succ (c := dbd_Valid_c) (N := 28) (regs := dbd_Valid_an) rfl Go.Proofs.Try.func28 rfl (by decide) rfl rfl rfl) ?_
    refine Eq.trans (k_region0 rfl (dbd_Valid_r0 k a0)) ?_
    refine Eq.trans (k_region rfl (dbd_Valid_r1 k a0)) ?_
    refine bindE (fun o4 => ?_)
    refine Eq.trans k_lret ?_
    rfl
def slices_IndexFunc_int_fin : Int → V × List V := fun r => ((V.int .i64 r), [])
theorem slices_IndexFunc_int_r0 (k : Nat) (a0 : (List Int)) (a1 : Nat → Int → Option Bool) (a1_fid : Go.FuncId) (a1_c0 : V) (a1_hok : ∀ j x0, evF prog anns ext j a1_fid [(V.int .i64 x0), V.pro a1_c0] = (a1 j x0).map fun b => ((V.bool b), [])) : regionE prog (evF prog anns ext k) slices_IndexFunc_int_a0 slices_IndexFunc_int_o0 false ⟨[(0, (V.sl 0 1 (List.map (V.int .i64) a0))), (1, (V.fn a1_fid [] [V.pro a1_c0]))], [], 19⟩ = some ⟨[(0, (V.sl 0 1 (List.map (V.int .i64) a0))), (1, (V.fn a1_fid [] [V.pro a1_c0]))], [], 19⟩ := by
  refine Eq.trans regionE_reg ?_
  exact reg_end rfl
theorem slices_IndexFunc_int_r1 (k : Nat) (a0 : (List Int)) (a1 : Nat → Int → Option Bool) (a1_fid : Go.FuncId) (a1_c0 : V) (a1_hok : ∀ j x0, evF prog anns ext j a1_fid [(V.int .i64 x0), V.pro a1_c0] = (a1 j x0).map fun b => ((V.bool b), [])) : regionE prog (evF prog anns ext k) slices_IndexFunc_int_a1 slices_IndexFunc_int_o1 false ⟨[(0, (V.sl 0 1 (List.map (V.int .i64) a0))), (1, (V.fn a1_fid [] [V.pro a1_c0]))], [], 19⟩ = some ⟨[(0, (V.sl 0 1 (List.map (V.int .i64) a0))), (1, (V.fn a1_fid [] [V.pro a1_c0])), (7, (V.int .i64 (a0.length : Int))), (8, (V.int .i64 0))], [], 19⟩ := by
  refine Eq.trans regionE_reg ?_
  refine Eq.trans (reg_adv (m := 1) (j := 1) (st' := ⟨[(0, (V.sl 0 1 (List.map (V.int .i64) a0))), (1, (V.fn a1_fid [] [V.pro a1_c0])), (6, (V.sl 0 1 (List.map (V.int .i64) a0)))], [], 19⟩) rfl rfl rfl) ?_
  refine Eq.trans (reg_pure (x := some ()) (w := fun _ => (V.int .i64 (a0.length : Int))) rfl rfl rfl rfl (p_len (e := (V.int .i64)) rfl rfl rfl rfl rfl rfl Go.Proofs.Try.underlying28)) ?_
  refine Eq.trans some_bind ?_
  exact bind_end rfl
theorem slices_IndexFunc_int_r2 (k : Nat) (a0 : (List Int)) (x4 : Int) (a1 : Nat → Int → Option Bool) (a1_fid : Go.FuncId) (a1_c0 : V) (a1_hok : ∀ j x0, evF prog anns ext j a1_fid [(V.int .i64 x0), V.pro a1_c0] = (a1 j x0).map fun b => ((V.bool b), [])) : regionE prog (evF prog anns ext k) slices_IndexFunc_int_a2 slices_IndexFunc_int_o2 false ⟨[(0, (V.sl 0 1 (List.map (V.int .i64) a0))), (1, (V.fn a1_fid [] [V.pro a1_c0])), (7, (V.int .i64 (a0.length : Int))), (8, (V.int .i64 x4))], [], 19⟩ = some ⟨[(0, (V.sl 0 1 (List.map (V.int .i64) a0))), (1, (V.fn a1_fid [] [V.pro a1_c0])), (7, (V.int .i64 (a0.length : Int))), (8, (V.int .i64 x4)), (9, (V.bool (decide (x4 < (a0.length : Int)))))], [], 19⟩ := by
  refine Eq.trans regionE_reg ?_
  exact reg_end rfl
theorem slices_IndexFunc_int_r3 (k : Nat) (a0 : (List Int)) (x4 : Int) (a1 : Nat → Int → Option Bool) (a1_fid : Go.FuncId) (a1_c0 : V) (a1_hok : ∀ j x0, evF prog anns ext j a1_fid [(V.int .i64 x0), V.pro a1_c0] = (a1 j x0).map fun b => ((V.bool b), [])) : regionE prog (evF prog anns ext k) slices_IndexFunc_int_a3 slices_IndexFunc_int_o3 false ⟨[(0, (V.sl 0 1 (List.map (V.int .i64) a0))), (1, (V.fn a1_fid [] [V.pro a1_c0])), (7, (V.int .i64 (a0.length : Int))), (8, (V.int .i64 x4)), (9, (V.bool true))], [], 19⟩ = some ⟨[(0, (V.sl 0 1 (List.map (V.int .i64) a0))), (1, (V.fn a1_fid [] [V.pro a1_c0])), (5, (V.int .i64 x4)), (7, (V.int .i64 (a0.length : Int))), (8, (V.int .i64 x4))], [], 19⟩ := by
  refine Eq.trans regionE_reg ?_
  exact reg_end rfl
theorem slices_IndexFunc_int_r4 (k : Nat) (a0 : (List Int)) (x4 : Int) (a1 : Nat → Int → Option Bool) (a1_fid : Go.FuncId) (a1_c0 : V) (a1_hok : ∀ j x0, evF prog anns ext j a1_fid [(V.int .i64 x0), V.pro a1_c0] = (a1 j x0).map fun b => ((V.bool b), [])) : regionE prog (evF prog anns ext k) slices_IndexFunc_int_a4 slices_IndexFunc_int_o4 false ⟨[(0, (V.sl 0 1 (List.map (V.int .i64) a0))), (1, (V.fn a1_fid [] [V.pro a1_c0])), (5, (V.int .i64 x4)), (7, (V.int .i64 (a0.length : Int))), (8, (V.int .i64 x4))], [], 19⟩ = (((idx a0 x4).bind fun v5 => (a1 k v5))).map (fun (o : Bool) => (⟨[(0, (V.sl 0 1 (List.map (V.int .i64) a0))), (1, (V.fn a1_fid [] [V.pro a1_c0])), (5, (V.int .i64 x4)), (7, (V.int .i64 (a0.length : Int))), (8, (V.int .i64 x4)), (16, (V.bool o))], [], 19⟩ : St)) := by
  refine Eq.trans regionE_reg ?_
  refine Eq.trans (reg_adv (m := 3) (j := 3) (st' := ⟨[(0, (V.sl 0 1 (List.map (V.int .i64) a0))), (1, (V.fn a1_fid [] [V.pro a1_c0])), (5, (V.int .i64 x4)), (7, (V.int .i64 (a0.length : Int))), (8, (V.int .i64 x4)), (11, (V.fn a1_fid [] [V.pro a1_c0])), (12, (V.sl 0 1 (List.map (V.int .i64) a0))), (13, (V.int .i64 x4))], [], 19⟩) rfl rfl rfl) ?_
  refine Eq.trans (reg_pure (x := (idx a0 x4)) (w := fun v5 => (V.pro (V.int .i64 v5))) rfl rfl rfl rfl (p_index (e := (V.int .i64)) rfl rfl rfl Go.Proofs.Try.underlying28 rfl (by decide))) ?_
  refine bindE (fun v5 => ?_)
  refine Eq.trans (bind_adv (m := 1) (j := 5) (st' := ⟨[(0, (V.sl 0 1 (List.map (V.int .i64) a0))), (1, (V.fn a1_fid [] [V.pro a1_c0])), (5, (V.int .i64 x4)), (7, (V.int .i64 (a0.length : Int))), (8, (V.int .i64 x4)), (11, (V.fn a1_fid [] [V.pro a1_c0])), (12, (V.sl 0 1 (List.map (V.int .i64) a0))), (13, (V.int .i64 x4)), (14, (V.pro (V.int .i64 v5))), (15, (V.int .i64 v5))], [], 19⟩) rfl rfl rfl) ?_
  refine Eq.trans (reg_pure (x := (a1 k v5)) (w := fun v6 => (V.bool v6)) rfl rfl rfl rfl (p_call rfl rfl rfl rfl rfl (a1_hok k v5) (.inl rfl))) ?_
  refine bind_self (fun v6 => ?_)
  exact bind_end rfl
theorem slices_IndexFunc_int_r5 (k : Nat) (a0 : (List Int)) (x4 : Int) (a1 : Nat → Int → Option Bool) (a1_fid : Go.FuncId) (a1_c0 : V) (a1_hok : ∀ j x0, evF prog anns ext j a1_fid [(V.int .i64 x0), V.pro a1_c0] = (a1 j x0).map fun b => ((V.bool b), [])) : regionE prog (evF prog anns ext k) slices_IndexFunc_int_a5 slices_IndexFunc_int_o5 false ⟨[(0, (V.sl 0 1 (List.map (V.int .i64) a0))), (1, (V.fn a1_fid [] [V.pro a1_c0])), (5, (V.int .i64 x4)), (7, (V.int .i64 (a0.length : Int))), (8, (V.int .i64 x4)), (16, (V.bool true))], [], 19⟩ = some ⟨[(4, (V.int .i64 x4))], [], 19⟩ := by
  refine Eq.trans regionE_reg ?_
  exact reg_end rfl
theorem slices_IndexFunc_int_r6 (k : Nat) (a0 : (List Int)) (x4 : Int) (a1 : Nat → Int → Option Bool) (a1_fid : Go.FuncId) (a1_c0 : V) (a1_hok : ∀ j x0, evF prog anns ext j a1_fid [(V.int .i64 x0), V.pro a1_c0] = (a1 j x0).map fun b => ((V.bool b), [])) : regionE prog (evF prog anns ext k) slices_IndexFunc_int_a6 slices_IndexFunc_int_o6 false ⟨[(0, (V.sl 0 1 (List.map (V.int .i64) a0))), (1, (V.fn a1_fid [] [V.pro a1_c0])), (5, (V.int .i64 x4)), (7, (V.int .i64 (a0.length : Int))), (8, (V.int .i64 x4)), (16, (V.bool false))], [], 19⟩ = some ⟨[(0, (V.sl 0 1 (List.map (V.int .i64) a0))), (1, (V.fn a1_fid [] [V.pro a1_c0])), (7, (V.int .i64 (a0.length : Int))), (8, (V.int .i64 (Go.IntKind.wrap .i64 (x4 + 1))))], [], 19⟩ := by
  refine Eq.trans regionE_reg ?_
  exact reg_end rfl
theorem slices_IndexFunc_int_L1_ok (k : Nat) (a0 : (List Int)) (a1 : Nat → Int → Option Bool) (a1_fid : Go.FuncId) (a1_c0 : V) (a1_hok : ∀ j x0, evF prog anns ext j a1_fid [(V.int .i64 x0), V.pro a1_c0] = (a1 j x0).map fun b => ((V.bool b), [])) (K0 : Int → Option Int) (Kst : X × St → Option (V × List V)) (hK0 : ∀ (y0 : Int), Kst (X.exit 0, ⟨[(0, (V.sl 0 1 (List.map (V.int .i64) a0))), (1, (V.fn a1_fid [] [V.pro a1_c0])), (7, (V.int .i64 (a0.length : Int))), (8, (V.int .i64 y0)), (9, (V.bool false))], [], 19⟩) = (K0 y0).map slices_IndexFunc_int_fin) (hret : ∀ s, Kst (X.ret, s) = endK prog 19 [(V.sl 0 1 (List.map (V.int .i64) a0)), (V.fn a1_fid [] [V.pro a1_c0])] [] [.tmp 4] (X.ret, s)) :
    ∀ (m : Nat) (x4 : Int), (iter (exec prog (evF prog anns ext k) slices_IndexFunc_int_an k slices_IndexFunc_int_b0) m ⟨[(0, (V.sl 0 1 (List.map (V.int .i64) a0))), (1, (V.fn a1_fid [] [V.pro a1_c0])), (7, (V.int .i64 (a0.length : Int))), (8, (V.int .i64 x4))], [], 19⟩).bind Kst = (slices_IndexFunc_int_L1 k a0 a1 K0 m x4).map slices_IndexFunc_int_fin := by
  intro m
  induction m with
  | zero => intros; rfl
  | succ m ih =>
    intro x4
    unfold slices_IndexFunc_int_L1
    refine Eq.trans k_round ?_
    refine Eq.trans (k_region0 rfl (slices_IndexFunc_int_r2 k a0 x4 a1 a1_fid a1_c0 a1_hok)) ?_
    refine Eq.trans (k_cond (t := (decide (x4 < (a0.length : Int)))) rfl) ?_
    refine bifE2 (fun hc => ?_) (fun hc => ?_)
    · rw [hc]
      refine Eq.trans k_skip ?_
      refine Eq.trans k_block ?_
      refine Eq.trans (k_region0 rfl (slices_IndexFunc_int_r3 k a0 x4 a1 a1_fid a1_c0 a1_hok)) ?_
      refine Eq.trans (k_region rfl (slices_IndexFunc_int_r4 k a0 x4 a1 a1_fid a1_c0 a1_hok)) ?_
      refine bindE (fun o7 => ?_)
      refine Eq.trans (k_lcond (t := o7) rfl) ?_
      refine bifE2 (fun hc => ?_) (fun hc => ?_)
      · rw [hc]
        refine Eq.trans (k_region0 rfl (slices_IndexFunc_int_r5 k a0 x4 a1 a1_fid a1_c0 a1_hok)) ?_
        refine Eq.trans k_lret ?_
        refine Eq.trans blk_ret ?_
        refine Eq.trans loop_ret ?_
        refine Eq.trans (hret _) ?_
        rfl
      · rw [hc]
        refine Eq.trans k_lskip ?_
        refine Eq.trans blk_normal ?_
        refine Eq.trans (k_lregion0 rfl (slices_IndexFunc_int_r6 k a0 x4 a1 a1_fid a1_c0 a1_hok)) ?_
        refine Eq.trans loop_normal ?_
        exact ih (Go.IntKind.wrap .i64 (x4 + 1))
    · rw [hc]
      refine Eq.trans k_exit ?_
      refine Eq.trans loop_exit ?_
      exact hK0 x4
theorem slices_IndexFunc_int_r7 (k : Nat) (a0 : (List Int)) (y8 : Int) (a1 : Nat → Int → Option Bool) (a1_fid : Go.FuncId) (a1_c0 : V) (a1_hok : ∀ j x0, evF prog anns ext j a1_fid [(V.int .i64 x0), V.pro a1_c0] = (a1 j x0).map fun b => ((V.bool b), [])) : regionE prog (evF prog anns ext k) slices_IndexFunc_int_a7 slices_IndexFunc_int_o7 false ⟨[(0, (V.sl 0 1 (List.map (V.int .i64) a0))), (1, (V.fn a1_fid [] [V.pro a1_c0])), (7, (V.int .i64 (a0.length : Int))), (8, (V.int .i64 y8)), (9, (V.bool false))], [], 19⟩ = some ⟨[(4, (V.int .i64 (-1)))], [], 19⟩ := by
  refine Eq.trans regionE_reg ?_
  exact reg_end rfl
theorem slices_IndexFunc_int_ok (k : Nat) (a0 : (List Int)) (a1 : Nat → Int → Option Bool) (a1_fid : Go.FuncId) (a1_c0 : V) (a1_hok : ∀ j x0, evF prog anns ext j a1_fid [(V.int .i64 x0), V.pro a1_c0] = (a1 j x0).map fun b => ((V.bool b), [])) : evF prog anns ext k 73 [(V.sl 0 1 (List.map (V.int .i64) a0)), (V.fn a1_fid [] [V.pro a1_c0])] = (slices_IndexFunc_int k a0 a1).map slices_IndexFunc_int_fin := by
  cases k with
  | zero => rfl
  | succ k =>
    unfold slices_IndexFunc_int
    refine Eq.trans (evF_succ (c := slices_IndexFunc_int_c) (N := 19) (regs := slices_IndexFunc_int_an) rfl Go.Proofs.Try.func73 rfl (by decide) rfl rfl rfl) ?_
    refine Eq.trans (k_region0 rfl (slices_IndexFunc_int_r0 k a0 a1 a1_fid a1_c0 a1_hok)) ?_
    refine Eq.trans k_assoc ?_
    refine Eq.trans (k_region0 rfl (slices_IndexFunc_int_r1 k a0 a1 a1_fid a1_c0 a1_hok)) ?_
    refine Eq.trans k_block ?_
    refine Eq.trans k_loop ?_
    refine slices_IndexFunc_int_L1_ok k a0 a1 a1_fid a1_c0 a1_hok _ _ ?h_slices_IndexFunc_int_L1_0 ?hr_slices_IndexFunc_int_L1 k 0
    · intro y8
      refine Eq.trans blk_exit ?_
      refine Eq.trans (k_region0 rfl (slices_IndexFunc_int_r7 k a0 y8 a1 a1_fid a1_c0 a1_hok)) ?_
      refine Eq.trans k_lret ?_
      rfl
    · intro s; exact rfl
def slices_ContainsFunc_int_fin : Bool → V × List V := fun r => ((V.bool r), [])
theorem slices_ContainsFunc_int_r0 (k : Nat) (a0 : (List Int)) (a1 : Nat → Int → Option Bool) (a1_fid : Go.FuncId) (a1_c0 : V) (a1_hok : ∀ j x0, evF prog anns ext j a1_fid [(V.int .i64 x0), V.pro a1_c0] = (a1 j x0).map fun b => ((V.bool b), [])) : regionE prog (evF prog anns ext k) slices_ContainsFunc_int_a0 slices_ContainsFunc_int_o0 false ⟨[(0, (V.sl 0 1 (List.map (V.int .i64) a0))), (1, (V.fn a1_fid [] [V.pro a1_c0]))], [], 9⟩ = some ⟨[(0, (V.sl 0 1 (List.map (V.int .i64) a0))), (1, (V.fn a1_fid [] [V.pro a1_c0]))], [], 9⟩ := by
  refine Eq.trans regionE_reg ?_
  exact reg_end rfl
theorem slices_ContainsFunc_int_r1 (k : Nat) (a0 : (List Int)) (a1 : Nat → Int → Option Bool) (a1_fid : Go.FuncId) (a1_c0 : V) (a1_hok : ∀ j x0, evF prog anns ext j a1_fid [(V.int .i64 x0), V.pro a1_c0] = (a1 j x0).map fun b => ((V.bool b), [])) : regionE prog (evF prog anns ext k) slices_ContainsFunc_int_a1 slices_ContainsFunc_int_o1 false ⟨[(0, (V.sl 0 1 (List.map (V.int .i64) a0))), (1, (V.fn a1_fid [] [V.pro a1_c0]))], [], 9⟩ = (((slices_IndexFunc_int k a0 a1).bind fun v1 => (some ((decide (v1 ≥ 0)))))).map (fun (o : Bool) => (⟨[(4, (V.bool o))], [], 9⟩ : St)) := by
  refine Eq.trans regionE_reg ?_
  refine Eq.trans (reg_adv (m := 2) (j := 2) (st' := ⟨[(0, (V.sl 0 1 (List.map (V.int .i64) a0))), (1, (V.fn a1_fid [] [V.pro a1_c0])), (5, (V.sl 0 1 (List.map (V.int .i64) a0))), (6, (V.fn a1_fid [] [V.pro a1_c0]))], [], 9⟩) rfl rfl rfl) ?_
  refine Eq.trans (reg_pure (x := (slices_IndexFunc_int k a0 a1)) (w := fun v1 => (V.int .i64 v1)) rfl rfl rfl rfl (p_call rfl rfl rfl rfl rfl (slices_IndexFunc_int_ok k a0 a1 a1_fid a1_c0 a1_hok) (.inl rfl))) ?_
  refine bindE (fun v1 => ?_)
  exact bind_end rfl
theorem slices_ContainsFunc_int_ok (k : Nat) (a0 : (List Int)) (a1 : Nat → Int → Option Bool) (a1_fid : Go.FuncId) (a1_c0 : V) (a1_hok : ∀ j x0, evF prog anns ext j a1_fid [(V.int .i64 x0), V.pro a1_c0] = (a1 j x0).map fun b => ((V.bool b), [])) : evF prog anns ext k 64 [(V.sl 0 1 (List.map (V.int .i64) a0)), (V.fn a1_fid [] [V.pro a1_c0])] = (slices_ContainsFunc_int k a0 a1).map slices_ContainsFunc_int_fin := by
  cases k with
  | zero => rfl
  | succ k =>
    unfold slices_ContainsFunc_int
    refine Eq.trans (evF_succ (c := slices_ContainsFunc_int_c) (N := 9) (regs := slices_ContainsFunc_int_an) rfl Go.Proofs.Try.func64 rfl (by decide) rfl rfl rfl) ?_
    refine Eq.trans (k_region0 rfl (slices_ContainsFunc_int_r0 k a0 a1 a1_fid a1_c0 a1_hok)) ?_
    refine Eq.trans (k_region rfl (slices_ContainsFunc_int_r1 k a0 a1 a1_fid a1_c0 a1_hok)) ?_
    refine bindE (fun o2 => ?_)
    refine Eq.trans k_lret ?_
    rfl
def dbd_asked_1_fin : Bool → V × List V := fun r => ((V.bool r), [])
theorem dbd_asked_1_r0 (k : Nat) (a0 : Int) (a1 : T_api_Base) : regionE prog (evF prog anns ext k) dbd_asked_1_a0 dbd_asked_1_o0 false ⟨[(0, (V.int .i64 a0)), (1, (V.pro (enc_T_api_Base a1)))], [], 13⟩ = some ⟨[(0, (V.int .i64 a0)), (1, (V.pro (enc_T_api_Base a1)))], [], 13⟩ := by
  refine Eq.trans regionE_reg ?_
  exact reg_end rfl
theorem dbd_asked_1_r1 (k : Nat) (a0 : Int) (a1 : T_api_Base) : regionE prog (evF prog anns ext k) dbd_asked_1_a1 dbd_asked_1_o1 false ⟨[(0, (V.int .i64 a0)), (1, (V.pro (enc_T_api_Base a1)))], [], 13⟩ = ((bif (decide (a0 < 0)) then (some (true)) else (some ((decide (a0 ≥ (a1.fTypes.length : Int))))))).map (fun (o : Bool) => (⟨[(3, (V.bool o))], [], 13⟩ : St)) := by
  refine Eq.trans regionE_reg ?_
  refine Eq.trans (reg_adv (m := 3) (j := 3) (st' := ⟨[(0, (V.int .i64 a0)), (1, (V.pro (enc_T_api_Base a1))), (4, (V.int .i64 a0)), (5, (V.bool (decide (a0 < 0)))), (6, (V.bool (decide (a0 < 0))))], [], 13⟩) rfl rfl rfl) ?_
  refine bifE (c := (decide (a0 < 0))) (fun hc => ?_) (fun hc => ?_)
  · rw [hc]
    exact reg_end rfl
  · rw [hc]
    refine Eq.trans (reg_adv (m := 3) (j := 6) (st' := ⟨[(0, (V.int .i64 a0)), (1, (V.pro (enc_T_api_Base a1))), (4, (V.int .i64 a0)), (5, (V.bool false)), (6, (V.bool false)), (7, (V.int .i64 a0)), (8, (V.pro (V.sl 0 8 (List.map enc_T_api_Type a1.fTypes)))), (9, (V.sl 0 8 (List.map enc_T_api_Type a1.fTypes)))], [], 13⟩) rfl rfl rfl) ?_
    refine Eq.trans (reg_pure (x := some ()) (w := fun _ => (V.int .i64 (a1.fTypes.length : Int))) rfl rfl rfl rfl (p_len (e := enc_T_api_Type) rfl rfl rfl rfl rfl rfl Go.Proofs.Try.underlying22)) ?_
    refine Eq.trans some_bind ?_
    exact bind_end rfl
theorem dbd_asked_1_ok (k : Nat) (a0 : Int) (a1 : T_api_Base) : evF prog anns ext k 65 [(V.int .i64 a0), (V.pro (enc_T_api_Base a1))] = (dbd_asked_1 k a0 a1).map dbd_asked_1_fin := by
  cases k with
  | zero => rfl
  | succ k =>
    unfold dbd_asked_1
    refine Eq.trans (evF_succ (c := dbd_asked_1_c) (N := 13) (regs := dbd_asked_1_an) rfl Go.Proofs.Try.func65 rfl (by decide) rfl rfl rfl) ?_
    refine Eq.trans (k_region0 rfl (dbd_asked_1_r0 k a0 a1)) ?_
    refine Eq.trans (k_region rfl (dbd_asked_1_r1 k a0 a1)) ?_
    refine bindE (fun o1 => ?_)
    refine Eq.trans k_lret ?_
    rfl
def dbd_asked_fin : Int → V × List V := fun r => ((V.int .i64 r), [])
theorem dbd_asked_r0 (k : Nat) (a0 : T_api_Base) (a1 : (List Int)) : regionE prog (evF prog anns ext k) dbd_asked_a0 dbd_asked_o0 false ⟨[(0, (enc_T_api_Base a0)), (1, (V.sl 0 1 (List.map (V.int .i64) a1)))], [], 13⟩ = some ⟨[(1, (V.sl 0 1 (List.map (V.int .i64) a1))), (2, (V.ptr 2 0 0))], [(2, ⟨false, 4, [(enc_T_api_Base a0)]⟩)], 13⟩ := by
  refine Eq.trans regionE_reg ?_
  exact reg_end rfl
theorem dbd_asked_r1 (k : Nat) (a0 : T_api_Base) (a1 : (List Int)) : regionE prog (evF prog anns ext k) dbd_asked_a1 dbd_asked_o1 false ⟨[(1, (V.sl 0 1 (List.map (V.int .i64) a1))), (2, (V.ptr 2 0 0))], [(2, ⟨false, 4, [(enc_T_api_Base a0)]⟩)], 13⟩ = (((dbd_Valid k a0).bind fun v1 => (some ((!v1))))).map (fun (o : Bool) => (⟨[(1, (V.sl 0 1 (List.map (V.int .i64) a1))), (2, (V.ptr 2 0 0)), (5, (V.bool o))], [(2, ⟨false, 4, [(enc_T_api_Base a0)]⟩)], 13⟩ : St)) := by
  refine Eq.trans regionE_reg ?_
  refine Eq.trans (reg_adv (m := 1) (j := 1) (st' := ⟨[(1, (V.sl 0 1 (List.map (V.int .i64) a1))), (2, (V.ptr 2 0 0)), (6, (enc_T_api_Base a0))], [(2, ⟨false, 4, [(enc_T_api_Base a0)]⟩)], 13⟩) rfl rfl rfl) ?_
  refine Eq.trans (reg_pure (x := (dbd_Valid k a0)) (w := fun v1 => (V.bool v1)) rfl rfl rfl rfl (p_call rfl rfl rfl rfl rfl (dbd_Valid_ok k a0) (.inl rfl))) ?_
  refine bindE (fun v1 => ?_)
  exact bind_end rfl
theorem dbd_asked_r2 (k : Nat) (a0 : T_api_Base) (a1 : (List Int)) : regionE prog (evF prog anns ext k) dbd_asked_a2 dbd_asked_o2 false ⟨[(1, (V.sl 0 1 (List.map (V.int .i64) a1))), (2, (V.ptr 2 0 0)), (5, (V.bool true))], [(2, ⟨false, 4, [(enc_T_api_Base a0)]⟩)], 13⟩ = some ⟨[(4, (V.int .i64 100))], [], 13⟩ := by
  refine Eq.trans regionE_reg ?_
  exact reg_end rfl
theorem dbd_asked_r3 (k : Nat) (a0 : T_api_Base) (a1 : (List Int)) : regionE prog (evF prog anns ext k) dbd_asked_a3 dbd_asked_o3 false ⟨[(1, (V.sl 0 1 (List.map (V.int .i64) a1))), (2, (V.ptr 2 0 0)), (5, (V.bool false))], [(2, ⟨false, 4, [(enc_T_api_Base a0)]⟩)], 13⟩ = ((slices_ContainsFunc_int k a1 (fun j x0 => (dbd_asked_1 j x0 a0)))).map (fun (o : Bool) => (⟨[(9, (V.bool o))], [], 13⟩ : St)) := by
  refine Eq.trans regionE_reg ?_
  refine Eq.trans (reg_adv (m := 2) (j := 2) (st' := ⟨[(1, (V.sl 0 1 (List.map (V.int .i64) a1))), (2, (V.ptr 2 0 0)), (5, (V.bool false)), (10, (V.sl 0 1 (List.map (V.int .i64) a1))), (11, (V.fn 65 [] [(V.ptr 2 0 0)]))], [(2, ⟨false, 4, [(enc_T_api_Base a0)]⟩)], 13⟩) rfl rfl rfl) ?_
  refine Eq.trans (reg_pure (x := (slices_ContainsFunc_int k a1 (fun j x0 => (dbd_asked_1 j x0 a0)))) (w := fun v3 => (V.bool v3)) rfl rfl rfl rfl (p_call rfl rfl rfl rfl rfl (slices_ContainsFunc_int_ok k a1 (fun j x0 => (dbd_asked_1 j x0 a0)) 65 (enc_T_api_Base a0) (fun j x0 => (dbd_asked_1_ok j x0 a0))) (.inr (fun _ => rfl)))) ?_
  refine bind_self (fun v3 => ?_)
  exact bind_end rfl
theorem dbd_asked_r4 (k : Nat)  : regionE prog (evF prog anns ext k) dbd_asked_a4 dbd_asked_o4 false ⟨[(9, (V.bool true))], [], 13⟩ = some ⟨[(4, (V.int .i64 2))], [], 13⟩ := by
  refine Eq.trans regionE_reg ?_
  exact reg_end rfl
theorem dbd_asked_r5 (k : Nat)  : regionE prog (evF prog anns ext k) dbd_asked_a5 dbd_asked_o5 false ⟨[(9, (V.bool false))], [], 13⟩ = some ⟨[(4, (V.int .i64 0))], [], 13⟩ := by
  refine Eq.trans regionE_reg ?_
  exact reg_end rfl
theorem dbd_asked_ok (k : Nat) (a0 : T_api_Base) (a1 : (List Int)) : evF prog anns ext k 38 [(enc_T_api_Base a0), (V.sl 0 1 (List.map (V.int .i64) a1))] = (dbd_asked k a0 a1).map dbd_asked_fin := by
  cases k with
  | zero => rfl
  | succ k =>
    unfold dbd_asked
    refine Eq.trans (evF_succ (c := dbd_asked_c) (N := 13) (regs := dbd_asked_an) rfl Go.Proofs.Try.func38 rfl (by decide) rfl rfl rfl) ?_
    refine Eq.trans (k_region0 rfl (dbd_asked_r0 k a0 a1)) ?_
    refine Eq.trans k_block ?_
    refine Eq.trans (k_region rfl (dbd_asked_r1 k a0 a1)) ?_
    refine bindE (fun o2 => ?_)
    refine Eq.trans (k_lcond (t := o2) rfl) ?_
    refine bifE2 (fun hc => ?_) (fun hc => ?_)
    · rw [hc]
      refine Eq.trans (k_region0 rfl (dbd_asked_r2 k a0 a1)) ?_
      refine Eq.trans k_lret ?_
      refine Eq.trans blk_ret ?_
      rfl
    · rw [hc]
      refine Eq.trans (k_region rfl (dbd_asked_r3 k a0 a1)) ?_
      refine bindE (fun o4 => ?_)
      refine Eq.trans (k_lcond (t := o4) rfl) ?_
      refine bifE2 (fun hc => ?_) (fun hc => ?_)
      · rw [hc]
        refine Eq.trans (k_region0 rfl (dbd_asked_r4 k)) ?_
        refine Eq.trans k_lret ?_
        refine Eq.trans blk_ret ?_
        rfl
      · rw [hc]
        refine Eq.trans k_lskip ?_
        refine Eq.trans blk_normal ?_
        refine Eq.trans (k_region0 rfl (dbd_asked_r5 k)) ?_
        refine Eq.trans k_lret ?_
        rfl
def slices_Reverse_int_fin : List Int → V × List V := fun r => (.tup [], [.sl 2 1 (List.map (V.int .i64) r)])
theorem slices_Reverse_int_ok (k : Nat) (l : List Int) : evF prog anns ext k 66 [(V.sl 2 1 (List.map (V.int .i64) l))] = (slices_Reverse_int k l).map slices_Reverse_int_fin := by
  cases k with
  | zero => rfl
  | succ k => exact (evF_ext (ext := ext) (f := 66) rfl).trans (extReverseInt_map l)
def dbd_way_fin : (List Int) → V × List V := fun r => ((V.sl 0 1 (List.map (V.int .i64) r)), [])
theorem dbd_way_r0 (k : Nat) (a0 : T_api_Base) (a1 : Int) : regionE prog (evF prog anns ext k) dbd_way_a0 dbd_way_o0 false ⟨[(0, (enc_T_api_Base a0)), (1, (V.int .i64 a1))], [], 21⟩ = some ⟨[(1, (V.int .i64 a1)), (2, (V.ptr 2 0 0))], [(2, ⟨false, 4, [(enc_T_api_Base a0)]⟩)], 21⟩ := by
  refine Eq.trans regionE_reg ?_
  exact reg_end rfl
theorem dbd_way_r1 (k : Nat) (a0 : T_api_Base) (a1 : Int) : regionE prog (evF prog anns ext k) dbd_way_a1 dbd_way_o1 false ⟨[(1, (V.int .i64 a1)), (2, (V.ptr 2 0 0))], [(2, ⟨false, 4, [(enc_T_api_Base a0)]⟩)], 21⟩ = some ⟨[(1, (V.int .i64 a1)), (2, (V.ptr 2 0 0)), (5, (V.aref 5 0 (List.map (V.int .i64) ([] : List Int)).length))], [(2, ⟨false, 4, [(enc_T_api_Base a0)]⟩), (5, ⟨true, 1, List.map (V.int .i64) ([] : List Int)⟩)], 21⟩ := by
  refine Eq.trans regionE_reg ?_
  exact reg_end rfl
theorem dbd_way_r2 (k : Nat) (a0 : T_api_Base) (x5 : Int) (x6 : (List Int)) : regionE prog (evF prog anns ext k) dbd_way_a2 dbd_way_o2 false ⟨[(1, (V.int .i64 x5)), (2, (V.ptr 2 0 0)), (5, (V.aref 5 0 (List.map (V.int .i64) x6).length))], [(2, ⟨false, 4, [(enc_T_api_Base a0)]⟩), (5, ⟨true, 1, List.map (V.int .i64) x6⟩)], 21⟩ = some ⟨[(1, (V.int .i64 x5)), (2, (V.ptr 2 0 0)), (5, (V.aref 5 0 (List.map (V.int .i64) x6).length)), (7, (V.bool (decide (x5 ≥ 0))))], [(2, ⟨false, 4, [(enc_T_api_Base a0)]⟩), (5, ⟨true, 1, List.map (V.int .i64) x6⟩)], 21⟩ := by
  refine Eq.trans regionE_reg ?_
  exact reg_end rfl
theorem dbd_way_r4 (k : Nat) (a0 : T_api_Base) (x5 : Int) (x6 : (List Int)) : regionE prog (evF prog anns ext k) dbd_way_a4 dbd_way_o4 false ⟨[(1, (V.int .i64 x5)), (2, (V.ptr 2 0 0)), (5, (V.aref 5 0 (List.map (V.int .i64) x6).length)), (7, (V.bool true))], [(2, ⟨false, 4, [(enc_T_api_Base a0)]⟩), (5, ⟨true, 1, List.map (V.int .i64) x6⟩)], 21⟩ = ((app x6 ([x5] : List Int))).map (fun (o : (List Int)) => (⟨[(1, (V.int .i64 x5)), (2, (V.ptr 2 0 0)), (5, (V.aref 5 0 (List.map (V.int .i64) o).length))], [(2, ⟨false, 4, [(enc_T_api_Base a0)]⟩), (5, ⟨true, 1, List.map (V.int .i64) o⟩)], 21⟩ : St)) := by
  refine Eq.trans regionE_reg ?_
  refine Eq.trans (reg_adv (m := 3) (j := 3) (st' := ⟨[(1, (V.int .i64 x5)), (2, (V.ptr 2 0 0)), (5, (V.aref 5 0 (List.map (V.int .i64) x6).length)), (7, (V.bool true)), (14, (V.aref 5 0 (List.map (V.int .i64) x6).length)), (15, (V.int .i64 x5)), (16, (V.sl 0 1 (List.map (V.int .i64) ([x5] : List Int))))], [(2, ⟨false, 4, [(enc_T_api_Base a0)]⟩), (5, ⟨true, 1, List.map (V.int .i64) x6⟩)], 21⟩) rfl rfl rfl) ?_
  refine Eq.trans (reg_eff (x := (app x6 ([x5] : List Int))) (w := fun v7 => ((V.aref 5 0 (List.map (V.int .i64) v7).length), _)) rfl rfl rfl rfl (p_appF (e := (V.int .i64)) (l := x6) rfl rfl rfl rfl rfl rfl rfl rfl rfl rfl rfl (of_decide_eq_true rfl))) ?_
  refine bind_self (fun v7 => ?_)
  exact bind_end rfl
theorem dbd_way_r3 (k : Nat) (a0 : T_api_Base) (x5 : Int) (o8 : (List Int)) : regionE prog (evF prog anns ext k) dbd_way_a3 dbd_way_o3 false ⟨[(1, (V.int .i64 x5)), (2, (V.ptr 2 0 0)), (5, (V.aref 5 0 (List.map (V.int .i64) o8).length))], [(2, ⟨false, 4, [(enc_T_api_Base a0)]⟩), (5, ⟨true, 1, List.map (V.int .i64) o8⟩)], 21⟩ = (((idx a0.fTypes x5).bind fun v9 => (some (v9.fParent)))).map (fun (o : Int) => (⟨[(1, (V.int .i64 o)), (2, (V.ptr 2 0 0)), (5, (V.aref 5 0 (List.map (V.int .i64) o8).length))], [(2, ⟨false, 4, [(enc_T_api_Base a0)]⟩), (5, ⟨true, 1, List.map (V.int .i64) o8⟩)], 21⟩ : St)) := by
  refine Eq.trans regionE_reg ?_
  refine Eq.trans (reg_adv (m := 3) (j := 3) (st' := ⟨[(1, (V.int .i64 x5)), (2, (V.ptr 2 0 0)), (5, (V.aref 5 0 (List.map (V.int .i64) o8).length)), (8, (V.ptr 2 0 2)), (9, (V.sl 0 8 (List.map enc_T_api_Type a0.fTypes))), (10, (V.int .i64 x5))], [(2, ⟨false, 4, [(enc_T_api_Base a0)]⟩), (5, ⟨true, 1, List.map (V.int .i64) o8⟩)], 21⟩) rfl rfl rfl) ?_
  refine Eq.trans (reg_pure (x := (idx a0.fTypes x5)) (w := fun v9 => (V.pro (enc_T_api_Type v9))) rfl rfl rfl rfl (p_index (e := enc_T_api_Type) rfl rfl rfl Go.Proofs.Try.underlying22 rfl (by decide))) ?_
  refine bindE (fun v9 => ?_)
  exact bind_end rfl
theorem dbd_way_L1_ok (k : Nat) (a0 : T_api_Base) (a1 : Int)  (K0 : Int → (List Int) → Option (List Int)) (Kst : X × St → Option (V × List V)) (hK0 : ∀ (y0 : Int) (y1 : (List Int)), Kst (X.exit 0, ⟨[(1, (V.int .i64 y0)), (2, (V.ptr 2 0 0)), (5, (V.aref 5 0 (List.map (V.int .i64) y1).length)), (7, (V.bool false))], [(2, ⟨false, 4, [(enc_T_api_Base a0)]⟩), (5, ⟨true, 1, List.map (V.int .i64) y1⟩)], 21⟩) = (K0 y0 y1).map dbd_way_fin) (hret : ∀ s, Kst (X.ret, s) = endK prog 21 [(enc_T_api_Base a0), (V.int .i64 a1)] [] [.tmp 4] (X.ret, s)) :
    ∀ (m : Nat) (x5 : Int) (x6 : (List Int)), (iter (exec prog (evF prog anns ext k) dbd_way_an k dbd_way_b0) m ⟨[(1, (V.int .i64 x5)), (2, (V.ptr 2 0 0)), (5, (V.aref 5 0 (List.map (V.int .i64) x6).length))], [(2, ⟨false, 4, [(enc_T_api_Base a0)]⟩), (5, ⟨true, 1, List.map (V.int .i64) x6⟩)], 21⟩).bind Kst = (dbd_way_L1 a0 K0 m x5 x6).map dbd_way_fin := by
  intro m
  induction m with
  | zero => intros; rfl
  | succ m ih =>
    intro x5 x6
    unfold dbd_way_L1
    refine Eq.trans k_round ?_
    refine Eq.trans k_assoc ?_
    refine Eq.trans (k_region0 rfl (dbd_way_r2 k a0 x5 x6)) ?_
    refine Eq.trans (k_cond (t := (decide (x5 ≥ 0))) rfl) ?_
    refine bifE2 (fun hc => ?_) (fun hc => ?_)
    · rw [hc]
      refine Eq.trans k_skip ?_
      refine Eq.trans k_block ?_
      refine Eq.trans (k_lregion rfl (dbd_way_r4 k a0 x5 x6)) ?_
      refine bindE (fun o8 => ?_)
      refine Eq.trans blk_normal ?_
      refine Eq.trans (k_lregion rfl (dbd_way_r3 k a0 x5 o8)) ?_
      refine bindE (fun o10 => ?_)
      refine Eq.trans loop_normal ?_
      exact ih o10 o8
    · rw [hc]
      refine Eq.trans k_exit ?_
      refine Eq.trans loop_exit ?_
      exact hK0 x5 x6
theorem dbd_way_r5 (k : Nat) (a0 : T_api_Base) (y11 : Int) (y12 : (List Int)) : regionE prog (evF prog anns ext k) dbd_way_a5 dbd_way_o5 false ⟨[(1, (V.int .i64 y11)), (2, (V.ptr 2 0 0)), (5, (V.aref 5 0 (List.map (V.int .i64) y12).length)), (7, (V.bool false))], [(2, ⟨false, 4, [(enc_T_api_Base a0)]⟩), (5, ⟨true, 1, List.map (V.int .i64) y12⟩)], 21⟩ = (((slices_Reverse_int k y12).bind (sameLen y12))).map (fun (o : (List Int)) => (⟨[(5, (V.aref 5 0 (List.map (V.int .i64) o).length))], [(5, ⟨true, 1, List.map (V.int .i64) o⟩)], 21⟩ : St)) := by
  refine Eq.trans regionE_reg ?_
  refine Eq.trans (reg_adv (m := 1) (j := 1) (st' := ⟨[(1, (V.int .i64 y11)), (2, (V.ptr 2 0 0)), (5, (V.aref 5 0 (List.map (V.int .i64) y12).length)), (7, (V.bool false)), (18, (V.aref 5 0 (List.map (V.int .i64) y12).length))], [(2, ⟨false, 4, [(enc_T_api_Base a0)]⟩), (5, ⟨true, 1, List.map (V.int .i64) y12⟩)], 21⟩) rfl rfl rfl) ?_
  refine Eq.trans (reg_eff (x := ((slices_Reverse_int k y12).bind (sameLen y12))) (w := fun v13 => (V.tup [], _)) rfl rfl rfl rfl (p_callL (S := (fun n_ => ⟨[(1, (V.int .i64 y11)), (2, (V.ptr 2 0 0)), (5, (V.aref 5 0 n_)), (7, (V.bool false)), (18, (V.aref 5 0 n_))], [(2, ⟨false, 4, [(enc_T_api_Base a0)]⟩), (5, ⟨true, 1, List.map (V.int .i64) y12⟩)], 21⟩)) (e := (V.int .i64)) rfl rfl rfl rfl rfl (argsA1 (e := (V.int .i64)) rfl) rfl (slices_Reverse_int_ok k y12))) ?_
  refine bind_self (fun v13 => ?_)
  exact bind_end rfl
theorem dbd_way_r6 (k : Nat) (o14 : (List Int)) : regionE prog (evF prog anns ext k) dbd_way_a6 dbd_way_o6 false ⟨[(5, (V.aref 5 0 (List.map (V.int .i64) o14).length))], [(5, ⟨true, 1, List.map (V.int .i64) o14⟩)], 21⟩ = some ⟨[(4, (V.sl 0 1 (List.map (V.int .i64) o14)))], [], 21⟩ := by
  refine Eq.trans regionE_reg ?_
  refine Eq.trans (reg_adv (m := 1) (j := 1) (st' := ⟨[(5, (V.aref 5 0 (List.map (V.int .i64) o14).length)), (20, (V.aref 5 0 (List.map (V.int .i64) o14).length))], [(5, ⟨true, 1, List.map (V.int .i64) o14⟩)], 21⟩) rfl rfl rfl) ?_
  refine Eq.trans (reg_eff (x := some ()) (w := fun _ => ((V.sl 2 1 (List.map (V.int .i64) o14)), _)) rfl rfl rfl rfl (p_close (e := (V.int .i64)) rfl rfl rfl rfl rfl (of_decide_eq_true rfl))) ?_
  refine Eq.trans some_bind ?_
  exact bind_end rfl
theorem dbd_way_ok (k : Nat) (a0 : T_api_Base) (a1 : Int) : evF prog anns ext k 39 [(enc_T_api_Base a0), (V.int .i64 a1)] = (dbd_way k a0 a1).map dbd_way_fin := by
  cases k with
  | zero => rfl
  | succ k =>
    unfold dbd_way
    refine Eq.trans (evF_succ (c := dbd_way_c) (N := 21) (regs := dbd_way_an) rfl Go.Proofs.Try.func39 rfl (by decide) rfl rfl rfl) ?_
    refine Eq.trans (k_region0 rfl (dbd_way_r0 k a0 a1)) ?_
    refine Eq.trans (k_region0 rfl (dbd_way_r1 k a0 a1)) ?_
    refine Eq.trans k_block ?_
    refine Eq.trans k_loop ?_
    refine dbd_way_L1_ok k a0 a1 _ _ ?h_dbd_way_L1_0 ?hr_dbd_way_L1 k a1 ([] : List Int)
    · intro y11 y12
      refine Eq.trans blk_exit ?_
      refine Eq.trans (k_region rfl (dbd_way_r5 k a0 y11 y12)) ?_
      refine bindE (fun o14 => ?_)
      refine Eq.trans (k_region0 rfl (dbd_way_r6 k o14)) ?_
      refine Eq.trans k_lret ?_
      rfl
    · intro s; exact rfl
def dbd_Way_fin : ((List Int) × Int) → V × List V := fun r => (.tup [(V.sl 0 1 (List.map (V.int .i64) r.1)), (V.int .i64 r.2)], [])
theorem dbd_Way_r0 (k : Nat) (a0 : T_api_Base) (a1 : Int) : regionE prog (evF prog anns ext k) dbd_Way_a0 dbd_Way_o0 false ⟨[(0, (enc_T_api_Base a0)), (1, (V.int .i64 a1))], [], 17⟩ = some ⟨[(1, (V.int .i64 a1)), (2, (V.ptr 2 0 0))], [(2, ⟨false, 4, [(enc_T_api_Base a0)]⟩)], 17⟩ := by
  refine Eq.trans regionE_reg ?_
  exact reg_end rfl
theorem dbd_Way_r1 (k : Nat) (a0 : T_api_Base) (a1 : Int) : regionE prog (evF prog anns ext k) dbd_Way_a1 dbd_Way_o1 false ⟨[(1, (V.int .i64 a1)), (2, (V.ptr 2 0 0))], [(2, ⟨false, 4, [(enc_T_api_Base a0)]⟩)], 17⟩ = ((dbd_asked k a0 ([a1] : List Int))).map (fun (o : Int) => (⟨[(1, (V.int .i64 a1)), (2, (V.ptr 2 0 0)), (6, (V.int .i64 o))], [(2, ⟨false, 4, [(enc_T_api_Base a0)]⟩)], 17⟩ : St)) := by
  refine Eq.trans regionE_reg ?_
  refine Eq.trans (reg_adv (m := 3) (j := 3) (st' := ⟨[(1, (V.int .i64 a1)), (2, (V.ptr 2 0 0)), (7, (enc_T_api_Base a0)), (8, (V.int .i64 a1)), (9, (V.sl 0 1 (List.map (V.int .i64) ([a1] : List Int))))], [(2, ⟨false, 4, [(enc_T_api_Base a0)]⟩)], 17⟩) rfl rfl rfl) ?_
  refine Eq.trans (reg_pure (x := (dbd_asked k a0 ([a1] : List Int))) (w := fun v1 => (V.int .i64 v1)) rfl rfl rfl rfl (p_call rfl rfl rfl rfl rfl (dbd_asked_ok k a0 ([a1] : List Int)) (.inl rfl))) ?_
  refine bind_self (fun v1 => ?_)
  exact bind_end rfl
theorem dbd_Way_r2 (k : Nat) (a0 : T_api_Base) (a1 : Int) (o2 : Int) : regionE prog (evF prog anns ext k) dbd_Way_a2 dbd_Way_o2 false ⟨[(1, (V.int .i64 a1)), (2, (V.ptr 2 0 0)), (6, (V.int .i64 o2))], [(2, ⟨false, 4, [(enc_T_api_Base a0)]⟩)], 17⟩ = some ⟨[(1, (V.int .i64 a1)), (2, (V.ptr 2 0 0)), (6, (V.int .i64 o2)), (12, (V.bool (o2 != 0)))], [(2, ⟨false, 4, [(enc_T_api_Base a0)]⟩)], 17⟩ := by
  refine Eq.trans regionE_reg ?_
  exact reg_end rfl
theorem dbd_Way_r3 (k : Nat) (a0 : T_api_Base) (a1 : Int) (o2 : Int) : regionE prog (evF prog anns ext k) dbd_Way_a3 dbd_Way_o3 false ⟨[(1, (V.int .i64 a1)), (2, (V.ptr 2 0 0)), (6, (V.int .i64 o2)), (12, (V.bool true))], [(2, ⟨false, 4, [(enc_T_api_Base a0)]⟩)], 17⟩ = some ⟨[(4, (V.sl 0 1 (List.map (V.int .i64) ([] : List Int)))), (5, (V.int .i64 o2))], [], 17⟩ := by
  refine Eq.trans regionE_reg ?_
  exact reg_end rfl
theorem dbd_Way_r4 (k : Nat) (a0 : T_api_Base) (a1 : Int) (o2 : Int) : regionE prog (evF prog anns ext k) dbd_Way_a4 dbd_Way_o4 false ⟨[(1, (V.int .i64 a1)), (2, (V.ptr 2 0 0)), (6, (V.int .i64 o2)), (12, (V.bool false))], [(2, ⟨false, 4, [(enc_T_api_Base a0)]⟩)], 17⟩ = (((dbd_way k a0 a1).bind fun v3 => (some (v3, 0)))).map (fun (o : (List Int) × Int) => (⟨[(4, (V.sl 0 1 (List.map (V.int .i64) o.1))), (5, (V.int .i64 o.2))], [], 17⟩ : St)) := by
  refine Eq.trans regionE_reg ?_
  refine Eq.trans (reg_adv (m := 2) (j := 2) (st' := ⟨[(1, (V.int .i64 a1)), (2, (V.ptr 2 0 0)), (6, (V.int .i64 o2)), (12, (V.bool false)), (14, (enc_T_api_Base a0)), (15, (V.int .i64 a1))], [(2, ⟨false, 4, [(enc_T_api_Base a0)]⟩)], 17⟩) rfl rfl rfl) ?_
  refine Eq.trans (reg_pure (x := (dbd_way k a0 a1)) (w := fun v3 => (V.sl 0 1 (List.map (V.int .i64) v3))) rfl rfl rfl rfl (p_call rfl rfl rfl rfl rfl (dbd_way_ok k a0 a1) (.inl rfl))) ?_
  refine bindE (fun v3 => ?_)
  exact bind_end rfl
theorem dbd_Way_ok (k : Nat) (a0 : T_api_Base) (a1 : Int) : evF prog anns ext k 11 [(enc_T_api_Base a0), (V.int .i64 a1)] = (dbd_Way k a0 a1).map dbd_Way_fin := by
  cases k with
  | zero => rfl
  | succ k =>
    unfold dbd_Way
    refine Eq.trans (evF_succ (c := dbd_Way_c) (N := 17) (regs := dbd_Way_an) rfl Go.Proofs.Try.func11 rfl (by decide) rfl rfl rfl) ?_
    refine Eq.trans (k_region0 rfl (dbd_Way_r0 k a0 a1)) ?_
    refine Eq.trans k_assoc ?_
    refine Eq.trans (k_region rfl (dbd_Way_r1 k a0 a1)) ?_
    refine bindE (fun o2 => ?_)
    refine Eq.trans k_assoc ?_
    refine Eq.trans (k_region0 rfl (dbd_Way_r2 k a0 a1 o2)) ?_
    refine Eq.trans (k_cond (t := (o2 != 0)) rfl) ?_
    refine bifE2 (fun hc => ?_) (fun hc => ?_)
    · rw [hc]
      refine Eq.trans k_assoc ?_
      refine Eq.trans (k_region0 rfl (dbd_Way_r3 k a0 a1 o2)) ?_
      refine Eq.trans k_ret ?_
      rfl
    · rw [hc]
      refine Eq.trans k_skip ?_
      refine Eq.trans (k_region rfl (dbd_Way_r4 k a0 a1 o2)) ?_
      refine bindE (fun o4 => ?_)
      refine Eq.trans k_lret ?_
      rfl
def dbd_Children_fin : ((List Int) × Int) → V × List V := fun r => (.tup [(V.sl 0 1 (List.map (V.int .i64) r.1)), (V.int .i64 r.2)], [])
theorem dbd_Children_r0 (k : Nat) (a0 : T_api_Base) (a1 : Int) : regionE prog (evF prog anns ext k) dbd_Children_a0 dbd_Children_o0 false ⟨[(0, (enc_T_api_Base a0)), (1, (V.int .i64 a1))], [], 35⟩ = some ⟨[(1, (V.int .i64 a1)), (2, (V.ptr 2 0 0))], [(2, ⟨false, 4, [(enc_T_api_Base a0)]⟩)], 35⟩ := by
  refine Eq.trans regionE_reg ?_
  exact reg_end rfl
theorem dbd_Children_r1 (k : Nat) (a0 : T_api_Base) (a1 : Int) : regionE prog (evF prog anns ext k) dbd_Children_a1 dbd_Children_o1 false ⟨[(1, (V.int .i64 a1)), (2, (V.ptr 2 0 0))], [(2, ⟨false, 4, [(enc_T_api_Base a0)]⟩)], 35⟩ = ((dbd_asked k a0 ([a1] : List Int))).map (fun (o : Int) => (⟨[(1, (V.int .i64 a1)), (2, (V.ptr 2 0 0)), (6, (V.int .i64 o))], [(2, ⟨false, 4, [(enc_T_api_Base a0)]⟩)], 35⟩ : St)) := by
  refine Eq.trans regionE_reg ?_
  refine Eq.trans (reg_adv (m := 3) (j := 3) (st' := ⟨[(1, (V.int .i64 a1)), (2, (V.ptr 2 0 0)), (10, (enc_T_api_Base a0)), (11, (V.int .i64 a1)), (12, (V.sl 0 1 (List.map (V.int .i64) ([a1] : List Int))))], [(2, ⟨false, 4, [(enc_T_api_Base a0)]⟩)], 35⟩) rfl rfl rfl) ?_
  refine Eq.trans (reg_pure (x := (dbd_asked k a0 ([a1] : List Int))) (w := fun v1 => (V.int .i64 v1)) rfl rfl rfl rfl (p_call rfl rfl rfl rfl rfl (dbd_asked_ok k a0 ([a1] : List Int)) (.inl rfl))) ?_
  refine bind_self (fun v1 => ?_)
  exact bind_end rfl
theorem dbd_Children_r2 (k : Nat) (a0 : T_api_Base) (a1 : Int) (o2 : Int) : regionE prog (evF prog anns ext k) dbd_Children_a2 dbd_Children_o2 false ⟨[(1, (V.int .i64 a1)), (2, (V.ptr 2 0 0)), (6, (V.int .i64 o2))], [(2, ⟨false, 4, [(enc_T_api_Base a0)]⟩)], 35⟩ = some ⟨[(1, (V.int .i64 a1)), (2, (V.ptr 2 0 0)), (6, (V.int .i64 o2)), (15, (V.bool (o2 != 0)))], [(2, ⟨false, 4, [(enc_T_api_Base a0)]⟩)], 35⟩ := by
  refine Eq.trans regionE_reg ?_
  exact reg_end rfl
theorem dbd_Children_r3 (k : Nat) (a0 : T_api_Base) (a1 : Int) (o2 : Int) : regionE prog (evF prog anns ext k) dbd_Children_a3 dbd_Children_o3 false ⟨[(1, (V.int .i64 a1)), (2, (V.ptr 2 0 0)), (6, (V.int .i64 o2)), (15, (V.bool true))], [(2, ⟨false, 4, [(enc_T_api_Base a0)]⟩)], 35⟩ = some ⟨[(4, (V.sl 0 1 (List.map (V.int .i64) ([] : List Int)))), (5, (V.int .i64 o2))], [], 35⟩ := by
  refine Eq.trans regionE_reg ?_
  exact reg_end rfl
theorem dbd_Children_r4 (k : Nat) (a0 : T_api_Base) (a1 : Int) (o2 : Int) : regionE prog (evF prog anns ext k) dbd_Children_a4 dbd_Children_o4 false ⟨[(1, (V.int .i64 a1)), (2, (V.ptr 2 0 0)), (6, (V.int .i64 o2)), (15, (V.bool false))], [(2, ⟨false, 4, [(enc_T_api_Base a0)]⟩)], 35⟩ = some ⟨[(1, (V.int .i64 a1)), (2, (V.ptr 2 0 0)), (7, (V.sl 1 1 (List.map (V.int .i64) ([] : List Int))))], [(2, ⟨false, 4, [(enc_T_api_Base a0)]⟩)], 35⟩ := by
  refine Eq.trans regionE_reg ?_
  exact reg_end rfl
theorem dbd_Children_r5 (k : Nat) (a0 : T_api_Base) (a1 : Int) : regionE prog (evF prog anns ext k) dbd_Children_a5 dbd_Children_o5 false ⟨[(1, (V.int .i64 a1)), (2, (V.ptr 2 0 0)), (7, (V.sl 1 1 (List.map (V.int .i64) ([] : List Int))))], [(2, ⟨false, 4, [(enc_T_api_Base a0)]⟩)], 35⟩ = some ⟨[(1, (V.int .i64 a1)), (7, (V.sl 1 1 (List.map (V.int .i64) ([] : List Int)))), (18, (V.sl 0 8 (List.map enc_T_api_Type a0.fTypes))), (19, (V.int .i64 (a0.fTypes.length : Int))), (20, (V.int .i64 0))], [], 35⟩ := by
  refine Eq.trans regionE_reg ?_
  refine Eq.trans (reg_adv (m := 2) (j := 2) (st' := ⟨[(1, (V.int .i64 a1)), (2, (V.ptr 2 0 0)), (7, (V.sl 1 1 (List.map (V.int .i64) ([] : List Int)))), (17, (V.ptr 2 0 2)), (18, (V.sl 0 8 (List.map enc_T_api_Type a0.fTypes)))], [(2, ⟨false, 4, [(enc_T_api_Base a0)]⟩)], 35⟩) rfl rfl rfl) ?_
  refine Eq.trans (reg_pure (x := some ()) (w := fun _ => (V.int .i64 (a0.fTypes.length : Int))) rfl rfl rfl rfl (p_len (e := enc_T_api_Type) rfl rfl rfl rfl rfl rfl Go.Proofs.Try.underlying22)) ?_
  refine Eq.trans some_bind ?_
  exact bind_end rfl
theorem dbd_Children_r6 (k : Nat) (a0 : T_api_Base) (a1 : Int) (x7 : (List Int)) (x8 : Int) : regionE prog (evF prog anns ext k) dbd_Children_a6 dbd_Children_o6 false ⟨[(1, (V.int .i64 a1)), (7, (V.sl 1 1 (List.map (V.int .i64) x7))), (18, (V.sl 0 8 (List.map enc_T_api_Type a0.fTypes))), (19, (V.int .i64 (a0.fTypes.length : Int))), (20, (V.int .i64 x8))], [], 35⟩ = some ⟨[(1, (V.int .i64 a1)), (7, (V.sl 1 1 (List.map (V.int .i64) x7))), (18, (V.sl 0 8 (List.map enc_T_api_Type a0.fTypes))), (19, (V.int .i64 (a0.fTypes.length : Int))), (20, (V.int .i64 x8)), (21, (V.bool (decide (x8 < (a0.fTypes.length : Int)))))], [], 35⟩ := by
  refine Eq.trans regionE_reg ?_
  exact reg_end rfl
theorem dbd_Children_r7 (k : Nat) (a0 : T_api_Base) (a1 : Int) (x7 : (List Int)) (x8 : Int) : regionE prog (evF prog anns ext k) dbd_Children_a7 dbd_Children_o7 false ⟨[(1, (V.int .i64 a1)), (7, (V.sl 1 1 (List.map (V.int .i64) x7))), (18, (V.sl 0 8 (List.map enc_T_api_Type a0.fTypes))), (19, (V.int .i64 (a0.fTypes.length : Int))), (20, (V.int .i64 x8)), (21, (V.bool true))], [], 35⟩ = (((idx a0.fTypes x8).bind fun v9 => (some (x8, v9)))).map (fun (o : Int × T_api_Type) => (⟨[(1, (V.int .i64 a1)), (7, (V.sl 1 1 (List.map (V.int .i64) x7))), (8, (V.int .i64 o.1)), (9, (V.ptr 9 0 0)), (18, (V.sl 0 8 (List.map enc_T_api_Type a0.fTypes))), (19, (V.int .i64 (a0.fTypes.length : Int))), (20, (V.int .i64 x8))], [(9, ⟨false, 8, [(enc_T_api_Type o.2)]⟩)], 35⟩ : St)) := by
  refine Eq.trans regionE_reg ?_
  refine Eq.trans (reg_adv (m := 1) (j := 1) (st' := ⟨[(1, (V.int .i64 a1)), (7, (V.sl 1 1 (List.map (V.int .i64) x7))), (18, (V.sl 0 8 (List.map enc_T_api_Type a0.fTypes))), (19, (V.int .i64 (a0.fTypes.length : Int))), (20, (V.int .i64 x8)), (21, (V.bool true)), (22, (V.int .i64 x8))], [], 35⟩) rfl rfl rfl) ?_
  refine Eq.trans (reg_pure (x := (idx a0.fTypes x8)) (w := fun v9 => (V.pro (enc_T_api_Type v9))) rfl rfl rfl rfl (p_index (e := enc_T_api_Type) rfl rfl rfl Go.Proofs.Try.underlying22 rfl (by decide))) ?_
  refine bindE (fun v9 => ?_)
  exact bind_end rfl
theorem dbd_Children_r8 (k : Nat) (a0 : T_api_Base) (a1 : Int) (x7 : (List Int)) (x8 : Int) (o10 : Int × T_api_Type) : regionE prog (evF prog anns ext k) dbd_Children_a8 dbd_Children_o8 false ⟨[(1, (V.int .i64 a1)), (7, (V.sl 1 1 (List.map (V.int .i64) x7))), (8, (V.int .i64 o10.1)), (9, (V.ptr 9 0 0)), (18, (V.sl 0 8 (List.map enc_T_api_Type a0.fTypes))), (19, (V.int .i64 (a0.fTypes.length : Int))), (20, (V.int .i64 x8))], [(9, ⟨false, 8, [(enc_T_api_Type o10.2)]⟩)], 35⟩ = some ⟨[(1, (V.int .i64 a1)), (7, (V.sl 1 1 (List.map (V.int .i64) x7))), (8, (V.int .i64 o10.1)), (18, (V.sl 0 8 (List.map enc_T_api_Type a0.fTypes))), (19, (V.int .i64 (a0.fTypes.length : Int))), (20, (V.int .i64 x8)), (28, (V.bool (o10.2.fParent == a1)))], [], 35⟩ := by
  refine Eq.trans regionE_reg ?_
  exact reg_end rfl
theorem dbd_Children_r9 (k : Nat) (a0 : T_api_Base) (a1 : Int) (x7 : (List Int)) (x8 : Int) (o10 : Int × T_api_Type) : regionE prog (evF prog anns ext k) dbd_Children_a9 dbd_Children_o9 false ⟨[(1, (V.int .i64 a1)), (7, (V.sl 1 1 (List.map (V.int .i64) x7))), (8, (V.int .i64 o10.1)), (18, (V.sl 0 8 (List.map enc_T_api_Type a0.fTypes))), (19, (V.int .i64 (a0.fTypes.length : Int))), (20, (V.int .i64 x8)), (28, (V.bool true))], [], 35⟩ = ((app x7 ([o10.1] : List Int))).map (fun (o : (List Int)) => (⟨[(1, (V.int .i64 a1)), (7, (V.sl 1 1 (List.map (V.int .i64) o))), (18, (V.sl 0 8 (List.map enc_T_api_Type a0.fTypes))), (19, (V.int .i64 (a0.fTypes.length : Int))), (20, (V.int .i64 x8))], [], 35⟩ : St)) := by
  refine Eq.trans regionE_reg ?_
  refine Eq.trans (reg_adv (m := 3) (j := 3) (st' := ⟨[(1, (V.int .i64 a1)), (7, (V.sl 0 1 (List.map (V.int .i64) x7))), (8, (V.int .i64 o10.1)), (18, (V.sl 0 8 (List.map enc_T_api_Type a0.fTypes))), (19, (V.int .i64 (a0.fTypes.length : Int))), (20, (V.int .i64 x8)), (28, (V.bool true)), (29, (V.sl 1 1 (List.map (V.int .i64) x7))), (30, (V.int .i64 o10.1)), (31, (V.sl 0 1 (List.map (V.int .i64) ([o10.1] : List Int))))], [], 35⟩) rfl rfl rfl) ?_
  refine Eq.trans (reg_eff (x := (app x7 ([o10.1] : List Int))) (w := fun v11 => ((V.sl 1 1 (List.map (V.int .i64) v11)), _)) rfl rfl rfl rfl (p_app (e := (V.int .i64)) rfl rfl rfl rfl rfl rfl rfl rfl rfl rfl (by decide))) ?_
  refine bind_self (fun v11 => ?_)
  exact bind_end rfl
theorem dbd_Children_r10 (k : Nat) (a0 : T_api_Base) (a1 : Int) (x8 : Int) (o12 : (List Int)) : regionE prog (evF prog anns ext k) dbd_Children_a10 dbd_Children_o10 false ⟨[(1, (V.int .i64 a1)), (7, (V.sl 1 1 (List.map (V.int .i64) o12))), (18, (V.sl 0 8 (List.map enc_T_api_Type a0.fTypes))), (19, (V.int .i64 (a0.fTypes.length : Int))), (20, (V.int .i64 x8))], [], 35⟩ = some ⟨[(1, (V.int .i64 a1)), (7, (V.sl 1 1 (List.map (V.int .i64) o12))), (18, (V.sl 0 8 (List.map enc_T_api_Type a0.fTypes))), (19, (V.int .i64 (a0.fTypes.length : Int))), (20, (V.int .i64 (Go.IntKind.wrap .i64 (x8 + 1))))], [], 35⟩ := by
  refine Eq.trans regionE_reg ?_
  exact reg_end rfl
theorem dbd_Children_r10' (k : Nat) (a0 : T_api_Base) (a1 : Int) (x7 : (List Int)) (x8 : Int) (o10 : Int × T_api_Type) : regionE prog (evF prog anns ext k) dbd_Children_a10 dbd_Children_o10 false ⟨[(1, (V.int .i64 a1)), (7, (V.sl 1 1 (List.map (V.int .i64) x7))), (8, (V.int .i64 o10.1)), (18, (V.sl 0 8 (List.map enc_T_api_Type a0.fTypes))), (19, (V.int .i64 (a0.fTypes.length : Int))), (20, (V.int .i64 x8)), (28, (V.bool false))], [], 35⟩ = some ⟨[(1, (V.int .i64 a1)), (7, (V.sl 1 1 (List.map (V.int .i64) x7))), (18, (V.sl 0 8 (List.map enc_T_api_Type a0.fTypes))), (19, (V.int .i64 (a0.fTypes.length : Int))), (20, (V.int .i64 (Go.IntKind.wrap .i64 (x8 + 1))))], [], 35⟩ := by
  refine Eq.trans regionE_reg ?_
  exact reg_end rfl
theorem dbd_Children_L1_ok (k : Nat) (a0 : T_api_Base) (a1 : Int)  (K0 : (List Int) → Int → Option ((List Int) × Int)) (Kst : X × St → Option (V × List V)) (hK0 : ∀ (y0 : (List Int)) (y1 : Int), Kst (X.exit 0, ⟨[(1, (V.int .i64 a1)), (7, (V.sl 1 1 (List.map (V.int .i64) y0))), (18, (V.sl 0 8 (List.map enc_T_api_Type a0.fTypes))), (19, (V.int .i64 (a0.fTypes.length : Int))), (20, (V.int .i64 y1)), (21, (V.bool false))], [], 35⟩) = (K0 y0 y1).map dbd_Children_fin) (hret : ∀ s, Kst (X.ret, s) = endK prog 35 [(enc_T_api_Base a0), (V.int .i64 a1)] [] [.tmp 4, .tmp 5] (X.ret, s)) :
    ∀ (m : Nat) (x7 : (List Int)) (x8 : Int), (iter (exec prog (evF prog anns ext k) dbd_Children_an k dbd_Children_b0) m ⟨[(1, (V.int .i64 a1)), (7, (V.sl 1 1 (List.map (V.int .i64) x7))), (18, (V.sl 0 8 (List.map enc_T_api_Type a0.fTypes))), (19, (V.int .i64 (a0.fTypes.length : Int))), (20, (V.int .i64 x8))], [], 35⟩).bind Kst = (dbd_Children_L1 a0 a1 K0 m x7 x8).map dbd_Children_fin := by
  intro m
  induction m with
  | zero => intros; rfl
  | succ m ih =>
    intro x7 x8
    unfold dbd_Children_L1
    refine Eq.trans k_round ?_
    refine Eq.trans (k_region0 rfl (dbd_Children_r6 k a0 a1 x7 x8)) ?_
    refine Eq.trans (k_cond (t := (decide (x8 < (a0.fTypes.length : Int)))) rfl) ?_
    refine bifE2 (fun hc => ?_) (fun hc => ?_)
    · rw [hc]
      refine Eq.trans k_skip ?_
      refine Eq.trans k_block ?_
      refine Eq.trans (k_region rfl (dbd_Children_r7 k a0 a1 x7 x8)) ?_
      refine bindE (fun o10 => ?_)
      refine Eq.trans (k_region0 rfl (dbd_Children_r8 k a0 a1 x7 x8 o10)) ?_
      refine Eq.trans (k_lcond (t := (o10.2.fParent == a1)) rfl) ?_
      refine bifE2 (fun hc => ?_) (fun hc => ?_)
      · rw [hc]
        refine Eq.trans (k_lregion rfl (dbd_Children_r9 k a0 a1 x7 x8 o10)) ?_
        refine bindE (fun o12 => ?_)
        refine Eq.trans blk_normal ?_
        refine Eq.trans (k_lregion0 rfl (dbd_Children_r10 k a0 a1 x8 o12)) ?_
        refine Eq.trans loop_normal ?_
        exact ih o12 (Go.IntKind.wrap .i64 (x8 + 1))
      · rw [hc]
        refine Eq.trans k_lskip ?_
        refine Eq.trans blk_normal ?_
        refine Eq.trans (k_lregion0 rfl (dbd_Children_r10' k a0 a1 x7 x8 o10)) ?_
        refine Eq.trans loop_normal ?_
        exact ih x7 (Go.IntKind.wrap .i64 (x8 + 1))
    · rw [hc]
      refine Eq.trans k_exit ?_
      refine Eq.trans loop_exit ?_
      exact hK0 x7 x8
theorem dbd_Children_r11 (k : Nat) (a0 : T_api_Base) (a1 : Int) (y13 : (List Int)) (y14 : Int) : regionE prog (evF prog anns ext k) dbd_Children_a11 dbd_Children_o11 false ⟨[(1, (V.int .i64 a1)), (7, (V.sl 1 1 (List.map (V.int .i64) y13))), (18, (V.sl 0 8 (List.map enc_T_api_Type a0.fTypes))), (19, (V.int .i64 (a0.fTypes.length : Int))), (20, (V.int .i64 y14)), (21, (V.bool false))], [], 35⟩ = some ⟨[(4, (V.sl 0 1 (List.map (V.int .i64) y13))), (5, (V.int .i64 0))], [], 35⟩ := by
  refine Eq.trans regionE_reg ?_
  exact reg_end rfl
theorem dbd_Children_ok (k : Nat) (a0 : T_api_Base) (a1 : Int) : evF prog anns ext k 16 [(enc_T_api_Base a0), (V.int .i64 a1)] = (dbd_Children k a0 a1).map dbd_Children_fin := by
  cases k with
  | zero => rfl
  | succ k =>
    unfold dbd_Children
    refine Eq.trans (evF_succ (c := dbd_Children_c) (N := 35) (regs := dbd_Children_an) rfl Go.Proofs.Try.func16 rfl (by decide) rfl rfl rfl) ?_
    refine Eq.trans (k_region0 rfl (dbd_Children_r0 k a0 a1)) ?_
    refine Eq.trans k_assoc ?_
    refine Eq.trans (k_region rfl (dbd_Children_r1 k a0 a1)) ?_
    refine bindE (fun o2 => ?_)
    refine Eq.trans k_assoc ?_
    refine Eq.trans (k_region0 rfl (dbd_Children_r2 k a0 a1 o2)) ?_
    refine Eq.trans (k_cond (t := (o2 != 0)) rfl) ?_
    refine bifE2 (fun hc => ?_) (fun hc => ?_)
    · rw [hc]
      refine Eq.trans k_assoc ?_
      refine Eq.trans (k_region0 rfl (dbd_Children_r3 k a0 a1 o2)) ?_
      refine Eq.trans k_ret ?_
      rfl
    · rw [hc]
      refine Eq.trans k_skip ?_
      refine Eq.trans (k_region0 rfl (dbd_Children_r4 k a0 a1 o2)) ?_
      refine Eq.trans k_assoc ?_
      refine Eq.trans (k_region0 rfl (dbd_Children_r5 k a0 a1)) ?_
      refine Eq.trans k_block ?_
      refine Eq.trans k_loop ?_
      refine dbd_Children_L1_ok k a0 a1 _ _ ?h_dbd_Children_L1_0 ?hr_dbd_Children_L1 k ([] : List Int) 0
      · intro y13 y14
        refine Eq.trans blk_exit ?_
        refine Eq.trans (k_region0 rfl (dbd_Children_r11 k a0 a1 y13 y14)) ?_
        refine Eq.trans k_lret ?_
        rfl
      · intro s; exact rfl
def ref01_SameInts_fin : Bool → V × List V := fun r => ((V.bool r), [])
theorem ref01_SameInts_r0 (k : Nat) (a0 : (List Int)) (a1 : (List Int)) : regionE prog (evF prog anns ext k) ref01_SameInts_a0 ref01_SameInts_o0 false ⟨[(0, (V.sl 0 1 (List.map (V.int .i64) a0))), (1, (V.sl 0 1 (List.map (V.int .i64) a1)))], [], 26⟩ = some ⟨[(0, (V.sl 0 1 (List.map (V.int .i64) a0))), (1, (V.sl 0 1 (List.map (V.int .i64) a1)))], [], 26⟩ := by
  refine Eq.trans regionE_reg ?_
  exact reg_end rfl
theorem ref01_SameInts_r1 (k : Nat) (a0 : (List Int)) (a1 : (List Int)) : regionE prog (evF prog anns ext k) ref01_SameInts_a1 ref01_SameInts_o1 false ⟨[(0, (V.sl 0 1 (List.map (V.int .i64) a0))), (1, (V.sl 0 1 (List.map (V.int .i64) a1)))], [], 26⟩ = some ⟨[(0, (V.sl 0 1 (List.map (V.int .i64) a0))), (1, (V.sl 0 1 (List.map (V.int .i64) a1))), (10, (V.bool ((a0.length : Int) != (a1.length : Int))))], [], 26⟩ := by
  refine Eq.trans regionE_reg ?_
  refine Eq.trans (reg_adv (m := 1) (j := 1) (st' := ⟨[(0, (V.sl 0 1 (List.map (V.int .i64) a0))), (1, (V.sl 0 1 (List.map (V.int .i64) a1))), (6, (V.sl 0 1 (List.map (V.int .i64) a0)))], [], 26⟩) rfl rfl rfl) ?_
  refine Eq.trans (reg_pure (x := some ()) (w := fun _ => (V.int .i64 (a0.length : Int))) rfl rfl rfl rfl (p_len (e := (V.int .i64)) rfl rfl rfl rfl rfl rfl Go.Proofs.Try.underlying28)) ?_
  refine Eq.trans some_bind ?_
  refine Eq.trans (bind_adv (m := 1) (j := 3) (st' := ⟨[(0, (V.sl 0 1 (List.map (V.int .i64) a0))), (1, (V.sl 0 1 (List.map (V.int .i64) a1))), (6, (V.sl 0 1 (List.map (V.int .i64) a0))), (7, (V.int .i64 (a0.length : Int))), (8, (V.sl 0 1 (List.map (V.int .i64) a1)))], [], 26⟩) rfl rfl rfl) ?_
  refine Eq.trans (reg_pure (x := some ()) (w := fun _ => (V.int .i64 (a1.length : Int))) rfl rfl rfl rfl (p_len (e := (V.int .i64)) rfl rfl rfl rfl rfl rfl Go.Proofs.Try.underlying28)) ?_
  refine Eq.trans some_bind ?_
  exact bind_end rfl
theorem ref01_SameInts_r2 (k : Nat) (a0 : (List Int)) (a1 : (List Int)) : regionE prog (evF prog anns ext k) ref01_SameInts_a2 ref01_SameInts_o2 false ⟨[(0, (V.sl 0 1 (List.map (V.int .i64) a0))), (1, (V.sl 0 1 (List.map (V.int .i64) a1))), (10, (V.bool true))], [], 26⟩ = some ⟨[(4, (V.bool false))], [], 26⟩ := by
  refine Eq.trans regionE_reg ?_
  exact reg_end rfl
theorem ref01_SameInts_r3 (k : Nat) (a0 : (List Int)) (a1 : (List Int)) : regionE prog (evF prog anns ext k) ref01_SameInts_a3 ref01_SameInts_o3 false ⟨[(0, (V.sl 0 1 (List.map (V.int .i64) a0))), (1, (V.sl 0 1 (List.map (V.int .i64) a1))), (10, (V.bool false))], [], 26⟩ = some ⟨[(0, (V.sl 0 1 (List.map (V.int .i64) a0))), (1, (V.sl 0 1 (List.map (V.int .i64) a1))), (5, (V.int .i64 0))], [], 26⟩ := by
  refine Eq.trans regionE_reg ?_
  exact reg_end rfl
theorem ref01_SameInts_r4 (k : Nat) (a0 : (List Int)) (a1 : (List Int)) (x4 : Int) : regionE prog (evF prog anns ext k) ref01_SameInts_a4 ref01_SameInts_o4 false ⟨[(0, (V.sl 0 1 (List.map (V.int .i64) a0))), (1, (V.sl 0 1 (List.map (V.int .i64) a1))), (5, (V.int .i64 x4))], [], 26⟩ = some ⟨[(0, (V.sl 0 1 (List.map (V.int .i64) a0))), (1, (V.sl 0 1 (List.map (V.int .i64) a1))), (5, (V.int .i64 x4)), (14, (V.bool (decide (x4 < (a0.length : Int)))))], [], 26⟩ := by
  refine Eq.trans regionE_reg ?_
  refine Eq.trans (reg_adv (m := 2) (j := 2) (st' := ⟨[(0, (V.sl 0 1 (List.map (V.int .i64) a0))), (1, (V.sl 0 1 (List.map (V.int .i64) a1))), (5, (V.int .i64 x4)), (11, (V.int .i64 x4)), (12, (V.sl 0 1 (List.map (V.int .i64) a0)))], [], 26⟩) rfl rfl rfl) ?_
  refine Eq.trans (reg_pure (x := some ()) (w := fun _ => (V.int .i64 (a0.length : Int))) rfl rfl rfl rfl (p_len (e := (V.int .i64)) rfl rfl rfl rfl rfl rfl Go.Proofs.Try.underlying28)) ?_
  refine Eq.trans some_bind ?_
  exact bind_end rfl
theorem ref01_SameInts_r6 (k : Nat) (a0 : (List Int)) (a1 : (List Int)) (x4 : Int) : regionE prog (evF prog anns ext k) ref01_SameInts_a6 ref01_SameInts_o6 true ⟨[(0, (V.sl 0 1 (List.map (V.int .i64) a0))), (1, (V.sl 0 1 (List.map (V.int .i64) a1))), (5, (V.int .i64 x4)), (14, (V.bool true))], [], 26⟩ = (((idx a0 x4).bind fun v5 => ((idx a1 x4).bind fun v6 => (some ((v5 != v6)))))).map (fun (o : Bool) => (⟨[(0, (V.sl 0 1 (List.map (V.int .i64) a0))), (1, (V.sl 0 1 (List.map (V.int .i64) a1))), (5, (V.int .i64 x4)), (25, (V.bool o))], [], 26⟩ : St)) := by
  refine Eq.trans (regionE_regp (p := 9) (t := [(0, (V.sl 0 1 (List.map (V.int .i64) a0))), (1, (V.sl 0 1 (List.map (V.int .i64) a1))), (5, (V.int .i64 x4)), (14, (V.bool true))]) (σ := []) (n := 26) (by decide) (by decide) rfl) ?_
  refine Eq.trans (regp_adv (m := 2) (j := 2) (t' := [(0, (V.sl 0 1 (List.map (V.int .i64) a0))), (1, (V.sl 0 1 (List.map (V.int .i64) a1))), (5, (V.int .i64 x4)), (14, (V.bool true)), (17, (V.sl 0 1 (List.map (V.int .i64) a0))), (18, (V.int .i64 x4))]) rfl rfl rfl) ?_
  refine Eq.trans (regp_pure (x := (idx a0 x4)) (w := fun v5 => (V.pro (V.int .i64 v5))) rfl rfl rfl rfl rfl (p_index (e := (V.int .i64)) rfl rfl rfl Go.Proofs.Try.underlying28 rfl (by decide))) ?_
  refine bindE (fun v5 => ?_)
  refine Eq.trans (putp_adv (m := 3) (j := 6) (t' := [(0, (V.sl 0 1 (List.map (V.int .i64) a0))), (1, (V.sl 0 1 (List.map (V.int .i64) a1))), (5, (V.int .i64 x4)), (14, (V.bool true)), (17, (V.sl 0 1 (List.map (V.int .i64) a0))), (18, (V.int .i64 x4)), (19, (V.pro (V.int .i64 v5))), (20, (V.int .i64 v5)), (21, (V.sl 0 1 (List.map (V.int .i64) a1))), (22, (V.int .i64 x4))]) rfl rfl rfl) ?_
  refine Eq.trans (regp_pure (x := (idx a1 x4)) (w := fun v6 => (V.pro (V.int .i64 v6))) rfl rfl rfl rfl rfl (p_index (e := (V.int .i64)) rfl rfl rfl Go.Proofs.Try.underlying28 rfl (by decide))) ?_
  refine bindE (fun v6 => ?_)
  exact regp_end rfl
theorem ref01_SameInts_r7 (k : Nat) (a0 : (List Int)) (a1 : (List Int)) (x4 : Int) : regionE prog (evF prog anns ext k) ref01_SameInts_a7 ref01_SameInts_o7 false ⟨[(0, (V.sl 0 1 (List.map (V.int .i64) a0))), (1, (V.sl 0 1 (List.map (V.int .i64) a1))), (5, (V.int .i64 x4)), (25, (V.bool true))], [], 26⟩ = some ⟨[(4, (V.bool false))], [], 26⟩ := by
  refine Eq.trans regionE_reg ?_
  exact reg_end rfl
theorem ref01_SameInts_r5 (k : Nat) (a0 : (List Int)) (a1 : (List Int)) (x4 : Int) : regionE prog (evF prog anns ext k) ref01_SameInts_a5 ref01_SameInts_o5 false ⟨[(0, (V.sl 0 1 (List.map (V.int .i64) a0))), (1, (V.sl 0 1 (List.map (V.int .i64) a1))), (5, (V.int .i64 x4)), (25, (V.bool false))], [], 26⟩ = some ⟨[(0, (V.sl 0 1 (List.map (V.int .i64) a0))), (1, (V.sl 0 1 (List.map (V.int .i64) a1))), (5, (V.int .i64 (Go.IntKind.wrap .i64 (x4 + 1))))], [], 26⟩ := by
  refine Eq.trans regionE_reg ?_
  exact reg_end rfl
theorem ref01_SameInts_L1_ok (k : Nat) (a0 : (List Int)) (a1 : (List Int))  (K0 : Int → Option Bool) (Kst : X × St → Option (V × List V)) (hK0 : ∀ (y0 : Int), Kst (X.exit 0, ⟨[(0, (V.sl 0 1 (List.map (V.int .i64) a0))), (1, (V.sl 0 1 (List.map (V.int .i64) a1))), (5, (V.int .i64 y0)), (14, (V.bool false))], [], 26⟩) = (K0 y0).map ref01_SameInts_fin) (hret : ∀ s, Kst (X.ret, s) = endK prog 26 [(V.sl 0 1 (List.map (V.int .i64) a0)), (V.sl 0 1 (List.map (V.int .i64) a1))] [] [.tmp 4] (X.ret, s)) :
    ∀ (m : Nat) (x4 : Int), (iter (exec prog (evF prog anns ext k) ref01_SameInts_an k ref01_SameInts_b0) m ⟨[(0, (V.sl 0 1 (List.map (V.int .i64) a0))), (1, (V.sl 0 1 (List.map (V.int .i64) a1))), (5, (V.int .i64 x4))], [], 26⟩).bind Kst = (ref01_SameInts_L1 a0 a1 K0 m x4).map ref01_SameInts_fin := by
  intro m
  induction m with
  | zero => intros; rfl
  | succ m ih =>
    intro x4
    unfold ref01_SameInts_L1
    refine Eq.trans k_round ?_
    refine Eq.trans k_assoc ?_
    refine Eq.trans (k_region0 rfl (ref01_SameInts_r4 k a0 a1 x4)) ?_
    refine Eq.trans (k_cond (t := (decide (x4 < (a0.length : Int)))) rfl) ?_
    refine bifE2 (fun hc => ?_) (fun hc => ?_)
    · rw [hc]
      refine Eq.trans k_skip ?_
      refine Eq.trans k_block ?_
      refine Eq.trans (k_region rfl (ref01_SameInts_r6 k a0 a1 x4)) ?_
      refine bindE (fun o7 => ?_)
      refine Eq.trans (k_lcond (t := o7) rfl) ?_
      refine bifE2 (fun hc => ?_) (fun hc => ?_)
      · rw [hc]
        refine Eq.trans (k_region0 rfl (ref01_SameInts_r7 k a0 a1 x4)) ?_
        refine Eq.trans k_lret ?_
        refine Eq.trans blk_ret ?_
        refine Eq.trans loop_ret ?_
        refine Eq.trans (hret _) ?_
        rfl
      · rw [hc]
        refine Eq.trans k_lskip ?_
        refine Eq.trans blk_normal ?_
        refine Eq.trans (k_lregion0 rfl (ref01_SameInts_r5 k a0 a1 x4)) ?_
        refine Eq.trans loop_normal ?_
        exact ih (Go.IntKind.wrap .i64 (x4 + 1))
    · rw [hc]
      refine Eq.trans k_exit ?_
      refine Eq.trans loop_exit ?_
      exact hK0 x4
theorem ref01_SameInts_r8 (k : Nat) (a0 : (List Int)) (a1 : (List Int)) (y8 : Int) : regionE prog (evF prog anns ext k) ref01_SameInts_a8 ref01_SameInts_o8 false ⟨[(0, (V.sl 0 1 (List.map (V.int .i64) a0))), (1, (V.sl 0 1 (List.map (V.int .i64) a1))), (5, (V.int .i64 y8)), (14, (V.bool false))], [], 26⟩ = some ⟨[(4, (V.bool true))], [], 26⟩ := by
  refine Eq.trans regionE_reg ?_
  exact reg_end rfl
theorem ref01_SameInts_ok (k : Nat) (a0 : (List Int)) (a1 : (List Int)) : evF prog anns ext k 13 [(V.sl 0 1 (List.map (V.int .i64) a0)), (V.sl 0 1 (List.map (V.int .i64) a1))] = (ref01_SameInts k a0 a1).map ref01_SameInts_fin := by
  cases k with
  | zero => rfl
  | succ k =>
    unfold ref01_SameInts
    refine Eq.trans (evF_succ (c := ref01_SameInts_c) (N := 26) (regs := ref01_SameInts_an) rfl Go.Proofs.Try.func13 rfl (by decide) rfl rfl rfl) ?_
    refine Eq.trans (k_region0 rfl (ref01_SameInts_r0 k a0 a1)) ?_
    refine Eq.trans k_assoc ?_
    refine Eq.trans (k_region0 rfl (ref01_SameInts_r1 k a0 a1)) ?_
    refine Eq.trans (k_cond (t := ((a0.length : Int) != (a1.length : Int))) rfl) ?_
    refine bifE2 (fun hc => ?_) (fun hc => ?_)
    · rw [hc]
      refine Eq.trans k_assoc ?_
      refine Eq.trans (k_region0 rfl (ref01_SameInts_r2 k a0 a1)) ?_
      refine Eq.trans k_ret ?_
      rfl
    · rw [hc]
      refine Eq.trans k_skip ?_
      refine Eq.trans k_assoc ?_
      refine Eq.trans (k_region0 rfl (ref01_SameInts_r3 k a0 a1)) ?_
      refine Eq.trans k_block ?_
      refine Eq.trans k_loop ?_
      refine ref01_SameInts_L1_ok k a0 a1 _ _ ?h_ref01_SameInts_L1_0 ?hr_ref01_SameInts_L1 k 0
      · intro y8
        refine Eq.trans blk_exit ?_
        refine Eq.trans (k_region0 rfl (ref01_SameInts_r8 k a0 a1 y8)) ?_
        refine Eq.trans k_lret ?_
        rfl
      · intro s; exact rfl
def law11_First_fin : Bool → V × List V := fun r => ((V.bool r), [])
theorem law11_First_r0 (k : Nat)  : regionE prog (evF prog anns ext k) law11_First_a0 law11_First_o0 false ⟨[], [], 31⟩ = some ⟨[], [], 31⟩ := by
  refine Eq.trans regionE_reg ?_
  exact reg_end rfl
theorem law11_First_r1 (k : Nat)  : regionE prog (evF prog anns ext k) law11_First_a1 law11_First_o1 false ⟨[], [], 31⟩ = (((law11_shop k).bind fun v1 => ((dbd_Way k v1 2).bind fun v2 => (some (v2.1, v2.2))))).map (fun (o : (List Int) × Int) => (⟨[(1, (V.sl 0 1 (List.map (V.int .i64) o.1))), (2, (V.int .i64 o.2))], [], 31⟩ : St)) := by
  refine Eq.trans regionE_reg ?_
  refine Eq.trans (reg_pure (x := (law11_shop k)) (w := fun v1 => (enc_T_api_Base v1)) rfl rfl rfl rfl (p_call rfl rfl rfl rfl rfl (law11_shop_ok k) (.inl rfl))) ?_
  refine bindE (fun v1 => ?_)
  refine Eq.trans (bind_adv (m := 0) (j := 1) (st' := ⟨[(6, (enc_T_api_Base v1))], [], 31⟩) rfl rfl rfl) ?_
  refine Eq.trans (reg_pure (x := (dbd_Way k v1 2)) (w := fun v2 => (V.tup [(V.sl 0 1 (List.map (V.int .i64) v2.1)), (V.int .i64 v2.2)])) rfl rfl rfl rfl (p_call rfl rfl rfl rfl rfl (dbd_Way_ok k v1 2) (.inl rfl))) ?_
  refine bindE (fun v2 => ?_)
  exact bind_end rfl
theorem law11_First_r2 (k : Nat) (o3 : (List Int) × Int) : regionE prog (evF prog anns ext k) law11_First_a2 law11_First_o2 false ⟨[(1, (V.sl 0 1 (List.map (V.int .i64) o3.1))), (2, (V.int .i64 o3.2))], [], 31⟩ = (((law11_shop k).bind fun v4 => ((dbd_Children k v4 0).bind fun v5 => (some (v5.1, v5.2))))).map (fun (o : (List Int) × Int) => (⟨[(1, (V.sl 0 1 (List.map (V.int .i64) o3.1))), (2, (V.int .i64 o3.2)), (3, (V.sl 0 1 (List.map (V.int .i64) o.1))), (4, (V.int .i64 o.2))], [], 31⟩ : St)) := by
  refine Eq.trans regionE_reg ?_
  refine Eq.trans (reg_pure (x := (law11_shop k)) (w := fun v4 => (enc_T_api_Base v4)) rfl rfl rfl rfl (p_call rfl rfl rfl rfl rfl (law11_shop_ok k) (.inl rfl))) ?_
  refine bindE (fun v4 => ?_)
  refine Eq.trans (bind_adv (m := 0) (j := 1) (st' := ⟨[(1, (V.sl 0 1 (List.map (V.int .i64) o3.1))), (2, (V.int .i64 o3.2)), (11, (enc_T_api_Base v4))], [], 31⟩) rfl rfl rfl) ?_
  refine Eq.trans (reg_pure (x := (dbd_Children k v4 0)) (w := fun v5 => (V.tup [(V.sl 0 1 (List.map (V.int .i64) v5.1)), (V.int .i64 v5.2)])) rfl rfl rfl rfl (p_call rfl rfl rfl rfl rfl (dbd_Children_ok k v4 0) (.inl rfl))) ?_
  refine bindE (fun v5 => ?_)
  exact bind_end rfl
theorem law11_First_r3 (k : Nat) (o3 : (List Int) × Int) (o6 : (List Int) × Int) : regionE prog (evF prog anns ext k) law11_First_a3 law11_First_o3 false ⟨[(1, (V.sl 0 1 (List.map (V.int .i64) o3.1))), (2, (V.int .i64 o3.2)), (3, (V.sl 0 1 (List.map (V.int .i64) o6.1))), (4, (V.int .i64 o6.2))], [], 31⟩ = ((bif (o3.2 == 0) then (bif (o6.2 == 0) then ((ref01_SameInts k o3.1 ([0, 1, 2] : List Int)).bind fun v7 => (bif v7 then (ref01_SameInts k o6.1 ([1, 3] : List Int)) else (some (false)))) else (some (false))) else (some (false)))).map (fun (o : Bool) => (⟨[(0, (V.bool o))], [], 31⟩ : St)) := by
  refine Eq.trans regionE_reg ?_
  refine Eq.trans (reg_adv (m := 3) (j := 3) (st' := ⟨[(1, (V.sl 0 1 (List.map (V.int .i64) o3.1))), (2, (V.int .i64 o3.2)), (3, (V.sl 0 1 (List.map (V.int .i64) o6.1))), (4, (V.int .i64 o6.2)), (15, (V.int .i64 o3.2)), (16, (V.bool (o3.2 == 0))), (17, (V.bool (o3.2 == 0)))], [], 31⟩) rfl rfl rfl) ?_
  refine bifE (c := (o3.2 == 0)) (fun hc => ?_) (fun hc => ?_)
  · rw [hc]
    refine Eq.trans (reg_adv (m := 4) (j := 7) (st' := ⟨[(1, (V.sl 0 1 (List.map (V.int .i64) o3.1))), (2, (V.int .i64 o3.2)), (3, (V.sl 0 1 (List.map (V.int .i64) o6.1))), (4, (V.int .i64 o6.2)), (15, (V.int .i64 o3.2)), (16, (V.bool true)), (17, (V.bool true)), (18, (V.int .i64 o6.2)), (19, (V.bool (o6.2 == 0))), (20, (V.bool (o6.2 == 0))), (21, (V.bool (o6.2 == 0)))], [], 31⟩) rfl rfl rfl) ?_
    refine bifE (c := (o6.2 == 0)) (fun hc => ?_) (fun hc => ?_)
    · rw [hc]
      refine Eq.trans (reg_adv (m := 2) (j := 9) (st' := ⟨[(1, (V.sl 0 1 (List.map (V.int .i64) o3.1))), (2, (V.int .i64 o3.2)), (3, (V.sl 0 1 (List.map (V.int .i64) o6.1))), (4, (V.int .i64 o6.2)), (15, (V.int .i64 o3.2)), (16, (V.bool true)), (17, (V.bool true)), (18, (V.int .i64 o6.2)), (19, (V.bool true)), (20, (V.bool true)), (21, (V.bool true)), (22, (V.sl 0 1 (List.map (V.int .i64) o3.1))), (23, (V.sl 0 1 (List.map (V.int .i64) ([0, 1, 2] : List Int))))], [], 31⟩) rfl rfl rfl) ?_
      refine Eq.trans (reg_pure (x := (ref01_SameInts k o3.1 ([0, 1, 2] : List Int))) (w := fun v7 => (V.bool v7)) rfl rfl rfl rfl (p_call rfl rfl rfl rfl rfl (ref01_SameInts_ok k o3.1 ([0, 1, 2] : List Int)) (.inl rfl))) ?_
      refine bindE (fun v7 => ?_)
      refine Eq.trans (bind_adv (m := 2) (j := 12) (st' := ⟨[(1, (V.sl 0 1 (List.map (V.int .i64) o3.1))), (2, (V.int .i64 o3.2)), (3, (V.sl 0 1 (List.map (V.int .i64) o6.1))), (4, (V.int .i64 o6.2)), (15, (V.int .i64 o3.2)), (16, (V.bool true)), (17, (V.bool true)), (18, (V.int .i64 o6.2)), (19, (V.bool true)), (20, (V.bool true)), (21, (V.bool true)), (22, (V.sl 0 1 (List.map (V.int .i64) o3.1))), (23, (V.sl 0 1 (List.map (V.int .i64) ([0, 1, 2] : List Int)))), (24, (V.bool v7)), (25, (V.bool v7)), (26, (V.bool v7))], [], 31⟩) rfl rfl rfl) ?_
      refine bifE (c := v7) (fun hc => ?_) (fun hc => ?_)
      · rw [hc]
        refine Eq.trans (reg_adv (m := 2) (j := 14) (st' := ⟨[(1, (V.sl 0 1 (List.map (V.int .i64) o3.1))), (2, (V.int .i64 o3.2)), (3, (V.sl 0 1 (List.map (V.int .i64) o6.1))), (4, (V.int .i64 o6.2)), (15, (V.int .i64 o3.2)), (16, (V.bool true)), (17, (V.bool true)), (18, (V.int .i64 o6.2)), (19, (V.bool true)), (20, (V.bool true)), (21, (V.bool true)), (22, (V.sl 0 1 (List.map (V.int .i64) o3.1))), (23, (V.sl 0 1 (List.map (V.int .i64) ([0, 1, 2] : List Int)))), (24, (V.bool true)), (25, (V.bool true)), (26, (V.bool true)), (27, (V.sl 0 1 (List.map (V.int .i64) o6.1))), (28, (V.sl 0 1 (List.map (V.int .i64) ([1, 3] : List Int))))], [], 31⟩) rfl rfl rfl) ?_
        refine Eq.trans (reg_pure (x := (ref01_SameInts k o6.1 ([1, 3] : List Int))) (w := fun v8 => (V.bool v8)) rfl rfl rfl rfl (p_call rfl rfl rfl rfl rfl (ref01_SameInts_ok k o6.1 ([1, 3] : List Int)) (.inl rfl))) ?_
        refine bind_self (fun v8 => ?_)
        exact bind_end rfl
      · rw [hc]
        exact reg_end rfl
    · rw [hc]
      exact reg_end rfl
  · rw [hc]
    exact reg_end rfl
theorem law11_First_ok (k : Nat)  : evF prog anns ext k 10 [] = (law11_First k).map law11_First_fin := by
  cases k with
  | zero => rfl
  | succ k =>
    unfold law11_First
    refine Eq.trans (evF_succ (c := law11_First_c) (N := 31) (regs := law11_First_an) rfl Go.Proofs.Try.func10 rfl (by decide) rfl rfl rfl) ?_
    refine Eq.trans (k_region0 rfl (law11_First_r0 k)) ?_
    refine Eq.trans (k_region rfl (law11_First_r1 k)) ?_
    refine bindE (fun o3 => ?_)
    refine Eq.trans (k_region rfl (law11_First_r2 k o3)) ?_
    refine bindE (fun o6 => ?_)
    refine Eq.trans (k_region rfl (law11_First_r3 k o3 o6)) ?_
    refine bindE (fun o9 => ?_)
    refine Eq.trans k_lret ?_
    rfl
def ref11_IsName_fin : Bool → V × List V := fun r => ((V.bool r), [])
theorem ref11_IsName_r0 (k : Nat) (a0 : Str) : regionE prog (evF prog anns ext k) ref11_IsName_a0 ref11_IsName_o0 false ⟨[(0, (V.str a0))], [], 47⟩ = some ⟨[(0, (V.str a0))], [], 47⟩ := by
  refine Eq.trans regionE_reg ?_
  exact reg_end rfl
theorem ref11_IsName_r1 (k : Nat) (a0 : Str) : regionE prog (evF prog anns ext k) ref11_IsName_a1 ref11_IsName_o1 false ⟨[(0, (V.str a0))], [], 47⟩ = some ⟨[(0, (V.str a0)), (3, (V.int .i64 0))], [], 47⟩ := by
  refine Eq.trans regionE_reg ?_
  exact reg_end rfl
theorem ref11_IsName_r2 (k : Nat) (a0 : Str) (x7 : Int) : regionE prog (evF prog anns ext k) ref11_IsName_a2 ref11_IsName_o2 false ⟨[(0, (V.str a0)), (3, (V.int .i64 x7))], [], 47⟩ = some ⟨[(0, (V.str a0)), (3, (V.int .i64 x7)), (8, (V.bool (decide (x7 < (a0.length : Int)))))], [], 47⟩ := by
  refine Eq.trans regionE_reg ?_
  exact reg_end rfl
theorem ref11_IsName_r4 (k : Nat) (a0 : Str) (x7 : Int) : regionE prog (evF prog anns ext k) ref11_IsName_a4 ref11_IsName_o4 false ⟨[(0, (V.str a0)), (3, (V.int .i64 x7)), (8, (V.bool true))], [], 47⟩ = (((idxS a0 x7).bind fun v8 => (bif (decide (v8 ≥ 65)) then ((idxS a0 x7).bind fun v9 => (some ((decide (v9 ≤ 90))))) else (some (false))))).map (fun (o : Bool) => (⟨[(0, (V.str a0)), (3, (V.int .i64 x7)), (4, (V.bool o))], [], 47⟩ : St)) := by
  refine Eq.trans regionE_reg ?_
  refine Eq.trans (reg_adv (m := 2) (j := 2) (st' := ⟨[(0, (V.str a0)), (3, (V.int .i64 x7)), (8, (V.bool true)), (11, (V.str a0)), (12, (V.int .i64 x7))], [], 47⟩) rfl rfl rfl) ?_
  refine Eq.trans (reg_pure (x := (idxS a0 x7)) (w := fun v8 => (V.int .u8 v8)) rfl rfl rfl rfl (p_indexS rfl rfl rfl Go.Proofs.Try.underlying9)) ?_
  refine bindE (fun v8 => ?_)
  refine Eq.trans (bind_adv (m := 2) (j := 5) (st' := ⟨[(0, (V.str a0)), (3, (V.int .i64 x7)), (8, (V.bool true)), (11, (V.str a0)), (12, (V.int .i64 x7)), (13, (V.int .u8 v8)), (14, (V.bool (decide (v8 ≥ 65)))), (15, (V.bool (decide (v8 ≥ 65))))], [], 47⟩) rfl rfl rfl) ?_
  refine bifE (c := (decide (v8 ≥ 65))) (fun hc => ?_) (fun hc => ?_)
  · rw [hc]
    refine Eq.trans (reg_adv (m := 2) (j := 7) (st' := ⟨[(0, (V.str a0)), (3, (V.int .i64 x7)), (8, (V.bool true)), (11, (V.str a0)), (12, (V.int .i64 x7)), (13, (V.int .u8 v8)), (14, (V.bool true)), (15, (V.bool true)), (16, (V.str a0)), (17, (V.int .i64 x7))], [], 47⟩) rfl rfl rfl) ?_
    refine Eq.trans (reg_pure (x := (idxS a0 x7)) (w := fun v9 => (V.int .u8 v9)) rfl rfl rfl rfl (p_indexS rfl rfl rfl Go.Proofs.Try.underlying9)) ?_
    refine bindE (fun v9 => ?_)
    exact bind_end rfl
  · rw [hc]
    exact reg_end rfl
theorem ref11_IsName_r5 (k : Nat) (a0 : Str) (x7 : Int) (o10 : Bool) : regionE prog (evF prog anns ext k) ref11_IsName_a5 ref11_IsName_o5 false ⟨[(0, (V.str a0)), (3, (V.int .i64 x7)), (4, (V.bool o10))], [], 47⟩ = ((bif (!o10) then (bif (x7 == 0) then (some (true)) else ((idxS a0 x7).bind fun v11 => (bif (decide (v11 < 48)) then (some (true)) else ((idxS a0 x7).bind fun v12 => (some ((decide (v12 > 57)))))))) else (some (false)))).map (fun (o : Bool) => (⟨[(0, (V.str a0)), (3, (V.int .i64 x7)), (38, (V.bool o))], [], 47⟩ : St)) := by
  refine Eq.trans regionE_reg ?_
  refine Eq.trans (reg_adv (m := 3) (j := 3) (st' := ⟨[(0, (V.str a0)), (3, (V.int .i64 x7)), (4, (V.bool o10)), (21, (V.bool o10)), (22, (V.bool (!o10))), (23, (V.bool (!o10)))], [], 47⟩) rfl rfl rfl) ?_
  refine bifE (c := (!o10)) (fun hc => ?_) (fun hc => ?_)
  · rw [hc]
    refine Eq.trans (reg_adv (m := 3) (j := 6) (st' := ⟨[(0, (V.str a0)), (3, (V.int .i64 x7)), (4, (V.bool o10)), (21, (V.bool o10)), (22, (V.bool true)), (23, (V.bool true)), (24, (V.int .i64 x7)), (25, (V.bool (x7 == 0))), (26, (V.bool (x7 == 0)))], [], 47⟩) rfl rfl rfl) ?_
    refine bifE (c := (x7 == 0)) (fun hc => ?_) (fun hc => ?_)
    · rw [hc]
      exact reg_end rfl
    · rw [hc]
      refine Eq.trans (reg_adv (m := 2) (j := 8) (st' := ⟨[(0, (V.str a0)), (3, (V.int .i64 x7)), (4, (V.bool o10)), (21, (V.bool o10)), (22, (V.bool true)), (23, (V.bool true)), (24, (V.int .i64 x7)), (25, (V.bool false)), (26, (V.bool false)), (27, (V.str a0)), (28, (V.int .i64 x7))], [], 47⟩) rfl rfl rfl) ?_
      refine Eq.trans (reg_pure (x := (idxS a0 x7)) (w := fun v11 => (V.int .u8 v11)) rfl rfl rfl rfl (p_indexS rfl rfl rfl Go.Proofs.Try.underlying9)) ?_
      refine bindE (fun v11 => ?_)
      refine Eq.trans (bind_adv (m := 3) (j := 12) (st' := ⟨[(0, (V.str a0)), (3, (V.int .i64 x7)), (4, (V.bool o10)), (21, (V.bool o10)), (22, (V.bool true)), (23, (V.bool true)), (24, (V.int .i64 x7)), (25, (V.bool false)), (26, (V.bool false)), (27, (V.str a0)), (28, (V.int .i64 x7)), (29, (V.int .u8 v11)), (30, (V.bool (decide (v11 < 48)))), (31, (V.bool (decide (v11 < 48)))), (32, (V.bool (decide (v11 < 48))))], [], 47⟩) rfl rfl rfl) ?_
      refine bifE (c := (decide (v11 < 48))) (fun hc => ?_) (fun hc => ?_)
      · rw [hc]
        exact reg_end rfl
      · rw [hc]
        refine Eq.trans (reg_adv (m := 2) (j := 14) (st' := ⟨[(0, (V.str a0)), (3, (V.int .i64 x7)), (4, (V.bool o10)), (21, (V.bool o10)), (22, (V.bool true)), (23, (V.bool true)), (24, (V.int .i64 x7)), (25, (V.bool false)), (26, (V.bool false)), (27, (V.str a0)), (28, (V.int .i64 x7)), (29, (V.int .u8 v11)), (30, (V.bool false)), (31, (V.bool false)), (32, (V.bool false)), (33, (V.str a0)), (34, (V.int .i64 x7))], [], 47⟩) rfl rfl rfl) ?_
        refine Eq.trans (reg_pure (x := (idxS a0 x7)) (w := fun v12 => (V.int .u8 v12)) rfl rfl rfl rfl (p_indexS rfl rfl rfl Go.Proofs.Try.underlying9)) ?_
        refine bindE (fun v12 => ?_)
        exact bind_end rfl
  · rw [hc]
    exact reg_end rfl
theorem ref11_IsName_r6 (k : Nat) (a0 : Str) (x7 : Int) : regionE prog (evF prog anns ext k) ref11_IsName_a6 ref11_IsName_o6 false ⟨[(0, (V.str a0)), (3, (V.int .i64 x7)), (38, (V.bool true))], [], 47⟩ = some ⟨[(2, (V.bool false))], [], 47⟩ := by
  refine Eq.trans regionE_reg ?_
  exact reg_end rfl
theorem ref11_IsName_r3 (k : Nat) (a0 : Str) (x7 : Int) : regionE prog (evF prog anns ext k) ref11_IsName_a3 ref11_IsName_o3 false ⟨[(0, (V.str a0)), (3, (V.int .i64 x7)), (38, (V.bool false))], [], 47⟩ = some ⟨[(0, (V.str a0)), (3, (V.int .i64 (Go.IntKind.wrap .i64 (x7 + 1))))], [], 47⟩ := by
  refine Eq.trans regionE_reg ?_
  exact reg_end rfl
theorem ref11_IsName_L1_ok (k : Nat) (a0 : Str)  (K0 : Int → Option Bool) (Kst : X × St → Option (V × List V)) (hK0 : ∀ (y0 : Int), Kst (X.exit 0, ⟨[(0, (V.str a0)), (3, (V.int .i64 y0)), (8, (V.bool false))], [], 47⟩) = (K0 y0).map ref11_IsName_fin) (hret : ∀ s, Kst (X.ret, s) = endK prog 47 [(V.str a0)] [] [.tmp 2] (X.ret, s)) :
    ∀ (m : Nat) (x7 : Int), (iter (exec prog (evF prog anns ext k) ref11_IsName_an k ref11_IsName_b0) m ⟨[(0, (V.str a0)), (3, (V.int .i64 x7))], [], 47⟩).bind Kst = (ref11_IsName_L1 a0 K0 m x7).map ref11_IsName_fin := by
  intro m
  induction m with
  | zero => intros; rfl
  | succ m ih =>
    intro x7
    unfold ref11_IsName_L1
    refine Eq.trans k_round ?_
    refine Eq.trans k_assoc ?_
    refine Eq.trans (k_region0 rfl (ref11_IsName_r2 k a0 x7)) ?_
    refine Eq.trans (k_cond (t := (decide (x7 < (a0.length : Int)))) rfl) ?_
    refine bifE2 (fun hc => ?_) (fun hc => ?_)
    · rw [hc]
      refine Eq.trans k_skip ?_
      refine Eq.trans k_block ?_
      refine Eq.trans (k_region rfl (ref11_IsName_r4 k a0 x7)) ?_
      refine bindE (fun o10 => ?_)
      refine Eq.trans (k_region rfl (ref11_IsName_r5 k a0 x7 o10)) ?_
      refine bindE (fun o13 => ?_)
      refine Eq.trans (k_lcond (t := o13) rfl) ?_
      refine bifE2 (fun hc => ?_) (fun hc => ?_)
      · rw [hc]
        refine Eq.trans (k_region0 rfl (ref11_IsName_r6 k a0 x7)) ?_
        refine Eq.trans k_lret ?_
        refine Eq.trans blk_ret ?_
        refine Eq.trans loop_ret ?_
        refine Eq.trans (hret _) ?_
        rfl
      · rw [hc]
        refine Eq.trans k_lskip ?_
        refine Eq.trans blk_normal ?_
        refine Eq.trans (k_lregion0 rfl (ref11_IsName_r3 k a0 x7)) ?_
        refine Eq.trans loop_normal ?_
        exact ih (Go.IntKind.wrap .i64 (x7 + 1))
    · rw [hc]
      refine Eq.trans k_exit ?_
      refine Eq.trans loop_exit ?_
      exact hK0 x7
theorem ref11_IsName_r7 (k : Nat) (a0 : Str) (y14 : Int) : regionE prog (evF prog anns ext k) ref11_IsName_a7 ref11_IsName_o7 false ⟨[(0, (V.str a0)), (3, (V.int .i64 y14)), (8, (V.bool false))], [], 47⟩ = ((bif (decide ((a0.length : Int) ≥ 1)) then (some ((decide ((a0.length : Int) ≤ 8)))) else (some (false)))).map (fun (o : Bool) => (⟨[(2, (V.bool o))], [], 47⟩ : St)) := by
  refine Eq.trans regionE_reg ?_
  refine Eq.trans (reg_adv (m := 4) (j := 4) (st' := ⟨[(0, (V.str a0)), (3, (V.int .i64 y14)), (8, (V.bool false)), (39, (V.str a0)), (40, (V.int .i64 (a0.length : Int))), (41, (V.bool (decide ((a0.length : Int) ≥ 1)))), (42, (V.bool (decide ((a0.length : Int) ≥ 1))))], [], 47⟩) rfl rfl rfl) ?_
  refine bifE (c := (decide ((a0.length : Int) ≥ 1))) (fun hc => ?_) (fun hc => ?_)
  · rw [hc]
    exact reg_end rfl
  · rw [hc]
    exact reg_end rfl
theorem ref11_IsName_ok (k : Nat) (a0 : Str) : evF prog anns ext k 59 [(V.str a0)] = (ref11_IsName k a0).map ref11_IsName_fin := by
  cases k with
  | zero => rfl
  | succ k =>
    unfold ref11_IsName
    refine Eq.trans (evF_succ (c := ref11_IsName_c) (N := 47) (regs := ref11_IsName_an) rfl Go.Proofs.Try.func59 rfl (by decide) rfl rfl rfl) ?_
    refine Eq.trans (k_region0 rfl (ref11_IsName_r0 k a0)) ?_
    refine Eq.trans k_assoc ?_
    refine Eq.trans (k_region0 rfl (ref11_IsName_r1 k a0)) ?_
    refine Eq.trans k_block ?_
    refine Eq.trans k_loop ?_
    refine ref11_IsName_L1_ok k a0 _ _ ?h_ref11_IsName_L1_0 ?hr_ref11_IsName_L1 k 0
    · intro y14
      refine Eq.trans blk_exit ?_
      refine Eq.trans (k_region rfl (ref11_IsName_r7 k a0 y14)) ?_
      refine bindE (fun o15 => ?_)
      refine Eq.trans k_lret ?_
      rfl
    · intro s; exact rfl
def ref11_fields_fin : Bool → V × List V := fun r => ((V.bool r), [])
theorem ref11_fields_r0 (k : Nat) (a0 : T_api_Type) : regionE prog (evF prog anns ext k) ref11_fields_a0 ref11_fields_o0 false ⟨[(0, (enc_T_api_Type a0))], [], 112⟩ = some ⟨[(1, (V.ptr 1 0 0))], [(1, ⟨false, 8, [(enc_T_api_Type a0)]⟩)], 112⟩ := by
  refine Eq.trans regionE_reg ?_
  exact reg_end rfl
theorem ref11_fields_r1 (k : Nat) (a0 : T_api_Type) : regionE prog (evF prog anns ext k) ref11_fields_a1 ref11_fields_o1 false ⟨[(1, (V.ptr 1 0 0))], [(1, ⟨false, 8, [(enc_T_api_Type a0)]⟩)], 112⟩ = some ⟨[(1, (V.ptr 1 0 0)), (3, (V.int .i64 0))], [(1, ⟨false, 8, [(enc_T_api_Type a0)]⟩)], 112⟩ := by
  refine Eq.trans regionE_reg ?_
  exact reg_end rfl
theorem ref11_fields_r2 (k : Nat) (a0 : T_api_Type) (x11 : Int) : regionE prog (evF prog anns ext k) ref11_fields_a2 ref11_fields_o2 false ⟨[(1, (V.ptr 1 0 0)), (3, (V.int .i64 x11))], [(1, ⟨false, 8, [(enc_T_api_Type a0)]⟩)], 112⟩ = some ⟨[(1, (V.ptr 1 0 0)), (3, (V.int .i64 x11)), (10, (V.bool (decide (x11 < (a0.fFields.length : Int)))))], [(1, ⟨false, 8, [(enc_T_api_Type a0)]⟩)], 112⟩ := by
  refine Eq.trans regionE_reg ?_
  refine Eq.trans (reg_adv (m := 3) (j := 3) (st' := ⟨[(1, (V.ptr 1 0 0)), (3, (V.int .i64 x11)), (6, (V.int .i64 x11)), (7, (V.ptr 1 0 4)), (8, (V.sl 0 3 (List.map enc_T_api_Field a0.fFields)))], [(1, ⟨false, 8, [(enc_T_api_Type a0)]⟩)], 112⟩) rfl rfl rfl) ?_
  refine Eq.trans (reg_pure (x := some ()) (w := fun _ => (V.int .i64 (a0.fFields.length : Int))) rfl rfl rfl rfl (p_len (e := enc_T_api_Field) rfl rfl rfl rfl rfl rfl Go.Proofs.Try.underlying53)) ?_
  refine Eq.trans some_bind ?_
  exact bind_end rfl
theorem ref11_fields_r4 (k : Nat) (a0 : T_api_Type) (x11 : Int) : regionE prog (evF prog anns ext k) ref11_fields_a4 ref11_fields_o4 false ⟨[(1, (V.ptr 1 0 0)), (3, (V.int .i64 x11)), (10, (V.bool true))], [(1, ⟨false, 8, [(enc_T_api_Type a0)]⟩)], 112⟩ = ((idx a0.fFields x11)).map (fun (o : T_api_Field) => (⟨[(1, (V.ptr 1 0 0)), (3, (V.int .i64 x11)), (4, (V.ptr 4 0 0))], [(1, ⟨false, 8, [(enc_T_api_Type a0)]⟩), (4, ⟨false, 3, [(enc_T_api_Field o)]⟩)], 112⟩ : St)) := by
  refine Eq.trans regionE_reg ?_
  refine Eq.trans (reg_adv (m := 3) (j := 3) (st' := ⟨[(1, (V.ptr 1 0 0)), (3, (V.int .i64 x11)), (10, (V.bool true)), (13, (V.ptr 1 0 4)), (14, (V.sl 0 3 (List.map enc_T_api_Field a0.fFields))), (15, (V.int .i64 x11))], [(1, ⟨false, 8, [(enc_T_api_Type a0)]⟩)], 112⟩) rfl rfl rfl) ?_
  refine Eq.trans (reg_pure (x := (idx a0.fFields x11)) (w := fun v12 => (V.pro (enc_T_api_Field v12))) rfl rfl rfl rfl (p_index (e := enc_T_api_Field) rfl rfl rfl Go.Proofs.Try.underlying53 rfl (by decide))) ?_
  refine bind_self (fun v12 => ?_)
  exact bind_end rfl
theorem ref11_fields_r5 (k : Nat) (a0 : T_api_Type) (x11 : Int) (o13 : T_api_Field) : regionE prog (evF prog anns ext k) ref11_fields_a5 ref11_fields_o5 false ⟨[(1, (V.ptr 1 0 0)), (3, (V.int .i64 x11)), (4, (V.ptr 4 0 0))], [(1, ⟨false, 8, [(enc_T_api_Type a0)]⟩), (4, ⟨false, 3, [(enc_T_api_Field o13)]⟩)], 112⟩ = (((ref11_IsName k o13.fName).bind fun v14 => (bif (!v14) then (some (true)) else (bif (decide (o13.fAt < 0)) then (some (true)) else (bif (decide (o13.fAt > a0.fSize)) then (some (true)) else (bif (decide (o13.fBytes < 1)) then (some (true)) else (some ((decide (o13.fBytes > (Go.IntKind.wrap .i64 (a0.fSize - o13.fAt)))))))))))).map (fun (o : Bool) => (⟨[(1, (V.ptr 1 0 0)), (3, (V.int .i64 x11)), (4, (V.ptr 4 0 0)), (48, (V.bool o))], [(1, ⟨false, 8, [(enc_T_api_Type a0)]⟩), (4, ⟨false, 3, [(enc_T_api_Field o13)]⟩)], 112⟩ : St)) := by
  refine Eq.trans regionE_reg ?_
  refine Eq.trans (reg_adv (m := 2) (j := 2) (st' := ⟨[(1, (V.ptr 1 0 0)), (3, (V.int .i64 x11)), (4, (V.ptr 4 0 0)), (18, (V.ptr 4 0 0)), (19, (V.str o13.fName))], [(1, ⟨false, 8, [(enc_T_api_Type a0)]⟩), (4, ⟨false, 3, [(enc_T_api_Field o13)]⟩)], 112⟩) rfl rfl rfl) ?_
  refine Eq.trans (reg_pure (x := (ref11_IsName k o13.fName)) (w := fun v14 => (V.bool v14)) rfl rfl rfl rfl (p_call rfl rfl rfl rfl rfl (ref11_IsName_ok k o13.fName) (.inl rfl))) ?_
  refine bindE (fun v14 => ?_)
  refine Eq.trans (bind_adv (m := 2) (j := 5) (st' := ⟨[(1, (V.ptr 1 0 0)), (3, (V.int .i64 x11)), (4, (V.ptr 4 0 0)), (18, (V.ptr 4 0 0)), (19, (V.str o13.fName)), (20, (V.bool v14)), (21, (V.bool (!v14))), (22, (V.bool (!v14)))], [(1, ⟨false, 8, [(enc_T_api_Type a0)]⟩), (4, ⟨false, 3, [(enc_T_api_Field o13)]⟩)], 112⟩) rfl rfl rfl) ?_
  refine bifE (c := (!v14)) (fun hc => ?_) (fun hc => ?_)
  · rw [hc]
    exact reg_end rfl
  · rw [hc]
    refine Eq.trans (reg_adv (m := 5) (j := 10) (st' := ⟨[(1, (V.ptr 1 0 0)), (3, (V.int .i64 x11)), (4, (V.ptr 4 0 0)), (18, (V.ptr 4 0 0)), (19, (V.str o13.fName)), (20, (V.bool v14)), (21, (V.bool false)), (22, (V.bool false)), (23, (V.ptr 4 0 1)), (24, (V.int .i64 o13.fAt)), (25, (V.bool (decide (o13.fAt < 0)))), (26, (V.bool (decide (o13.fAt < 0)))), (27, (V.bool (decide (o13.fAt < 0))))], [(1, ⟨false, 8, [(enc_T_api_Type a0)]⟩), (4, ⟨false, 3, [(enc_T_api_Field o13)]⟩)], 112⟩) rfl rfl rfl) ?_
    refine bifE (c := (decide (o13.fAt < 0))) (fun hc => ?_) (fun hc => ?_)
    · rw [hc]
      exact reg_end rfl
    · rw [hc]
      refine Eq.trans (reg_adv (m := 7) (j := 17) (st' := ⟨[(1, (V.ptr 1 0 0)), (3, (V.int .i64 x11)), (4, (V.ptr 4 0 0)), (18, (V.ptr 4 0 0)), (19, (V.str o13.fName)), (20, (V.bool v14)), (21, (V.bool false)), (22, (V.bool false)), (23, (V.ptr 4 0 1)), (24, (V.int .i64 o13.fAt)), (25, (V.bool false)), (26, (V.bool false)), (27, (V.bool false)), (28, (V.ptr 4 0 1)), (29, (V.int .i64 o13.fAt)), (30, (V.ptr 1 0 3)), (31, (V.int .i64 a0.fSize)), (32, (V.bool (decide (o13.fAt > a0.fSize)))), (33, (V.bool (decide (o13.fAt > a0.fSize)))), (34, (V.bool (decide (o13.fAt > a0.fSize))))], [(1, ⟨false, 8, [(enc_T_api_Type a0)]⟩), (4, ⟨false, 3, [(enc_T_api_Field o13)]⟩)], 112⟩) rfl rfl rfl) ?_
      refine bifE (c := (decide (o13.fAt > a0.fSize))) (fun hc => ?_) (fun hc => ?_)
      · rw [hc]
        exact reg_end rfl
      · rw [hc]
        refine Eq.trans (reg_adv (m := 5) (j := 22) (st' := ⟨[(1, (V.ptr 1 0 0)), (3, (V.int .i64 x11)), (4, (V.ptr 4 0 0)), (18, (V.ptr 4 0 0)), (19, (V.str o13.fName)), (20, (V.bool v14)), (21, (V.bool false)), (22, (V.bool false)), (23, (V.ptr 4 0 1)), (24, (V.int .i64 o13.fAt)), (25, (V.bool false)), (26, (V.bool false)), (27, (V.bool false)), (28, (V.ptr 4 0 1)), (29, (V.int .i64 o13.fAt)), (30, (V.ptr 1 0 3)), (31, (V.int .i64 a0.fSize)), (32, (V.bool false)), (33, (V.bool false)), (34, (V.bool false)), (35, (V.ptr 4 0 2)), (36, (V.int .i64 o13.fBytes)), (37, (V.bool (decide (o13.fBytes < 1)))), (38, (V.bool (decide (o13.fBytes < 1)))), (39, (V.bool (decide (o13.fBytes < 1))))], [(1, ⟨false, 8, [(enc_T_api_Type a0)]⟩), (4, ⟨false, 3, [(enc_T_api_Field o13)]⟩)], 112⟩) rfl rfl rfl) ?_
        refine bifE (c := (decide (o13.fBytes < 1))) (fun hc => ?_) (fun hc => ?_)
        · rw [hc]
          exact reg_end rfl
        · rw [hc]
          exact reg_end rfl
theorem ref11_fields_r6 (k : Nat) (a0 : T_api_Type) (x11 : Int) (o13 : T_api_Field) : regionE prog (evF prog anns ext k) ref11_fields_a6 ref11_fields_o6 false ⟨[(1, (V.ptr 1 0 0)), (3, (V.int .i64 x11)), (4, (V.ptr 4 0 0)), (48, (V.bool true))], [(1, ⟨false, 8, [(enc_T_api_Type a0)]⟩), (4, ⟨false, 3, [(enc_T_api_Field o13)]⟩)], 112⟩ = some ⟨[(2, (V.bool false))], [], 112⟩ := by
  refine Eq.trans regionE_reg ?_
  exact reg_end rfl
theorem ref11_fields_r7 (k : Nat) (a0 : T_api_Type) (x11 : Int) (o13 : T_api_Field) : regionE prog (evF prog anns ext k) ref11_fields_a7 ref11_fields_o7 false ⟨[(1, (V.ptr 1 0 0)), (3, (V.int .i64 x11)), (4, (V.ptr 4 0 0)), (48, (V.bool false))], [(1, ⟨false, 8, [(enc_T_api_Type a0)]⟩), (4, ⟨false, 3, [(enc_T_api_Field o13)]⟩)], 112⟩ = some ⟨[(1, (V.ptr 1 0 0)), (3, (V.int .i64 x11)), (4, (V.ptr 4 0 0)), (5, (V.int .i64 0))], [(1, ⟨false, 8, [(enc_T_api_Type a0)]⟩), (4, ⟨false, 3, [(enc_T_api_Field o13)]⟩)], 112⟩ := by
  refine Eq.trans regionE_reg ?_
  exact reg_end rfl
theorem ref11_fields_r8 (k : Nat) (a0 : T_api_Type) (x11 : Int) (o13 : T_api_Field) (x18 : Int) : regionE prog (evF prog anns ext k) ref11_fields_a8 ref11_fields_o8 false ⟨[(1, (V.ptr 1 0 0)), (3, (V.int .i64 x11)), (4, (V.ptr 4 0 0)), (5, (V.int .i64 x18))], [(1, ⟨false, 8, [(enc_T_api_Type a0)]⟩), (4, ⟨false, 3, [(enc_T_api_Field o13)]⟩)], 112⟩ = some ⟨[(1, (V.ptr 1 0 0)), (3, (V.int .i64 x11)), (4, (V.ptr 4 0 0)), (5, (V.int .i64 x18)), (51, (V.bool (decide (x18 < x11))))], [(1, ⟨false, 8, [(enc_T_api_Type a0)]⟩), (4, ⟨false, 3, [(enc_T_api_Field o13)]⟩)], 112⟩ := by
  refine Eq.trans regionE_reg ?_
  exact reg_end rfl
theorem ref11_fields_r10 (k : Nat) (a0 : T_api_Type) (x11 : Int) (o13 : T_api_Field) (x18 : Int) : regionE prog (evF prog anns ext k) ref11_fields_a10 ref11_fields_o10 true ⟨[(1, (V.ptr 1 0 0)), (3, (V.int .i64 x11)), (4, (V.ptr 4 0 0)), (5, (V.int .i64 x18)), (51, (V.bool true))], [(1, ⟨false, 8, [(enc_T_api_Type a0)]⟩), (4, ⟨false, 3, [(enc_T_api_Field o13)]⟩)], 112⟩ = (((idx a0.fFields x18).bind fun v19 => (some ((v19.fName == o13.fName))))).map (fun (o : Bool) => (⟨[(1, (V.ptr 1 0 0)), (3, (V.int .i64 x11)), (4, (V.ptr 4 0 0)), (5, (V.int .i64 x18)), (62, (V.bool o))], [(1, ⟨false, 8, [(enc_T_api_Type a0)]⟩), (4, ⟨false, 3, [(enc_T_api_Field o13)]⟩)], 112⟩ : St)) := by
  refine Eq.trans (regionE_regp (p := 9) (t := [(1, (V.ptr 1 0 0)), (3, (V.int .i64 x11)), (4, (V.ptr 4 0 0)), (5, (V.int .i64 x18)), (51, (V.bool true))]) (σ := [(1, ⟨false, 8, [(enc_T_api_Type a0)]⟩), (4, ⟨false, 3, [(enc_T_api_Field o13)]⟩)]) (n := 112) (by decide) (by decide) rfl) ?_
  refine Eq.trans (regp_adv (m := 3) (j := 3) (t' := [(1, (V.ptr 1 0 0)), (3, (V.int .i64 x11)), (4, (V.ptr 4 0 0)), (5, (V.int .i64 x18)), (51, (V.bool true)), (54, (V.ptr 1 0 4)), (55, (V.sl 0 3 (List.map enc_T_api_Field a0.fFields))), (56, (V.int .i64 x18))]) rfl rfl rfl) ?_
  refine Eq.trans (regp_pure (x := (idx a0.fFields x18)) (w := fun v19 => (V.pro (enc_T_api_Field v19))) rfl rfl rfl rfl rfl (p_index (e := enc_T_api_Field) rfl rfl rfl Go.Proofs.Try.underlying53 rfl (by decide))) ?_
  refine bindE (fun v19 => ?_)
  exact regp_end rfl
theorem ref11_fields_r11 (k : Nat) (a0 : T_api_Type) (x11 : Int) (o13 : T_api_Field) (x18 : Int) : regionE prog (evF prog anns ext k) ref11_fields_a11 ref11_fields_o11 false ⟨[(1, (V.ptr 1 0 0)), (3, (V.int .i64 x11)), (4, (V.ptr 4 0 0)), (5, (V.int .i64 x18)), (62, (V.bool true))], [(1, ⟨false, 8, [(enc_T_api_Type a0)]⟩), (4, ⟨false, 3, [(enc_T_api_Field o13)]⟩)], 112⟩ = some ⟨[(2, (V.bool false))], [], 112⟩ := by
  refine Eq.trans regionE_reg ?_
  exact reg_end rfl
theorem ref11_fields_r9 (k : Nat) (a0 : T_api_Type) (x11 : Int) (o13 : T_api_Field) (x18 : Int) : regionE prog (evF prog anns ext k) ref11_fields_a9 ref11_fields_o9 false ⟨[(1, (V.ptr 1 0 0)), (3, (V.int .i64 x11)), (4, (V.ptr 4 0 0)), (5, (V.int .i64 x18)), (62, (V.bool false))], [(1, ⟨false, 8, [(enc_T_api_Type a0)]⟩), (4, ⟨false, 3, [(enc_T_api_Field o13)]⟩)], 112⟩ = some ⟨[(1, (V.ptr 1 0 0)), (3, (V.int .i64 x11)), (4, (V.ptr 4 0 0)), (5, (V.int .i64 (Go.IntKind.wrap .i64 (x18 + 1))))], [(1, ⟨false, 8, [(enc_T_api_Type a0)]⟩), (4, ⟨false, 3, [(enc_T_api_Field o13)]⟩)], 112⟩ := by
  refine Eq.trans regionE_reg ?_
  exact reg_end rfl
theorem ref11_fields_L2_ok (k : Nat) (a0 : T_api_Type) (x11 : Int) (o13 : T_api_Field)  (K0 : Int → Option Bool) (Kst : X × St → Option (V × List V)) (hK0 : ∀ (y0 : Int), Kst (X.exit 2, ⟨[(1, (V.ptr 1 0 0)), (3, (V.int .i64 x11)), (4, (V.ptr 4 0 0)), (5, (V.int .i64 y0)), (51, (V.bool false))], [(1, ⟨false, 8, [(enc_T_api_Type a0)]⟩), (4, ⟨false, 3, [(enc_T_api_Field o13)]⟩)], 112⟩) = (K0 y0).map ref11_fields_fin) (hret : ∀ s, Kst (X.ret, s) = endK prog 112 [(enc_T_api_Type a0)] [] [.tmp 2] (X.ret, s)) :
    ∀ (m : Nat) (x18 : Int), (iter (exec prog (evF prog anns ext k) ref11_fields_an k ref11_fields_b0) m ⟨[(1, (V.ptr 1 0 0)), (3, (V.int .i64 x11)), (4, (V.ptr 4 0 0)), (5, (V.int .i64 x18))], [(1, ⟨false, 8, [(enc_T_api_Type a0)]⟩), (4, ⟨false, 3, [(enc_T_api_Field o13)]⟩)], 112⟩).bind Kst = (ref11_fields_L2 a0 x11 o13 K0 m x18).map ref11_fields_fin := by
  intro m
  induction m with
  | zero => intros; rfl
  | succ m ih =>
    intro x18
    unfold ref11_fields_L2
    refine Eq.trans k_round ?_
    refine Eq.trans k_assoc ?_
    refine Eq.trans (k_region0 rfl (ref11_fields_r8 k a0 x11 o13 x18)) ?_
    refine Eq.trans (k_cond (t := (decide (x18 < x11))) rfl) ?_
    refine bifE2 (fun hc => ?_) (fun hc => ?_)
    · rw [hc]
      refine Eq.trans k_skip ?_
      refine Eq.trans k_block ?_
      refine Eq.trans (k_region rfl (ref11_fields_r10 k a0 x11 o13 x18)) ?_
      refine bindE (fun o20 => ?_)
      refine Eq.trans (k_lcond (t := o20) rfl) ?_
      refine bifE2 (fun hc => ?_) (fun hc => ?_)
      · rw [hc]
        refine Eq.trans (k_region0 rfl (ref11_fields_r11 k a0 x11 o13 x18)) ?_
        refine Eq.trans k_lret ?_
        refine Eq.trans blk_ret ?_
        refine Eq.trans loop_ret ?_
        refine Eq.trans (hret _) ?_
        rfl
      · rw [hc]
        refine Eq.trans k_lskip ?_
        refine Eq.trans blk_normal ?_
        refine Eq.trans (k_lregion0 rfl (ref11_fields_r9 k a0 x11 o13 x18)) ?_
        refine Eq.trans loop_normal ?_
        exact ih (Go.IntKind.wrap .i64 (x18 + 1))
    · rw [hc]
      refine Eq.trans k_exit ?_
      refine Eq.trans loop_exit ?_
      exact hK0 x18
theorem ref11_fields_r3 (k : Nat) (a0 : T_api_Type) (x11 : Int) (o13 : T_api_Field) (y21 : Int) : regionE prog (evF prog anns ext k) ref11_fields_a3 ref11_fields_o3 false ⟨[(1, (V.ptr 1 0 0)), (3, (V.int .i64 x11)), (4, (V.ptr 4 0 0)), (5, (V.int .i64 y21)), (51, (V.bool false))], [(1, ⟨false, 8, [(enc_T_api_Type a0)]⟩), (4, ⟨false, 3, [(enc_T_api_Field o13)]⟩)], 112⟩ = some ⟨[(1, (V.ptr 1 0 0)), (3, (V.int .i64 (Go.IntKind.wrap .i64 (x11 + 1))))], [(1, ⟨false, 8, [(enc_T_api_Type a0)]⟩)], 112⟩ := by
  refine Eq.trans regionE_reg ?_
  exact reg_end rfl
theorem ref11_fields_L1_ok (k : Nat) (a0 : T_api_Type)  (K0 : Int → Option Bool) (Kst : X × St → Option (V × List V)) (hK0 : ∀ (y0 : Int), Kst (X.exit 0, ⟨[(1, (V.ptr 1 0 0)), (3, (V.int .i64 y0)), (10, (V.bool false))], [(1, ⟨false, 8, [(enc_T_api_Type a0)]⟩)], 112⟩) = (K0 y0).map ref11_fields_fin) (hret : ∀ s, Kst (X.ret, s) = endK prog 112 [(enc_T_api_Type a0)] [] [.tmp 2] (X.ret, s)) :
    ∀ (m : Nat) (x11 : Int), (iter (exec prog (evF prog anns ext k) ref11_fields_an k ref11_fields_b1) m ⟨[(1, (V.ptr 1 0 0)), (3, (V.int .i64 x11))], [(1, ⟨false, 8, [(enc_T_api_Type a0)]⟩)], 112⟩).bind Kst = (ref11_fields_L1 k a0 K0 m x11).map ref11_fields_fin := by
  intro m
  induction m with
  | zero => intros; rfl
  | succ m ih =>
    intro x11
    unfold ref11_fields_L1
    refine Eq.trans k_round ?_
    refine Eq.trans k_assoc ?_
    refine Eq.trans (k_region0 rfl (ref11_fields_r2 k a0 x11)) ?_
    refine Eq.trans (k_cond (t := (decide (x11 < (a0.fFields.length : Int)))) rfl) ?_
    refine bifE2 (fun hc => ?_) (fun hc => ?_)
    · rw [hc]
      refine Eq.trans k_skip ?_
      refine Eq.trans k_block ?_
      refine Eq.trans (k_region rfl (ref11_fields_r4 k a0 x11)) ?_
      refine bindE (fun o13 => ?_)
      refine Eq.trans k_assoc ?_
      refine Eq.trans (k_region rfl (ref11_fields_r5 k a0 x11 o13)) ?_
      refine bindE (fun o15 => ?_)
      refine Eq.trans (k_cond (t := o15) rfl) ?_
      refine bifE2 (fun hc => ?_) (fun hc => ?_)
      · rw [hc]
        refine Eq.trans k_assoc ?_
        refine Eq.trans (k_region0 rfl (ref11_fields_r6 k a0 x11 o13)) ?_
        refine Eq.trans k_ret ?_
        refine Eq.trans blk_ret ?_
        refine Eq.trans loop_ret ?_
        refine Eq.trans (hret _) ?_
        rfl
      · rw [hc]
        refine Eq.trans k_skip ?_
        refine Eq.trans (k_region0 rfl (ref11_fields_r7 k a0 x11 o13)) ?_
        refine Eq.trans k_lblock ?_
        refine Eq.trans k_loop ?_
        refine ref11_fields_L2_ok k a0 x11 o13 _ _ ?h_ref11_fields_L2_0 ?hr_ref11_fields_L2 k 0
        · intro y21
          refine Eq.trans blk_exit ?_
          refine Eq.trans k_lskip ?_
          refine Eq.trans blk_normal ?_
          refine Eq.trans (k_lregion0 rfl (ref11_fields_r3 k a0 x11 o13 y21)) ?_
          refine Eq.trans loop_normal ?_
          exact ih (Go.IntKind.wrap .i64 (x11 + 1))
        · intro s; exact hret s
    · rw [hc]
      refine Eq.trans k_exit ?_
      refine Eq.trans loop_exit ?_
      exact hK0 x11
theorem ref11_fields_r12 (k : Nat) (a0 : T_api_Type) (y22 : Int) : regionE prog (evF prog anns ext k) ref11_fields_a12 ref11_fields_o12 false ⟨[(1, (V.ptr 1 0 0)), (3, (V.int .i64 y22)), (10, (V.bool false))], [(1, ⟨false, 8, [(enc_T_api_Type a0)]⟩)], 112⟩ = ((bif (decide (a0.fKey < (-1))) then (some (true)) else (bif (decide (a0.fKey ≥ (a0.fFields.length : Int))) then (some (true)) else (bif (decide (a0.fKey < 0)) then (some (a0.fUnique)) else (some (false)))))).map (fun (o : Bool) => (⟨[(1, (V.ptr 1 0 0)), (82, (V.bool o))], [(1, ⟨false, 8, [(enc_T_api_Type a0)]⟩)], 112⟩ : St)) := by
  refine Eq.trans regionE_reg ?_
  refine Eq.trans (reg_adv (m := 4) (j := 4) (st' := ⟨[(1, (V.ptr 1 0 0)), (3, (V.int .i64 y22)), (10, (V.bool false)), (63, (V.ptr 1 0 5)), (64, (V.int .i64 a0.fKey)), (65, (V.bool (decide (a0.fKey < (-1))))), (66, (V.bool (decide (a0.fKey < (-1)))))], [(1, ⟨false, 8, [(enc_T_api_Type a0)]⟩)], 112⟩) rfl rfl rfl) ?_
  refine bifE (c := (decide (a0.fKey < (-1)))) (fun hc => ?_) (fun hc => ?_)
  · rw [hc]
    exact reg_end rfl
  · rw [hc]
    refine Eq.trans (reg_adv (m := 4) (j := 8) (st' := ⟨[(1, (V.ptr 1 0 0)), (3, (V.int .i64 y22)), (10, (V.bool false)), (63, (V.ptr 1 0 5)), (64, (V.int .i64 a0.fKey)), (65, (V.bool false)), (66, (V.bool false)), (67, (V.ptr 1 0 5)), (68, (V.int .i64 a0.fKey)), (69, (V.ptr 1 0 4)), (70, (V.sl 0 3 (List.map enc_T_api_Field a0.fFields)))], [(1, ⟨false, 8, [(enc_T_api_Type a0)]⟩)], 112⟩) rfl rfl rfl) ?_
    refine Eq.trans (reg_pure (x := some ()) (w := fun _ => (V.int .i64 (a0.fFields.length : Int))) rfl rfl rfl rfl (p_len (e := enc_T_api_Field) rfl rfl rfl rfl rfl rfl Go.Proofs.Try.underlying53)) ?_
    refine Eq.trans some_bind ?_
    refine Eq.trans (bind_adv (m := 3) (j := 12) (st' := ⟨[(1, (V.ptr 1 0 0)), (3, (V.int .i64 y22)), (10, (V.bool false)), (63, (V.ptr 1 0 5)), (64, (V.int .i64 a0.fKey)), (65, (V.bool false)), (66, (V.bool false)), (67, (V.ptr 1 0 5)), (68, (V.int .i64 a0.fKey)), (69, (V.ptr 1 0 4)), (70, (V.sl 0 3 (List.map enc_T_api_Field a0.fFields))), (71, (V.int .i64 (a0.fFields.length : Int))), (72, (V.bool (decide (a0.fKey ≥ (a0.fFields.length : Int))))), (73, (V.bool (decide (a0.fKey ≥ (a0.fFields.length : Int))))), (74, (V.bool (decide (a0.fKey ≥ (a0.fFields.length : Int)))))], [(1, ⟨false, 8, [(enc_T_api_Type a0)]⟩)], 112⟩) rfl rfl rfl) ?_
    refine bifE (c := (decide (a0.fKey ≥ (a0.fFields.length : Int)))) (fun hc => ?_) (fun hc => ?_)
    · rw [hc]
      exact reg_end rfl
    · rw [hc]
      refine Eq.trans (reg_adv (m := 4) (j := 16) (st' := ⟨[(1, (V.ptr 1 0 0)), (3, (V.int .i64 y22)), (10, (V.bool false)), (63, (V.ptr 1 0 5)), (64, (V.int .i64 a0.fKey)), (65, (V.bool false)), (66, (V.bool false)), (67, (V.ptr 1 0 5)), (68, (V.int .i64 a0.fKey)), (69, (V.ptr 1 0 4)), (70, (V.sl 0 3 (List.map enc_T_api_Field a0.fFields))), (71, (V.int .i64 (a0.fFields.length : Int))), (72, (V.bool false)), (73, (V.bool false)), (74, (V.bool false)), (75, (V.ptr 1 0 5)), (76, (V.int .i64 a0.fKey)), (77, (V.bool (decide (a0.fKey < 0)))), (78, (V.bool (decide (a0.fKey < 0))))], [(1, ⟨false, 8, [(enc_T_api_Type a0)]⟩)], 112⟩) rfl rfl rfl) ?_
      refine bifE (c := (decide (a0.fKey < 0))) (fun hc => ?_) (fun hc => ?_)
      · rw [hc]
        exact reg_end rfl
      · rw [hc]
        exact reg_end rfl
theorem ref11_fields_r13 (k : Nat) (a0 : T_api_Type) : regionE prog (evF prog anns ext k) ref11_fields_a13 ref11_fields_o13 false ⟨[(1, (V.ptr 1 0 0)), (82, (V.bool true))], [(1, ⟨false, 8, [(enc_T_api_Type a0)]⟩)], 112⟩ = some ⟨[(2, (V.bool false))], [], 112⟩ := by
  refine Eq.trans regionE_reg ?_
  exact reg_end rfl
theorem ref11_fields_r14 (k : Nat) (a0 : T_api_Type) : regionE prog (evF prog anns ext k) ref11_fields_a14 ref11_fields_o14 true ⟨[(1, (V.ptr 1 0 0)), (82, (V.bool false))], [(1, ⟨false, 8, [(enc_T_api_Type a0)]⟩)], 112⟩ = ((bif (decide ((a0.fFields.length : Int) ≤ 5)) then (bif (decide (a0.fKey < 0)) then (some (true)) else ((idx a0.fFields a0.fKey).bind fun v24 => ((idx a0.fFields a0.fKey).bind fun v25 => (some ((decide ((Go.IntKind.wrap .i64 (v24.fAt + v25.fBytes)) ≤ a0.fMin))))))) else (some (false)))).map (fun (o : Bool) => (⟨[(2, (V.bool o))], [], 112⟩ : St)) := by
  refine Eq.trans (regionE_regp (p := 30) (t := [(1, (V.ptr 1 0 0)), (82, (V.bool false))]) (σ := [(1, ⟨false, 8, [(enc_T_api_Type a0)]⟩)]) (n := 112) (by decide) (by decide) rfl) ?_
  refine Eq.trans (regp_adv (m := 2) (j := 2) (t' := [(1, (V.ptr 1 0 0)), (82, (V.bool false)), (83, (V.ptr 1 0 4)), (84, (V.sl 0 3 (List.map enc_T_api_Field a0.fFields)))]) rfl rfl rfl) ?_
  refine Eq.trans (regp_pure (x := some ()) (w := fun _ => (V.int .i64 (a0.fFields.length : Int))) rfl rfl rfl rfl rfl (p_len (e := enc_T_api_Field) rfl rfl rfl rfl rfl rfl Go.Proofs.Try.underlying53)) ?_
  refine Eq.trans some_bind ?_
  refine Eq.trans (putp_adv (m := 2) (j := 5) (t' := [(1, (V.ptr 1 0 0)), (82, (V.bool false)), (83, (V.ptr 1 0 4)), (84, (V.sl 0 3 (List.map enc_T_api_Field a0.fFields))), (85, (V.int .i64 (a0.fFields.length : Int))), (86, (V.bool (decide ((a0.fFields.length : Int) ≤ 5)))), (87, (V.bool (decide ((a0.fFields.length : Int) ≤ 5))))]) rfl rfl rfl) ?_
  refine bifE (c := (decide ((a0.fFields.length : Int) ≤ 5))) (fun hc => ?_) (fun hc => ?_)
  · rw [hc]
    refine Eq.trans (regp_adv (m := 4) (j := 9) (t' := [(1, (V.ptr 1 0 0)), (82, (V.bool false)), (83, (V.ptr 1 0 4)), (84, (V.sl 0 3 (List.map enc_T_api_Field a0.fFields))), (85, (V.int .i64 (a0.fFields.length : Int))), (86, (V.bool true)), (87, (V.bool true)), (88, (V.ptr 1 0 5)), (89, (V.int .i64 a0.fKey)), (90, (V.bool (decide (a0.fKey < 0)))), (91, (V.bool (decide (a0.fKey < 0))))]) rfl rfl rfl) ?_
    refine bifE (c := (decide (a0.fKey < 0))) (fun hc => ?_) (fun hc => ?_)
    · rw [hc]
      exact regp_end rfl
    · rw [hc]
      refine Eq.trans (regp_adv (m := 4) (j := 13) (t' := [(1, (V.ptr 1 0 0)), (82, (V.bool false)), (83, (V.ptr 1 0 4)), (84, (V.sl 0 3 (List.map enc_T_api_Field a0.fFields))), (85, (V.int .i64 (a0.fFields.length : Int))), (86, (V.bool true)), (87, (V.bool true)), (88, (V.ptr 1 0 5)), (89, (V.int .i64 a0.fKey)), (90, (V.bool false)), (91, (V.bool false)), (92, (V.ptr 1 0 4)), (93, (V.sl 0 3 (List.map enc_T_api_Field a0.fFields))), (94, (V.ptr 1 0 5)), (95, (V.int .i64 a0.fKey))]) rfl rfl rfl) ?_
      refine Eq.trans (regp_pure (x := (idx a0.fFields a0.fKey)) (w := fun v24 => (V.pro (enc_T_api_Field v24))) rfl rfl rfl rfl rfl (p_index (e := enc_T_api_Field) rfl rfl rfl Go.Proofs.Try.underlying53 rfl (by decide))) ?_
      refine bindE (fun v24 => ?_)
      refine Eq.trans (putp_adv (m := 6) (j := 20) (t' := [(1, (V.ptr 1 0 0)), (82, (V.bool false)), (83, (V.ptr 1 0 4)), (84, (V.sl 0 3 (List.map enc_T_api_Field a0.fFields))), (85, (V.int .i64 (a0.fFields.length : Int))), (86, (V.bool true)), (87, (V.bool true)), (88, (V.ptr 1 0 5)), (89, (V.int .i64 a0.fKey)), (90, (V.bool false)), (91, (V.bool false)), (92, (V.ptr 1 0 4)), (93, (V.sl 0 3 (List.map enc_T_api_Field a0.fFields))), (94, (V.ptr 1 0 5)), (95, (V.int .i64 a0.fKey)), (96, (V.pro (enc_T_api_Field v24))), (97, (V.pro (V.int .i64 v24.fAt))), (98, (V.int .i64 v24.fAt)), (99, (V.ptr 1 0 4)), (100, (V.sl 0 3 (List.map enc_T_api_Field a0.fFields))), (101, (V.ptr 1 0 5)), (102, (V.int .i64 a0.fKey))]) rfl rfl rfl) ?_
      refine Eq.trans (regp_pure (x := (idx a0.fFields a0.fKey)) (w := fun v25 => (V.pro (enc_T_api_Field v25))) rfl rfl rfl rfl rfl (p_index (e := enc_T_api_Field) rfl rfl rfl Go.Proofs.Try.underlying53 rfl (by decide))) ?_
      refine bindE (fun v25 => ?_)
      exact regp_end rfl
  · rw [hc]
    exact regp_end rfl
theorem ref11_fields_ok (k : Nat) (a0 : T_api_Type) : evF prog anns ext k 60 [(enc_T_api_Type a0)] = (ref11_fields k a0).map ref11_fields_fin := by
  cases k with
  | zero => rfl
  | succ k =>
    unfold ref11_fields
    refine Eq.trans (evF_succ (c := ref11_fields_c) (N := 112) (regs := ref11_fields_an) rfl Go.Proofs.Try.func60 rfl (by decide) rfl rfl rfl) ?_
    refine Eq.trans (k_region0 rfl (ref11_fields_r0 k a0)) ?_
    refine Eq.trans k_assoc ?_
    refine Eq.trans (k_region0 rfl (ref11_fields_r1 k a0)) ?_
    refine Eq.trans k_block ?_
    refine Eq.trans k_loop ?_
    refine ref11_fields_L1_ok k a0 _ _ ?h_ref11_fields_L1_0 ?hr_ref11_fields_L1 k 0
    · intro y22
      refine Eq.trans blk_exit ?_
      refine Eq.trans k_assoc ?_
      refine Eq.trans (k_region rfl (ref11_fields_r12 k a0 y22)) ?_
      refine bindE (fun o23 => ?_)
      refine Eq.trans (k_cond (t := o23) rfl) ?_
      refine bifE2 (fun hc => ?_) (fun hc => ?_)
      · rw [hc]
        refine Eq.trans k_assoc ?_
        refine Eq.trans (k_region0 rfl (ref11_fields_r13 k a0)) ?_
        refine Eq.trans k_ret ?_
        rfl
      · rw [hc]
        refine Eq.trans k_skip ?_
        refine Eq.trans (k_region rfl (ref11_fields_r14 k a0)) ?_
        refine bindE (fun o26 => ?_)
        refine Eq.trans k_lret ?_
        rfl
    · intro s; exact rfl
def ref11_above_fin : Bool → V × List V := fun r => ((V.bool r), [])
theorem ref11_above_r0 (k : Nat) (a0 : T_api_Base) (a1 : Int) (a2 : Int) : regionE prog (evF prog anns ext k) ref11_above_a0 ref11_above_o0 false ⟨[(0, (enc_T_api_Base a0)), (1, (V.int .i64 a1)), (2, (V.int .i64 a2))], [], 24⟩ = some ⟨[(1, (V.int .i64 a1)), (2, (V.int .i64 a2)), (3, (V.ptr 3 0 0))], [(3, ⟨false, 4, [(enc_T_api_Base a0)]⟩)], 24⟩ := by
  refine Eq.trans regionE_reg ?_
  exact reg_end rfl
theorem ref11_above_r1 (k : Nat) (a0 : T_api_Base) (a1 : Int) (a2 : Int) : regionE prog (evF prog anns ext k) ref11_above_a1 ref11_above_o1 false ⟨[(1, (V.int .i64 a1)), (2, (V.int .i64 a2)), (3, (V.ptr 3 0 0))], [(3, ⟨false, 4, [(enc_T_api_Base a0)]⟩)], 24⟩ = (((idx a0.fTypes a2).bind fun v1 => (some (v1.fParent)))).map (fun (o : Int) => (⟨[(1, (V.int .i64 a1)), (2, (V.int .i64 o)), (3, (V.ptr 3 0 0))], [(3, ⟨false, 4, [(enc_T_api_Base a0)]⟩)], 24⟩ : St)) := by
  refine Eq.trans regionE_reg ?_
  refine Eq.trans (reg_adv (m := 3) (j := 3) (st' := ⟨[(1, (V.int .i64 a1)), (2, (V.int .i64 a2)), (3, (V.ptr 3 0 0)), (7, (V.ptr 3 0 2)), (8, (V.sl 0 8 (List.map enc_T_api_Type a0.fTypes))), (9, (V.int .i64 a2))], [(3, ⟨false, 4, [(enc_T_api_Base a0)]⟩)], 24⟩) rfl rfl rfl) ?_
  refine Eq.trans (reg_pure (x := (idx a0.fTypes a2)) (w := fun v1 => (V.pro (enc_T_api_Type v1))) rfl rfl rfl rfl (p_index (e := enc_T_api_Type) rfl rfl rfl Go.Proofs.Try.underlying22 rfl (by decide))) ?_
  refine bindE (fun v1 => ?_)
  exact bind_end rfl
theorem ref11_above_r2 (k : Nat) (a0 : T_api_Base) (a1 : Int) (x5 : Int) : regionE prog (evF prog anns ext k) ref11_above_a2 ref11_above_o2 false ⟨[(1, (V.int .i64 a1)), (2, (V.int .i64 x5)), (3, (V.ptr 3 0 0))], [(3, ⟨false, 4, [(enc_T_api_Base a0)]⟩)], 24⟩ = some ⟨[(1, (V.int .i64 a1)), (2, (V.int .i64 x5)), (3, (V.ptr 3 0 0)), (14, (V.bool (decide (x5 ≥ 0))))], [(3, ⟨false, 4, [(enc_T_api_Base a0)]⟩)], 24⟩ := by
  refine Eq.trans regionE_reg ?_
  exact reg_end rfl
theorem ref11_above_r4 (k : Nat) (a0 : T_api_Base) (a1 : Int) (x5 : Int) : regionE prog (evF prog anns ext k) ref11_above_a4 ref11_above_o4 false ⟨[(1, (V.int .i64 a1)), (2, (V.int .i64 x5)), (3, (V.ptr 3 0 0)), (14, (V.bool true))], [(3, ⟨false, 4, [(enc_T_api_Base a0)]⟩)], 24⟩ = some ⟨[(1, (V.int .i64 a1)), (2, (V.int .i64 x5)), (3, (V.ptr 3 0 0)), (23, (V.bool (x5 == a1)))], [(3, ⟨false, 4, [(enc_T_api_Base a0)]⟩)], 24⟩ := by
  refine Eq.trans regionE_reg ?_
  exact reg_end rfl
theorem ref11_above_r5 (k : Nat) (a0 : T_api_Base) (a1 : Int) (x5 : Int) : regionE prog (evF prog anns ext k) ref11_above_a5 ref11_above_o5 false ⟨[(1, (V.int .i64 a1)), (2, (V.int .i64 x5)), (3, (V.ptr 3 0 0)), (23, (V.bool true))], [(3, ⟨false, 4, [(enc_T_api_Base a0)]⟩)], 24⟩ = some ⟨[(6, (V.bool true))], [], 24⟩ := by
  refine Eq.trans regionE_reg ?_
  exact reg_end rfl
theorem ref11_above_r3 (k : Nat) (a0 : T_api_Base) (a1 : Int) (x5 : Int) : regionE prog (evF prog anns ext k) ref11_above_a3 ref11_above_o3 false ⟨[(1, (V.int .i64 a1)), (2, (V.int .i64 x5)), (3, (V.ptr 3 0 0)), (23, (V.bool false))], [(3, ⟨false, 4, [(enc_T_api_Base a0)]⟩)], 24⟩ = (((idx a0.fTypes x5).bind fun v6 => (some (v6.fParent)))).map (fun (o : Int) => (⟨[(1, (V.int .i64 a1)), (2, (V.int .i64 o)), (3, (V.ptr 3 0 0))], [(3, ⟨false, 4, [(enc_T_api_Base a0)]⟩)], 24⟩ : St)) := by
  refine Eq.trans regionE_reg ?_
  refine Eq.trans (reg_adv (m := 3) (j := 3) (st' := ⟨[(1, (V.int .i64 a1)), (2, (V.int .i64 x5)), (3, (V.ptr 3 0 0)), (15, (V.ptr 3 0 2)), (16, (V.sl 0 8 (List.map enc_T_api_Type a0.fTypes))), (17, (V.int .i64 x5)), (23, (V.bool false))], [(3, ⟨false, 4, [(enc_T_api_Base a0)]⟩)], 24⟩) rfl rfl rfl) ?_
  refine Eq.trans (reg_pure (x := (idx a0.fTypes x5)) (w := fun v6 => (V.pro (enc_T_api_Type v6))) rfl rfl rfl rfl (p_index (e := enc_T_api_Type) rfl rfl rfl Go.Proofs.Try.underlying22 rfl (by decide))) ?_
  refine bindE (fun v6 => ?_)
  exact bind_end rfl
theorem ref11_above_L1_ok (k : Nat) (a0 : T_api_Base) (a1 : Int) (a2 : Int)  (K0 : Int → Option Bool) (Kst : X × St → Option (V × List V)) (hK0 : ∀ (y0 : Int), Kst (X.exit 0, ⟨[(1, (V.int .i64 a1)), (2, (V.int .i64 y0)), (3, (V.ptr 3 0 0)), (14, (V.bool false))], [(3, ⟨false, 4, [(enc_T_api_Base a0)]⟩)], 24⟩) = (K0 y0).map ref11_above_fin) (hret : ∀ s, Kst (X.ret, s) = endK prog 24 [(enc_T_api_Base a0), (V.int .i64 a1), (V.int .i64 a2)] [] [.tmp 6] (X.ret, s)) :
    ∀ (m : Nat) (x5 : Int), (iter (exec prog (evF prog anns ext k) ref11_above_an k ref11_above_b0) m ⟨[(1, (V.int .i64 a1)), (2, (V.int .i64 x5)), (3, (V.ptr 3 0 0))], [(3, ⟨false, 4, [(enc_T_api_Base a0)]⟩)], 24⟩).bind Kst = (ref11_above_L1 a0 a1 K0 m x5).map ref11_above_fin := by
  intro m
  induction m with
  | zero => intros; rfl
  | succ m ih =>
    intro x5
    unfold ref11_above_L1
    refine Eq.trans k_round ?_
    refine Eq.trans k_assoc ?_
    refine Eq.trans (k_region0 rfl (ref11_above_r2 k a0 a1 x5)) ?_
    refine Eq.trans (k_cond (t := (decide (x5 ≥ 0))) rfl) ?_
    refine bifE2 (fun hc => ?_) (fun hc => ?_)
    · rw [hc]
      refine Eq.trans k_skip ?_
      refine Eq.trans k_block ?_
      refine Eq.trans (k_region0 rfl (ref11_above_r4 k a0 a1 x5)) ?_
      refine Eq.trans (k_lcond (t := (x5 == a1)) rfl) ?_
      refine bifE2 (fun hc => ?_) (fun hc => ?_)
      · rw [hc]
        refine Eq.trans (k_region0 rfl (ref11_above_r5 k a0 a1 x5)) ?_
        refine Eq.trans k_lret ?_
        refine Eq.trans blk_ret ?_
        refine Eq.trans loop_ret ?_
        refine Eq.trans (hret _) ?_
        rfl
      · rw [hc]
        refine Eq.trans k_lskip ?_
        refine Eq.trans blk_normal ?_
        refine Eq.trans (k_lregion rfl (ref11_above_r3 k a0 a1 x5)) ?_
        refine bindE (fun o7 => ?_)
        refine Eq.trans loop_normal ?_
        exact ih o7
    · rw [hc]
      refine Eq.trans k_exit ?_
      refine Eq.trans loop_exit ?_
      exact hK0 x5
theorem ref11_above_r6 (k : Nat) (a0 : T_api_Base) (a1 : Int) (y8 : Int) : regionE prog (evF prog anns ext k) ref11_above_a6 ref11_above_o6 false ⟨[(1, (V.int .i64 a1)), (2, (V.int .i64 y8)), (3, (V.ptr 3 0 0)), (14, (V.bool false))], [(3, ⟨false, 4, [(enc_T_api_Base a0)]⟩)], 24⟩ = some ⟨[(6, (V.bool false))], [], 24⟩ := by
  refine Eq.trans regionE_reg ?_
  exact reg_end rfl
theorem ref11_above_ok (k : Nat) (a0 : T_api_Base) (a1 : Int) (a2 : Int) : evF prog anns ext k 43 [(enc_T_api_Base a0), (V.int .i64 a1), (V.int .i64 a2)] = (ref11_above k a0 a1 a2).map ref11_above_fin := by
  cases k with
  | zero => rfl
  | succ k =>
    unfold ref11_above
    refine Eq.trans (evF_succ (c := ref11_above_c) (N := 24) (regs := ref11_above_an) rfl Go.Proofs.Try.func43 rfl (by decide) rfl rfl rfl) ?_
    refine Eq.trans (k_region0 rfl (ref11_above_r0 k a0 a1 a2)) ?_
    refine Eq.trans k_assoc ?_
    refine Eq.trans (k_region rfl (ref11_above_r1 k a0 a1 a2)) ?_
    refine bindE (fun o2 => ?_)
    refine Eq.trans k_block ?_
    refine Eq.trans k_loop ?_
    refine ref11_above_L1_ok k a0 a1 a2 _ _ ?h_ref11_above_L1_0 ?hr_ref11_above_L1 k o2
    · intro y8
      refine Eq.trans blk_exit ?_
      refine Eq.trans (k_region0 rfl (ref11_above_r6 k a0 a1 y8)) ?_
      refine Eq.trans k_lret ?_
      rfl
    · intro s; exact rfl
def ref11_way_fin : (List Int) → V × List V := fun r => ((V.sl 0 1 (List.map (V.int .i64) r)), [])
theorem ref11_way_r0 (k : Nat) (a0 : T_api_Base) (a1 : Int) : regionE prog (evF prog anns ext k) ref11_way_a0 ref11_way_o0 false ⟨[(0, (enc_T_api_Base a0)), (1, (V.int .i64 a1))], [], 19⟩ = some ⟨[(1, (V.int .i64 a1)), (2, (V.ptr 2 0 0))], [(2, ⟨false, 4, [(enc_T_api_Base a0)]⟩)], 19⟩ := by
  refine Eq.trans regionE_reg ?_
  exact reg_end rfl
theorem ref11_way_r1 (k : Nat) (a0 : T_api_Base) (a1 : Int) : regionE prog (evF prog anns ext k) ref11_way_a1 ref11_way_o1 false ⟨[(1, (V.int .i64 a1)), (2, (V.ptr 2 0 0))], [(2, ⟨false, 4, [(enc_T_api_Base a0)]⟩)], 19⟩ = some ⟨[(1, (V.int .i64 a1)), (2, (V.ptr 2 0 0)), (5, (V.sl 0 1 (List.map (V.int .i64) ([] : List Int))))], [(2, ⟨false, 4, [(enc_T_api_Base a0)]⟩)], 19⟩ := by
  refine Eq.trans regionE_reg ?_
  exact reg_end rfl
theorem ref11_way_r2 (k : Nat) (a0 : T_api_Base) (x5 : Int) (x6 : (List Int)) : regionE prog (evF prog anns ext k) ref11_way_a2 ref11_way_o2 false ⟨[(1, (V.int .i64 x5)), (2, (V.ptr 2 0 0)), (5, (V.sl 0 1 (List.map (V.int .i64) x6)))], [(2, ⟨false, 4, [(enc_T_api_Base a0)]⟩)], 19⟩ = some ⟨[(1, (V.int .i64 x5)), (2, (V.ptr 2 0 0)), (5, (V.sl 0 1 (List.map (V.int .i64) x6))), (7, (V.bool (decide (x5 ≥ 0))))], [(2, ⟨false, 4, [(enc_T_api_Base a0)]⟩)], 19⟩ := by
  refine Eq.trans regionE_reg ?_
  exact reg_end rfl
theorem ref11_way_r3 (k : Nat) (a0 : T_api_Base) (x5 : Int) (x6 : (List Int)) : regionE prog (evF prog anns ext k) ref11_way_a3 ref11_way_o3 false ⟨[(1, (V.int .i64 x5)), (2, (V.ptr 2 0 0)), (5, (V.sl 0 1 (List.map (V.int .i64) x6))), (7, (V.bool true))], [(2, ⟨false, 4, [(enc_T_api_Base a0)]⟩)], 19⟩ = ((app ([x5] : List Int) x6)).map (fun (o : (List Int)) => (⟨[(1, (V.int .i64 x5)), (2, (V.ptr 2 0 0)), (5, (V.sl 0 1 (List.map (V.int .i64) o)))], [(2, ⟨false, 4, [(enc_T_api_Base a0)]⟩)], 19⟩ : St)) := by
  refine Eq.trans regionE_reg ?_
  refine Eq.trans (reg_adv (m := 3) (j := 3) (st' := ⟨[(1, (V.int .i64 x5)), (2, (V.ptr 2 0 0)), (5, (V.sl 0 1 (List.map (V.int .i64) x6))), (7, (V.bool true)), (8, (V.int .i64 x5)), (9, (V.sl 1 1 (List.map (V.int .i64) ([x5] : List Int)))), (10, (V.sl 0 1 (List.map (V.int .i64) x6)))], [(2, ⟨false, 4, [(enc_T_api_Base a0)]⟩)], 19⟩) rfl rfl rfl) ?_
  refine Eq.trans (reg_eff (x := (app ([x5] : List Int) x6)) (w := fun v7 => ((V.sl 1 1 (List.map (V.int .i64) v7)), _)) rfl rfl rfl rfl (p_app (e := (V.int .i64)) rfl rfl rfl rfl rfl rfl rfl rfl rfl rfl (by decide))) ?_
  refine bind_self (fun v7 => ?_)
  exact bind_end rfl
theorem ref11_way_r4 (k : Nat) (a0 : T_api_Base) (x5 : Int) (o8 : (List Int)) : regionE prog (evF prog anns ext k) ref11_way_a4 ref11_way_o4 false ⟨[(1, (V.int .i64 x5)), (2, (V.ptr 2 0 0)), (5, (V.sl 0 1 (List.map (V.int .i64) o8)))], [(2, ⟨false, 4, [(enc_T_api_Base a0)]⟩)], 19⟩ = (((idx a0.fTypes x5).bind fun v9 => (some (v9.fParent)))).map (fun (o : Int) => (⟨[(1, (V.int .i64 o)), (2, (V.ptr 2 0 0)), (5, (V.sl 0 1 (List.map (V.int .i64) o8)))], [(2, ⟨false, 4, [(enc_T_api_Base a0)]⟩)], 19⟩ : St)) := by
  refine Eq.trans regionE_reg ?_
  refine Eq.trans (reg_adv (m := 3) (j := 3) (st' := ⟨[(1, (V.int .i64 x5)), (2, (V.ptr 2 0 0)), (5, (V.sl 0 1 (List.map (V.int .i64) o8))), (12, (V.ptr 2 0 2)), (13, (V.sl 0 8 (List.map enc_T_api_Type a0.fTypes))), (14, (V.int .i64 x5))], [(2, ⟨false, 4, [(enc_T_api_Base a0)]⟩)], 19⟩) rfl rfl rfl) ?_
  refine Eq.trans (reg_pure (x := (idx a0.fTypes x5)) (w := fun v9 => (V.pro (enc_T_api_Type v9))) rfl rfl rfl rfl (p_index (e := enc_T_api_Type) rfl rfl rfl Go.Proofs.Try.underlying22 rfl (by decide))) ?_
  refine bindE (fun v9 => ?_)
  exact bind_end rfl
theorem ref11_way_L1_ok (k : Nat) (a0 : T_api_Base) (a1 : Int)  (K0 : Int → (List Int) → Option (List Int)) (Kst : X × St → Option (V × List V)) (hK0 : ∀ (y0 : Int) (y1 : (List Int)), Kst (X.exit 0, ⟨[(1, (V.int .i64 y0)), (2, (V.ptr 2 0 0)), (5, (V.sl 0 1 (List.map (V.int .i64) y1))), (7, (V.bool false))], [(2, ⟨false, 4, [(enc_T_api_Base a0)]⟩)], 19⟩) = (K0 y0 y1).map ref11_way_fin) (hret : ∀ s, Kst (X.ret, s) = endK prog 19 [(enc_T_api_Base a0), (V.int .i64 a1)] [] [.tmp 4] (X.ret, s)) :
    ∀ (m : Nat) (x5 : Int) (x6 : (List Int)), (iter (exec prog (evF prog anns ext k) ref11_way_an k ref11_way_b0) m ⟨[(1, (V.int .i64 x5)), (2, (V.ptr 2 0 0)), (5, (V.sl 0 1 (List.map (V.int .i64) x6)))], [(2, ⟨false, 4, [(enc_T_api_Base a0)]⟩)], 19⟩).bind Kst = (ref11_way_L1 a0 K0 m x5 x6).map ref11_way_fin := by
  intro m
  induction m with
  | zero => intros; rfl
  | succ m ih =>
    intro x5 x6
    unfold ref11_way_L1
    refine Eq.trans k_round ?_
    refine Eq.trans k_assoc ?_
    refine Eq.trans (k_region0 rfl (ref11_way_r2 k a0 x5 x6)) ?_
    refine Eq.trans (k_cond (t := (decide (x5 ≥ 0))) rfl) ?_
    refine bifE2 (fun hc => ?_) (fun hc => ?_)
    · rw [hc]
      refine Eq.trans k_skip ?_
      refine Eq.trans k_lblock ?_
      refine Eq.trans (k_region rfl (ref11_way_r3 k a0 x5 x6)) ?_
      refine bindE (fun o8 => ?_)
      refine Eq.trans (k_lregion rfl (ref11_way_r4 k a0 x5 o8)) ?_
      refine bindE (fun o10 => ?_)
      refine Eq.trans blk_normal ?_
      refine Eq.trans k_lskip ?_
      refine Eq.trans loop_normal ?_
      exact ih o10 o8
    · rw [hc]
      refine Eq.trans k_exit ?_
      refine Eq.trans loop_exit ?_
      exact hK0 x5 x6
theorem ref11_way_r5 (k : Nat) (a0 : T_api_Base) (y11 : Int) (y12 : (List Int)) : regionE prog (evF prog anns ext k) ref11_way_a5 ref11_way_o5 false ⟨[(1, (V.int .i64 y11)), (2, (V.ptr 2 0 0)), (5, (V.sl 0 1 (List.map (V.int .i64) y12))), (7, (V.bool false))], [(2, ⟨false, 4, [(enc_T_api_Base a0)]⟩)], 19⟩ = some ⟨[(4, (V.sl 0 1 (List.map (V.int .i64) y12)))], [], 19⟩ := by
  refine Eq.trans regionE_reg ?_
  exact reg_end rfl
theorem ref11_way_ok (k : Nat) (a0 : T_api_Base) (a1 : Int) : evF prog anns ext k 41 [(enc_T_api_Base a0), (V.int .i64 a1)] = (ref11_way k a0 a1).map ref11_way_fin := by
  cases k with
  | zero => rfl
  | succ k =>
    unfold ref11_way
    refine Eq.trans (evF_succ (c := ref11_way_c) (N := 19) (regs := ref11_way_an) rfl Go.Proofs.Try.func41 rfl (by decide) rfl rfl rfl) ?_
    refine Eq.trans (k_region0 rfl (ref11_way_r0 k a0 a1)) ?_
    refine Eq.trans (k_region0 rfl (ref11_way_r1 k a0 a1)) ?_
    refine Eq.trans k_block ?_
    refine Eq.trans k_loop ?_
    refine ref11_way_L1_ok k a0 a1 _ _ ?h_ref11_way_L1_0 ?hr_ref11_way_L1 k a1 ([] : List Int)
    · intro y11 y12
      refine Eq.trans blk_exit ?_
      refine Eq.trans (k_region0 rfl (ref11_way_r5 k a0 y11 y12)) ?_
      refine Eq.trans k_lret ?_
      rfl
    · intro s; exact rfl
def ref11_Valid_fin : Bool → V × List V := fun r => ((V.bool r), [])
theorem ref11_Valid_r0 (k : Nat) (a0 : T_api_Base) : regionE prog (evF prog anns ext k) ref11_Valid_a0 ref11_Valid_o0 false ⟨[(0, (enc_T_api_Base a0))], [], 232⟩ = some ⟨[(1, (V.ptr 1 0 0))], [(1, ⟨false, 4, [(enc_T_api_Base a0)]⟩)], 232⟩ := by
  refine Eq.trans regionE_reg ?_
  exact reg_end rfl
theorem ref11_Valid_r1 (k : Nat) (a0 : T_api_Base) : regionE prog (evF prog anns ext k) ref11_Valid_a1 ref11_Valid_o1 false ⟨[(1, (V.ptr 1 0 0))], [(1, ⟨false, 4, [(enc_T_api_Base a0)]⟩)], 232⟩ = (((ref11_IsName k a0.fName).bind fun v1 => (bif (!v1) then (some (true)) else (bif (decide (a0.fKind < 1)) then (some (true)) else (bif (decide (a0.fKind > 4)) then (some (true)) else (bif (decide ((a0.fTypes.length : Int) < 1)) then (some (true)) else (bif (decide ((a0.fTypes.length : Int) > 8)) then (some (true)) else (some ((decide ((a0.fIndexes.length : Int) > 3))))))))))).map (fun (o : Bool) => (⟨[(1, (V.ptr 1 0 0)), (40, (V.bool o))], [(1, ⟨false, 4, [(enc_T_api_Base a0)]⟩)], 232⟩ : St)) := by
  refine Eq.trans regionE_reg ?_
  refine Eq.trans (reg_adv (m := 2) (j := 2) (st' := ⟨[(1, (V.ptr 1 0 0)), (9, (V.ptr 1 0 0)), (10, (V.str a0.fName))], [(1, ⟨false, 4, [(enc_T_api_Base a0)]⟩)], 232⟩) rfl rfl rfl) ?_
  refine Eq.trans (reg_pure (x := (ref11_IsName k a0.fName)) (w := fun v1 => (V.bool v1)) rfl rfl rfl rfl (p_call rfl rfl rfl rfl rfl (ref11_IsName_ok k a0.fName) (.inl rfl))) ?_
  refine bindE (fun v1 => ?_)
  refine Eq.trans (bind_adv (m := 2) (j := 5) (st' := ⟨[(1, (V.ptr 1 0 0)), (9, (V.ptr 1 0 0)), (10, (V.str a0.fName)), (11, (V.bool v1)), (12, (V.bool (!v1))), (13, (V.bool (!v1)))], [(1, ⟨false, 4, [(enc_T_api_Base a0)]⟩)], 232⟩) rfl rfl rfl) ?_
  refine bifE (c := (!v1)) (fun hc => ?_) (fun hc => ?_)
  · rw [hc]
    exact reg_end rfl
  · rw [hc]
    refine Eq.trans (reg_adv (m := 5) (j := 10) (st' := ⟨[(1, (V.ptr 1 0 0)), (9, (V.ptr 1 0 0)), (10, (V.str a0.fName)), (11, (V.bool v1)), (12, (V.bool false)), (13, (V.bool false)), (14, (V.ptr 1 0 1)), (15, (V.int .i64 a0.fKind)), (16, (V.bool (decide (a0.fKind < 1)))), (17, (V.bool (decide (a0.fKind < 1)))), (18, (V.bool (decide (a0.fKind < 1))))], [(1, ⟨false, 4, [(enc_T_api_Base a0)]⟩)], 232⟩) rfl rfl rfl) ?_
    refine bifE (c := (decide (a0.fKind < 1))) (fun hc => ?_) (fun hc => ?_)
    · rw [hc]
      exact reg_end rfl
    · rw [hc]
      refine Eq.trans (reg_adv (m := 5) (j := 15) (st' := ⟨[(1, (V.ptr 1 0 0)), (9, (V.ptr 1 0 0)), (10, (V.str a0.fName)), (11, (V.bool v1)), (12, (V.bool false)), (13, (V.bool false)), (14, (V.ptr 1 0 1)), (15, (V.int .i64 a0.fKind)), (16, (V.bool false)), (17, (V.bool false)), (18, (V.bool false)), (19, (V.ptr 1 0 1)), (20, (V.int .i64 a0.fKind)), (21, (V.bool (decide (a0.fKind > 4)))), (22, (V.bool (decide (a0.fKind > 4)))), (23, (V.bool (decide (a0.fKind > 4))))], [(1, ⟨false, 4, [(enc_T_api_Base a0)]⟩)], 232⟩) rfl rfl rfl) ?_
      refine bifE (c := (decide (a0.fKind > 4))) (fun hc => ?_) (fun hc => ?_)
      · rw [hc]
        exact reg_end rfl
      · rw [hc]
        refine Eq.trans (reg_adv (m := 2) (j := 17) (st' := ⟨[(1, (V.ptr 1 0 0)), (9, (V.ptr 1 0 0)), (10, (V.str a0.fName)), (11, (V.bool v1)), (12, (V.bool false)), (13, (V.bool false)), (14, (V.ptr 1 0 1)), (15, (V.int .i64 a0.fKind)), (16, (V.bool false)), (17, (V.bool false)), (18, (V.bool false)), (19, (V.ptr 1 0 1)), (20, (V.int .i64 a0.fKind)), (21, (V.bool false)), (22, (V.bool false)), (23, (V.bool false)), (24, (V.ptr 1 0 2)), (25, (V.sl 0 8 (List.map enc_T_api_Type a0.fTypes)))], [(1, ⟨false, 4, [(enc_T_api_Base a0)]⟩)], 232⟩) rfl rfl rfl) ?_
        refine Eq.trans (reg_pure (x := some ()) (w := fun _ => (V.int .i64 (a0.fTypes.length : Int))) rfl rfl rfl rfl (p_len (e := enc_T_api_Type) rfl rfl rfl rfl rfl rfl Go.Proofs.Try.underlying22)) ?_
        refine Eq.trans some_bind ?_
        refine Eq.trans (bind_adv (m := 3) (j := 21) (st' := ⟨[(1, (V.ptr 1 0 0)), (9, (V.ptr 1 0 0)), (10, (V.str a0.fName)), (11, (V.bool v1)), (12, (V.bool false)), (13, (V.bool false)), (14, (V.ptr 1 0 1)), (15, (V.int .i64 a0.fKind)), (16, (V.bool false)), (17, (V.bool false)), (18, (V.bool false)), (19, (V.ptr 1 0 1)), (20, (V.int .i64 a0.fKind)), (21, (V.bool false)), (22, (V.bool false)), (23, (V.bool false)), (24, (V.ptr 1 0 2)), (25, (V.sl 0 8 (List.map enc_T_api_Type a0.fTypes))), (26, (V.int .i64 (a0.fTypes.length : Int))), (27, (V.bool (decide ((a0.fTypes.length : Int) < 1)))), (28, (V.bool (decide ((a0.fTypes.length : Int) < 1)))), (29, (V.bool (decide ((a0.fTypes.length : Int) < 1))))], [(1, ⟨false, 4, [(enc_T_api_Base a0)]⟩)], 232⟩) rfl rfl rfl) ?_
        refine bifE (c := (decide ((a0.fTypes.length : Int) < 1))) (fun hc => ?_) (fun hc => ?_)
        · rw [hc]
          exact reg_end rfl
        · rw [hc]
          refine Eq.trans (reg_adv (m := 2) (j := 23) (st' := ⟨[(1, (V.ptr 1 0 0)), (9, (V.ptr 1 0 0)), (10, (V.str a0.fName)), (11, (V.bool v1)), (12, (V.bool false)), (13, (V.bool false)), (14, (V.ptr 1 0 1)), (15, (V.int .i64 a0.fKind)), (16, (V.bool false)), (17, (V.bool false)), (18, (V.bool false)), (19, (V.ptr 1 0 1)), (20, (V.int .i64 a0.fKind)), (21, (V.bool false)), (22, (V.bool false)), (23, (V.bool false)), (24, (V.ptr 1 0 2)), (25, (V.sl 0 8 (List.map enc_T_api_Type a0.fTypes))), (26, (V.int .i64 (a0.fTypes.length : Int))), (27, (V.bool false)), (28, (V.bool false)), (29, (V.bool false)), (30, (V.ptr 1 0 2)), (31, (V.sl 0 8 (List.map enc_T_api_Type a0.fTypes)))], [(1, ⟨false, 4, [(enc_T_api_Base a0)]⟩)], 232⟩) rfl rfl rfl) ?_
          refine Eq.trans (reg_pure (x := some ()) (w := fun _ => (V.int .i64 (a0.fTypes.length : Int))) rfl rfl rfl rfl (p_len (e := enc_T_api_Type) rfl rfl rfl rfl rfl rfl Go.Proofs.Try.underlying22)) ?_
          refine Eq.trans some_bind ?_
          refine Eq.trans (bind_adv (m := 3) (j := 27) (st' := ⟨[(1, (V.ptr 1 0 0)), (9, (V.ptr 1 0 0)), (10, (V.str a0.fName)), (11, (V.bool v1)), (12, (V.bool false)), (13, (V.bool false)), (14, (V.ptr 1 0 1)), (15, (V.int .i64 a0.fKind)), (16, (V.bool false)), (17, (V.bool false)), (18, (V.bool false)), (19, (V.ptr 1 0 1)), (20, (V.int .i64 a0.fKind)), (21, (V.bool false)), (22, (V.bool false)), (23, (V.bool false)), (24, (V.ptr 1 0 2)), (25, (V.sl 0 8 (List.map enc_T_api_Type a0.fTypes))), (26, (V.int .i64 (a0.fTypes.length : Int))), (27, (V.bool false)), (28, (V.bool false)), (29, (V.bool false)), (30, (V.ptr 1 0 2)), (31, (V.sl 0 8 (List.map enc_T_api_Type a0.fTypes))), (32, (V.int .i64 (a0.fTypes.length : Int))), (33, (V.bool (decide ((a0.fTypes.length : Int) > 8)))), (34, (V.bool (decide ((a0.fTypes.length : Int) > 8)))), (35, (V.bool (decide ((a0.fTypes.length : Int) > 8))))], [(1, ⟨false, 4, [(enc_T_api_Base a0)]⟩)], 232⟩) rfl rfl rfl) ?_
          refine bifE (c := (decide ((a0.fTypes.length : Int) > 8))) (fun hc => ?_) (fun hc => ?_)
          · rw [hc]
            exact reg_end rfl
          · rw [hc]
            refine Eq.trans (reg_adv (m := 2) (j := 29) (st' := ⟨[(1, (V.ptr 1 0 0)), (9, (V.ptr 1 0 0)), (10, (V.str a0.fName)), (11, (V.bool v1)), (12, (V.bool false)), (13, (V.bool false)), (14, (V.ptr 1 0 1)), (15, (V.int .i64 a0.fKind)), (16, (V.bool false)), (17, (V.bool false)), (18, (V.bool false)), (19, (V.ptr 1 0 1)), (20, (V.int .i64 a0.fKind)), (21, (V.bool false)), (22, (V.bool false)), (23, (V.bool false)), (24, (V.ptr 1 0 2)), (25, (V.sl 0 8 (List.map enc_T_api_Type a0.fTypes))), (26, (V.int .i64 (a0.fTypes.length : Int))), (27, (V.bool false)), (28, (V.bool false)), (29, (V.bool false)), (30, (V.ptr 1 0 2)), (31, (V.sl 0 8 (List.map enc_T_api_Type a0.fTypes))), (32, (V.int .i64 (a0.fTypes.length : Int))), (33, (V.bool false)), (34, (V.bool false)), (35, (V.bool false)), (36, (V.ptr 1 0 3)), (37, (V.sl 0 4 (List.map enc_T_api_Search a0.fIndexes)))], [(1, ⟨false, 4, [(enc_T_api_Base a0)]⟩)], 232⟩) rfl rfl rfl) ?_
            refine Eq.trans (reg_pure (x := some ()) (w := fun _ => (V.int .i64 (a0.fIndexes.length : Int))) rfl rfl rfl rfl (p_len (e := enc_T_api_Search) rfl rfl rfl rfl rfl rfl Go.Proofs.Try.underlying23)) ?_
            refine Eq.trans some_bind ?_
            exact bind_end rfl
theorem ref11_Valid_r2 (k : Nat) (a0 : T_api_Base) : regionE prog (evF prog anns ext k) ref11_Valid_a2 ref11_Valid_o2 false ⟨[(1, (V.ptr 1 0 0)), (40, (V.bool true))], [(1, ⟨false, 4, [(enc_T_api_Base a0)]⟩)], 232⟩ = some ⟨[(2, (V.bool false))], [], 232⟩ := by
  refine Eq.trans regionE_reg ?_
  exact reg_end rfl
theorem ref11_Valid_r3 (k : Nat) (a0 : T_api_Base) : regionE prog (evF prog anns ext k) ref11_Valid_a3 ref11_Valid_o3 false ⟨[(1, (V.ptr 1 0 0)), (40, (V.bool false))], [(1, ⟨false, 4, [(enc_T_api_Base a0)]⟩)], 232⟩ = some ⟨[(1, (V.ptr 1 0 0)), (3, (V.int .i64 0))], [(1, ⟨false, 4, [(enc_T_api_Base a0)]⟩)], 232⟩ := by
  refine Eq.trans regionE_reg ?_
  exact reg_end rfl
theorem ref11_Valid_r4 (k : Nat) (a0 : T_api_Base) (x20 : Int) : regionE prog (evF prog anns ext k) ref11_Valid_a4 ref11_Valid_o4 false ⟨[(1, (V.ptr 1 0 0)), (3, (V.int .i64 x20))], [(1, ⟨false, 4, [(enc_T_api_Base a0)]⟩)], 232⟩ = some ⟨[(1, (V.ptr 1 0 0)), (3, (V.int .i64 x20)), (45, (V.bool (decide (x20 < (a0.fTypes.length : Int)))))], [(1, ⟨false, 4, [(enc_T_api_Base a0)]⟩)], 232⟩ := by
  refine Eq.trans regionE_reg ?_
  refine Eq.trans (reg_adv (m := 3) (j := 3) (st' := ⟨[(1, (V.ptr 1 0 0)), (3, (V.int .i64 x20)), (41, (V.int .i64 x20)), (42, (V.ptr 1 0 2)), (43, (V.sl 0 8 (List.map enc_T_api_Type a0.fTypes)))], [(1, ⟨false, 4, [(enc_T_api_Base a0)]⟩)], 232⟩) rfl rfl rfl) ?_
  refine Eq.trans (reg_pure (x := some ()) (w := fun _ => (V.int .i64 (a0.fTypes.length : Int))) rfl rfl rfl rfl (p_len (e := enc_T_api_Type) rfl rfl rfl rfl rfl rfl Go.Proofs.Try.underlying22)) ?_
  refine Eq.trans some_bind ?_
  exact bind_end rfl
theorem ref11_Valid_r6 (k : Nat) (a0 : T_api_Base) (x20 : Int) : regionE prog (evF prog anns ext k) ref11_Valid_a6 ref11_Valid_o6 false ⟨[(1, (V.ptr 1 0 0)), (3, (V.int .i64 x20)), (45, (V.bool true))], [(1, ⟨false, 4, [(enc_T_api_Base a0)]⟩)], 232⟩ = ((idx a0.fTypes x20)).map (fun (o : T_api_Type) => (⟨[(1, (V.ptr 1 0 0)), (3, (V.int .i64 x20)), (4, (V.ptr 4 0 0))], [(1, ⟨false, 4, [(enc_T_api_Base a0)]⟩), (4, ⟨false, 8, [(enc_T_api_Type o)]⟩)], 232⟩ : St)) := by
  refine Eq.trans regionE_reg ?_
  refine Eq.trans (reg_adv (m := 3) (j := 3) (st' := ⟨[(1, (V.ptr 1 0 0)), (3, (V.int .i64 x20)), (45, (V.bool true)), (48, (V.ptr 1 0 2)), (49, (V.sl 0 8 (List.map enc_T_api_Type a0.fTypes))), (50, (V.int .i64 x20))], [(1, ⟨false, 4, [(enc_T_api_Base a0)]⟩)], 232⟩) rfl rfl rfl) ?_
  refine Eq.trans (reg_pure (x := (idx a0.fTypes x20)) (w := fun v21 => (V.pro (enc_T_api_Type v21))) rfl rfl rfl rfl (p_index (e := enc_T_api_Type) rfl rfl rfl Go.Proofs.Try.underlying22 rfl (by decide))) ?_
  refine bind_self (fun v21 => ?_)
  exact bind_end rfl
theorem ref11_Valid_r7 (k : Nat) (a0 : T_api_Base) (x20 : Int) (o22 : T_api_Type) : regionE prog (evF prog anns ext k) ref11_Valid_a7 ref11_Valid_o7 false ⟨[(1, (V.ptr 1 0 0)), (3, (V.int .i64 x20)), (4, (V.ptr 4 0 0))], [(1, ⟨false, 4, [(enc_T_api_Base a0)]⟩), (4, ⟨false, 8, [(enc_T_api_Type o22)]⟩)], 232⟩ = (((ref11_IsName k o22.fName).bind fun v23 => (bif (!v23) then (some (true)) else (bif (decide (o22.fMin < 1)) then (some (true)) else (bif (decide (o22.fMin > o22.fSize)) then (some (true)) else (bif (decide (o22.fSize > 40)) then (some (true)) else ((ref11_fields k o22).bind fun v24 => (some ((!v24)))))))))).map (fun (o : Bool) => (⟨[(1, (V.ptr 1 0 0)), (3, (V.int .i64 x20)), (4, (V.ptr 4 0 0)), (78, (V.bool o))], [(1, ⟨false, 4, [(enc_T_api_Base a0)]⟩), (4, ⟨false, 8, [(enc_T_api_Type o22)]⟩)], 232⟩ : St)) := by
  refine Eq.trans regionE_reg ?_
  refine Eq.trans (reg_adv (m := 2) (j := 2) (st' := ⟨[(1, (V.ptr 1 0 0)), (3, (V.int .i64 x20)), (4, (V.ptr 4 0 0)), (53, (V.ptr 4 0 0)), (54, (V.str o22.fName))], [(1, ⟨false, 4, [(enc_T_api_Base a0)]⟩), (4, ⟨false, 8, [(enc_T_api_Type o22)]⟩)], 232⟩) rfl rfl rfl) ?_
  refine Eq.trans (reg_pure (x := (ref11_IsName k o22.fName)) (w := fun v23 => (V.bool v23)) rfl rfl rfl rfl (p_call rfl rfl rfl rfl rfl (ref11_IsName_ok k o22.fName) (.inl rfl))) ?_
  refine bindE (fun v23 => ?_)
  refine Eq.trans (bind_adv (m := 2) (j := 5) (st' := ⟨[(1, (V.ptr 1 0 0)), (3, (V.int .i64 x20)), (4, (V.ptr 4 0 0)), (53, (V.ptr 4 0 0)), (54, (V.str o22.fName)), (55, (V.bool v23)), (56, (V.bool (!v23))), (57, (V.bool (!v23)))], [(1, ⟨false, 4, [(enc_T_api_Base a0)]⟩), (4, ⟨false, 8, [(enc_T_api_Type o22)]⟩)], 232⟩) rfl rfl rfl) ?_
  refine bifE (c := (!v23)) (fun hc => ?_) (fun hc => ?_)
  · rw [hc]
    exact reg_end rfl
  · rw [hc]
    refine Eq.trans (reg_adv (m := 5) (j := 10) (st' := ⟨[(1, (V.ptr 1 0 0)), (3, (V.int .i64 x20)), (4, (V.ptr 4 0 0)), (53, (V.ptr 4 0 0)), (54, (V.str o22.fName)), (55, (V.bool v23)), (56, (V.bool false)), (57, (V.bool false)), (58, (V.ptr 4 0 2)), (59, (V.int .i64 o22.fMin)), (60, (V.bool (decide (o22.fMin < 1)))), (61, (V.bool (decide (o22.fMin < 1)))), (62, (V.bool (decide (o22.fMin < 1))))], [(1, ⟨false, 4, [(enc_T_api_Base a0)]⟩), (4, ⟨false, 8, [(enc_T_api_Type o22)]⟩)], 232⟩) rfl rfl rfl) ?_
    refine bifE (c := (decide (o22.fMin < 1))) (fun hc => ?_) (fun hc => ?_)
    · rw [hc]
      exact reg_end rfl
    · rw [hc]
      refine Eq.trans (reg_adv (m := 7) (j := 17) (st' := ⟨[(1, (V.ptr 1 0 0)), (3, (V.int .i64 x20)), (4, (V.ptr 4 0 0)), (53, (V.ptr 4 0 0)), (54, (V.str o22.fName)), (55, (V.bool v23)), (56, (V.bool false)), (57, (V.bool false)), (58, (V.ptr 4 0 2)), (59, (V.int .i64 o22.fMin)), (60, (V.bool false)), (61, (V.bool false)), (62, (V.bool false)), (63, (V.ptr 4 0 2)), (64, (V.int .i64 o22.fMin)), (65, (V.ptr 4 0 3)), (66, (V.int .i64 o22.fSize)), (67, (V.bool (decide (o22.fMin > o22.fSize)))), (68, (V.bool (decide (o22.fMin > o22.fSize)))), (69, (V.bool (decide (o22.fMin > o22.fSize))))], [(1, ⟨false, 4, [(enc_T_api_Base a0)]⟩), (4, ⟨false, 8, [(enc_T_api_Type o22)]⟩)], 232⟩) rfl rfl rfl) ?_
      refine bifE (c := (decide (o22.fMin > o22.fSize))) (fun hc => ?_) (fun hc => ?_)
      · rw [hc]
        exact reg_end rfl
      · rw [hc]
        refine Eq.trans (reg_adv (m := 5) (j := 22) (st' := ⟨[(1, (V.ptr 1 0 0)), (3, (V.int .i64 x20)), (4, (V.ptr 4 0 0)), (53, (V.ptr 4 0 0)), (54, (V.str o22.fName)), (55, (V.bool v23)), (56, (V.bool false)), (57, (V.bool false)), (58, (V.ptr 4 0 2)), (59, (V.int .i64 o22.fMin)), (60, (V.bool false)), (61, (V.bool false)), (62, (V.bool false)), (63, (V.ptr 4 0 2)), (64, (V.int .i64 o22.fMin)), (65, (V.ptr 4 0 3)), (66, (V.int .i64 o22.fSize)), (67, (V.bool false)), (68, (V.bool false)), (69, (V.bool false)), (70, (V.ptr 4 0 3)), (71, (V.int .i64 o22.fSize)), (72, (V.bool (decide (o22.fSize > 40)))), (73, (V.bool (decide (o22.fSize > 40)))), (74, (V.bool (decide (o22.fSize > 40))))], [(1, ⟨false, 4, [(enc_T_api_Base a0)]⟩), (4, ⟨false, 8, [(enc_T_api_Type o22)]⟩)], 232⟩) rfl rfl rfl) ?_
        refine bifE (c := (decide (o22.fSize > 40))) (fun hc => ?_) (fun hc => ?_)
        · rw [hc]
          exact reg_end rfl
        · rw [hc]
          refine Eq.trans (reg_adv (m := 1) (j := 23) (st' := ⟨[(1, (V.ptr 1 0 0)), (3, (V.int .i64 x20)), (4, (V.ptr 4 0 0)), (53, (V.ptr 4 0 0)), (54, (V.str o22.fName)), (55, (V.bool v23)), (56, (V.bool false)), (57, (V.bool false)), (58, (V.ptr 4 0 2)), (59, (V.int .i64 o22.fMin)), (60, (V.bool false)), (61, (V.bool false)), (62, (V.bool false)), (63, (V.ptr 4 0 2)), (64, (V.int .i64 o22.fMin)), (65, (V.ptr 4 0 3)), (66, (V.int .i64 o22.fSize)), (67, (V.bool false)), (68, (V.bool false)), (69, (V.bool false)), (70, (V.ptr 4 0 3)), (71, (V.int .i64 o22.fSize)), (72, (V.bool false)), (73, (V.bool false)), (74, (V.bool false)), (75, (enc_T_api_Type o22))], [(1, ⟨false, 4, [(enc_T_api_Base a0)]⟩), (4, ⟨false, 8, [(enc_T_api_Type o22)]⟩)], 232⟩) rfl rfl rfl) ?_
          refine Eq.trans (reg_pure (x := (ref11_fields k o22)) (w := fun v24 => (V.bool v24)) rfl rfl rfl rfl (p_call rfl rfl rfl rfl rfl (ref11_fields_ok k o22) (.inl rfl))) ?_
          refine bindE (fun v24 => ?_)
          exact bind_end rfl
theorem ref11_Valid_r8 (k : Nat) (a0 : T_api_Base) (x20 : Int) (o22 : T_api_Type) : regionE prog (evF prog anns ext k) ref11_Valid_a8 ref11_Valid_o8 false ⟨[(1, (V.ptr 1 0 0)), (3, (V.int .i64 x20)), (4, (V.ptr 4 0 0)), (78, (V.bool true))], [(1, ⟨false, 4, [(enc_T_api_Base a0)]⟩), (4, ⟨false, 8, [(enc_T_api_Type o22)]⟩)], 232⟩ = some ⟨[(2, (V.bool false))], [], 232⟩ := by
  refine Eq.trans regionE_reg ?_
  exact reg_end rfl
theorem ref11_Valid_r9 (k : Nat) (a0 : T_api_Base) (x20 : Int) (o22 : T_api_Type) : regionE prog (evF prog anns ext k) ref11_Valid_a9 ref11_Valid_o9 false ⟨[(1, (V.ptr 1 0 0)), (3, (V.int .i64 x20)), (4, (V.ptr 4 0 0)), (78, (V.bool false))], [(1, ⟨false, 4, [(enc_T_api_Base a0)]⟩), (4, ⟨false, 8, [(enc_T_api_Type o22)]⟩)], 232⟩ = some ⟨[(1, (V.ptr 1 0 0)), (3, (V.int .i64 x20)), (4, (V.ptr 4 0 0)), (5, (V.int .i64 0))], [(1, ⟨false, 4, [(enc_T_api_Base a0)]⟩), (4, ⟨false, 8, [(enc_T_api_Type o22)]⟩)], 232⟩ := by
  refine Eq.trans regionE_reg ?_
  exact reg_end rfl
theorem ref11_Valid_r10 (k : Nat) (a0 : T_api_Base) (x20 : Int) (o22 : T_api_Type) (x28 : Int) : regionE prog (evF prog anns ext k) ref11_Valid_a10 ref11_Valid_o10 false ⟨[(1, (V.ptr 1 0 0)), (3, (V.int .i64 x20)), (4, (V.ptr 4 0 0)), (5, (V.int .i64 x28))], [(1, ⟨false, 4, [(enc_T_api_Base a0)]⟩), (4, ⟨false, 8, [(enc_T_api_Type o22)]⟩)], 232⟩ = some ⟨[(1, (V.ptr 1 0 0)), (3, (V.int .i64 x20)), (4, (V.ptr 4 0 0)), (5, (V.int .i64 x28)), (81, (V.bool (decide (x28 < x20))))], [(1, ⟨false, 4, [(enc_T_api_Base a0)]⟩), (4, ⟨false, 8, [(enc_T_api_Type o22)]⟩)], 232⟩ := by
  refine Eq.trans regionE_reg ?_
  exact reg_end rfl
theorem ref11_Valid_r12 (k : Nat) (a0 : T_api_Base) (x20 : Int) (o22 : T_api_Type) (x28 : Int) : regionE prog (evF prog anns ext k) ref11_Valid_a12 ref11_Valid_o12 true ⟨[(1, (V.ptr 1 0 0)), (3, (V.int .i64 x20)), (4, (V.ptr 4 0 0)), (5, (V.int .i64 x28)), (81, (V.bool true))], [(1, ⟨false, 4, [(enc_T_api_Base a0)]⟩), (4, ⟨false, 8, [(enc_T_api_Type o22)]⟩)], 232⟩ = (((idx a0.fTypes x28).bind fun v29 => (some ((v29.fName == o22.fName))))).map (fun (o : Bool) => (⟨[(1, (V.ptr 1 0 0)), (3, (V.int .i64 x20)), (4, (V.ptr 4 0 0)), (5, (V.int .i64 x28)), (92, (V.bool o))], [(1, ⟨false, 4, [(enc_T_api_Base a0)]⟩), (4, ⟨false, 8, [(enc_T_api_Type o22)]⟩)], 232⟩ : St)) := by
  refine Eq.trans (regionE_regp (p := 9) (t := [(1, (V.ptr 1 0 0)), (3, (V.int .i64 x20)), (4, (V.ptr 4 0 0)), (5, (V.int .i64 x28)), (81, (V.bool true))]) (σ := [(1, ⟨false, 4, [(enc_T_api_Base a0)]⟩), (4, ⟨false, 8, [(enc_T_api_Type o22)]⟩)]) (n := 232) (by decide) (by decide) rfl) ?_
  refine Eq.trans (regp_adv (m := 3) (j := 3) (t' := [(1, (V.ptr 1 0 0)), (3, (V.int .i64 x20)), (4, (V.ptr 4 0 0)), (5, (V.int .i64 x28)), (81, (V.bool true)), (84, (V.ptr 1 0 2)), (85, (V.sl 0 8 (List.map enc_T_api_Type a0.fTypes))), (86, (V.int .i64 x28))]) rfl rfl rfl) ?_
  refine Eq.trans (regp_pure (x := (idx a0.fTypes x28)) (w := fun v29 => (V.pro (enc_T_api_Type v29))) rfl rfl rfl rfl rfl (p_index (e := enc_T_api_Type) rfl rfl rfl Go.Proofs.Try.underlying22 rfl (by decide))) ?_
  refine bindE (fun v29 => ?_)
  exact regp_end rfl
theorem ref11_Valid_r13 (k : Nat) (a0 : T_api_Base) (x20 : Int) (o22 : T_api_Type) (x28 : Int) : regionE prog (evF prog anns ext k) ref11_Valid_a13 ref11_Valid_o13 false ⟨[(1, (V.ptr 1 0 0)), (3, (V.int .i64 x20)), (4, (V.ptr 4 0 0)), (5, (V.int .i64 x28)), (92, (V.bool true))], [(1, ⟨false, 4, [(enc_T_api_Base a0)]⟩), (4, ⟨false, 8, [(enc_T_api_Type o22)]⟩)], 232⟩ = some ⟨[(2, (V.bool false))], [], 232⟩ := by
  refine Eq.trans regionE_reg ?_
  exact reg_end rfl
theorem ref11_Valid_r11 (k : Nat) (a0 : T_api_Base) (x20 : Int) (o22 : T_api_Type) (x28 : Int) : regionE prog (evF prog anns ext k) ref11_Valid_a11 ref11_Valid_o11 false ⟨[(1, (V.ptr 1 0 0)), (3, (V.int .i64 x20)), (4, (V.ptr 4 0 0)), (5, (V.int .i64 x28)), (92, (V.bool false))], [(1, ⟨false, 4, [(enc_T_api_Base a0)]⟩), (4, ⟨false, 8, [(enc_T_api_Type o22)]⟩)], 232⟩ = some ⟨[(1, (V.ptr 1 0 0)), (3, (V.int .i64 x20)), (4, (V.ptr 4 0 0)), (5, (V.int .i64 (Go.IntKind.wrap .i64 (x28 + 1))))], [(1, ⟨false, 4, [(enc_T_api_Base a0)]⟩), (4, ⟨false, 8, [(enc_T_api_Type o22)]⟩)], 232⟩ := by
  refine Eq.trans regionE_reg ?_
  exact reg_end rfl
end Go.AE
