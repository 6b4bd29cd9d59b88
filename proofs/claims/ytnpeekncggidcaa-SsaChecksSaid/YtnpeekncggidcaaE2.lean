/- The program, function by function: the evaluator comes to the typed functions. Conditions: none. -/
import Derived.Test.YtnpeekncggidcaaA3
import Derived.KernelRfl
import Derived.Test.YtnpeekncggidcaaProg
import Derived.Test.YtnpeekncggidcaaB1
import Derived.Test.YtnpeekncggidcaaE1
namespace Go.AE
open Go.Proofs.Try Go.Sh
set_option linter.unusedSimpArgs false
set_option linter.unusedVariables false
set_option maxRecDepth 100000
set_option maxHeartbeats 4000000
noncomputable section
theorem ref11_fields_L1_ok (k : Nat) (a0 : T_api_Type)  (K0 : Int → Option Bool) (Kst : X × St → Option (V × List V)) (hK0 : ∀ (y0 : Int), Kst (X.exit 0, ⟨[(1, (Pt 1)), (3, (I y0)), (10, (Bo false))], [(1, vS 8 (eType a0))], 112⟩) = (K0 y0).map ref11_fields_fin) (hret : ∀ s, Kst (X.ret, s) = endK prog 112 [(eType a0)] [] [.tmp 2] (X.ret, s)) :
    ∀ (m : Nat) (x11 : Int), (iter (exec prog (EV k) f26n k f26b1) m ⟨[(1, (Pt 1)), (3, (I x11))], [(1, vS 8 (eType a0))], 112⟩).bind Kst = (ref11_fields_L1 k a0 K0 m x11).map ref11_fields_fin := by
  intro m
  induction m with
  | zero => intros; rfl
  | succ m ih =>
    intro x11
    unfold ref11_fields_L1
    refine et k_round <| et k_assoc <| krp f26a2 rfl ⟨[(1, (Pt 1)), (3, (I x11)), (10, (Bo (decide (x11 < (a0.fFields.length : Int)))))], [(1, vS 8 (eType a0))], 112⟩ ?_ ?_
    · exact rd 3 [(6, (I x11)), (7, (V.ptr 1 0 4)), (8, (sField a0.fFields))] rfl rfl <| rl rfl (p_len (e := eField) rfl rfl rfl rfl rfl rfl underlying43) <| bind_end rfl
    refine kc rfl rfl (fun hc => ?_) fun hc => ?_
    · rw [hc]
      refine et k_skip <| et (k_block rfl) <| kg f26a4 rfl (fun (o13 : T_api_Field) => ⟨[(1, (Pt 1)), (3, (I x11)), (4, (Pt 4))], [(1, vS 8 (eType a0)), (4, vS 3 (eField o13))], 112⟩) (rd 3 [(13, (V.ptr 1 0 4)), (14, (sField a0.fFields)), (15, (I x11))] rfl rfl <| rs rfl (p_index (e := eField) rfl rfl rfl underlying43 rfl (by decide)) fun v12 => bind_end rfl) fun o13 => et k_assoc <| kga f26a5 rfl (fun (o15 : Bool) => [(48, (Bo o15))]) ?_ fun o15 => ?_
      · refine rd 2 [(18, (Pt 4)), (19, (Sr o13.fName))] rfl rfl <| rp rfl (p_call rfl rfl rfl rfl rfl (ref11_IsName_ok k o13.fName) (.inl rfl)) fun v14 => bd 5 [(20, (Bo v14)), (21, (Bo (!v14))), (22, (Bo (!v14)))] rfl rfl <| bifE (fun hc => ?_) fun hc => ?_
        · rw [hc]
          exact reg_end rfl
        · rw [hc]
          refine rd 10 [(23, (V.ptr 4 0 1)), (24, (I o13.fAt)), (25, (Bo (decide (o13.fAt < 0)))), (26, (Bo (decide (o13.fAt < 0)))), (27, (Bo (decide (o13.fAt < 0))))] rfl rfl <| bifE (fun hc => ?_) fun hc => ?_
          · rw [hc]
            exact reg_end rfl
          · rw [hc]
            refine rd 17 [(28, (V.ptr 4 0 1)), (29, (I o13.fAt)), (30, (V.ptr 1 0 3)), (31, (I a0.fSize)), (32, (Bo (decide (o13.fAt > a0.fSize)))), (33, (Bo (decide (o13.fAt > a0.fSize)))), (34, (Bo (decide (o13.fAt > a0.fSize))))] rfl rfl <| bifE (fun hc => ?_) fun hc => ?_
            · rw [hc]
              exact reg_end rfl
            · rw [hc]
              refine rd 22 [(35, (V.ptr 4 0 2)), (36, (I o13.fBytes)), (37, (Bo (decide (o13.fBytes < 1)))), (38, (Bo (decide (o13.fBytes < 1)))), (39, (Bo (decide (o13.fBytes < 1))))] rfl rfl <| bifE (fun hc => ?_) fun hc => ?_
              · rw [hc]
                exact reg_end rfl
              · rw [hc]
                exact reg_end rfl
      refine kc rfl rfl (fun hc => ?_) fun hc => ?_
      · rw [hc]
        refine et k_assoc <| kr ⟨[(2, (Bo false))], [], 112⟩ rfl <| et k_ret <| et blk_ret <| et loop_ret <| et (hret _) ?_
        rfl
      · rw [hc]
        refine et k_skip <| kr ⟨[(1, (Pt 1)), (3, (I x11)), (4, (Pt 4)), (5, (I 0))], [(1, vS 8 (eType a0)), (4, vS 3 (eField o13))], 112⟩ rfl <| et (k_lblock rfl) <| et k_loop ?_
        refine ref11_fields_L2_ok k a0 x11 o13 _ _ ?h_ref11_fields_L2_0 ?hr_ref11_fields_L2 k 0
        · intro y21
          exact et blk_exit <| et k_lskip <| et blk_normal <| kl ⟨[(1, (Pt 1)), (3, (I (Go.IntKind.wrap .i64 (x11 + 1))))], [(1, vS 8 (eType a0))], 112⟩ rfl <| et loop_normal <| ih (Go.IntKind.wrap .i64 (x11 + 1))
        · intro s; exact hret s
    · rw [hc]
      exact et k_exit <| et loop_exit <| hK0 x11
theorem ref11_fields_ok (k : Nat) (a0 : T_api_Type) : EV k 26 [(eType a0)] = (ref11_fields k a0).map ref11_fields_fin := by
  cases k with
  | zero => rfl
  | succ k =>
    unfold ref11_fields
    refine et (evF_succ (c := f26c) (N := 112) (regs := f26n) rfl func26 rfl (by decide) rfl rfl rfl) <| kr ⟨[(1, (Pt 1))], [(1, vS 8 (eType a0))], 112⟩ rfl <| et k_assoc <| kra [(3, (I 0))] rfl <| et (k_block rfl) <| et k_loop ?_
    refine ref11_fields_L1_ok k a0 _ _ ?h_ref11_fields_L1_0 ?hr_ref11_fields_L1 k 0
    · intro y22
      refine et blk_exit <| et k_assoc <| kg f26a12 rfl (fun (o23 : Bool) => ⟨[(1, (Pt 1)), (82, (Bo o23))], [(1, vS 8 (eType a0))], 112⟩) ?_ fun o23 => ?_
      · refine rd 4 [(63, (V.ptr 1 0 5)), (64, (I a0.fKey)), (65, (Bo (decide (a0.fKey < (-1))))), (66, (Bo (decide (a0.fKey < (-1)))))] rfl rfl <| bifE (fun hc => ?_) fun hc => ?_
        · rw [hc]
          exact reg_end rfl
        · rw [hc]
          refine rd 8 [(67, (V.ptr 1 0 5)), (68, (I a0.fKey)), (69, (V.ptr 1 0 4)), (70, (sField a0.fFields))] rfl rfl <| rl rfl (p_len (e := eField) rfl rfl rfl rfl rfl rfl underlying43) <| bd 12 [(71, (I (a0.fFields.length : Int))), (72, (Bo (decide (a0.fKey ≥ (a0.fFields.length : Int))))), (73, (Bo (decide (a0.fKey ≥ (a0.fFields.length : Int))))), (74, (Bo (decide (a0.fKey ≥ (a0.fFields.length : Int)))))] rfl rfl <| bifE (fun hc => ?_) fun hc => ?_
          · rw [hc]
            exact reg_end rfl
          · rw [hc]
            refine rd 16 [(75, (V.ptr 1 0 5)), (76, (I a0.fKey)), (77, (Bo (decide (a0.fKey < 0)))), (78, (Bo (decide (a0.fKey < 0))))] rfl rfl <| bifE (fun hc => ?_) fun hc => ?_
            · rw [hc]
              exact reg_end rfl
            · rw [hc]
              exact reg_end rfl
      refine kc rfl rfl (fun hc => ?_) fun hc => ?_
      · rw [hc]
        refine et k_assoc <| kr ⟨[(2, (Bo false))], [], 112⟩ rfl <| et k_ret ?_
        rfl
      · rw [hc]
        refine et k_skip <| kd f26a14 rfl (fun (o26 : Bool) => ⟨[(2, (Bo o26))], [], 112⟩) ?_ fun o26 => ?_
        · refine et (regionE_regp (p := 30) (dk := true) (t := [(1, (Pt 1)), (82, (Bo false))]) (σ := [(1, vS 8 (eType a0))]) (n := 112) rfl (by decide) (by decide) rfl) <| et (regp_adv (m := 2) (j := 2) (t' := [(1, (Pt 1)), (82, (Bo false)), (83, (V.ptr 1 0 4)), (84, (sField a0.fFields))]) rfl rfl rfl) <| et (regp_pure (x := some ()) (w := fun _ => (I (a0.fFields.length : Int))) rfl rfl rfl rfl rfl (p_len (e := eField) rfl rfl rfl rfl rfl rfl underlying43)) <| et some_bind <| et (putp_adv (m := 2) (j := 5) (t' := [(1, (Pt 1)), (82, (Bo false)), (83, (V.ptr 1 0 4)), (84, (sField a0.fFields)), (85, (I (a0.fFields.length : Int))), (86, (Bo (decide ((a0.fFields.length : Int) ≤ 5)))), (87, (Bo (decide ((a0.fFields.length : Int) ≤ 5))))]) rfl rfl rfl) <| bifE (fun hc => ?_) fun hc => ?_
          · rw [hc]
            refine et (regp_adv (m := 4) (j := 9) (t' := [(1, (Pt 1)), (82, (Bo false)), (83, (V.ptr 1 0 4)), (84, (sField a0.fFields)), (85, (I (a0.fFields.length : Int))), (86, (Bo true)), (87, (Bo true)), (88, (V.ptr 1 0 5)), (89, (I a0.fKey)), (90, (Bo (decide (a0.fKey < 0)))), (91, (Bo (decide (a0.fKey < 0))))]) rfl rfl rfl) <| bifE (fun hc => ?_) fun hc => ?_
            · rw [hc]
              exact regp_end rfl
            · rw [hc]
              exact et (regp_adv (m := 4) (j := 13) (t' := [(1, (Pt 1)), (82, (Bo false)), (83, (V.ptr 1 0 4)), (84, (sField a0.fFields)), (85, (I (a0.fFields.length : Int))), (86, (Bo true)), (87, (Bo true)), (88, (V.ptr 1 0 5)), (89, (I a0.fKey)), (90, (Bo false)), (91, (Bo false)), (92, (V.ptr 1 0 4)), (93, (sField a0.fFields)), (94, (V.ptr 1 0 5)), (95, (I a0.fKey))]) rfl rfl rfl) <| et (regp_pure (x := (idx a0.fFields a0.fKey)) (w := fun v24 => (Pr (eField v24))) rfl rfl rfl rfl rfl (p_index (e := eField) rfl rfl rfl underlying43 rfl (by decide))) <| bindE fun v24 => et (putp_adv (m := 6) (j := 20) (t' := [(1, (Pt 1)), (82, (Bo false)), (83, (V.ptr 1 0 4)), (84, (sField a0.fFields)), (85, (I (a0.fFields.length : Int))), (86, (Bo true)), (87, (Bo true)), (88, (V.ptr 1 0 5)), (89, (I a0.fKey)), (90, (Bo false)), (91, (Bo false)), (92, (V.ptr 1 0 4)), (93, (sField a0.fFields)), (94, (V.ptr 1 0 5)), (95, (I a0.fKey)), (96, (Pr (eField v24))), (97, (Pr (I v24.fAt))), (98, (I v24.fAt)), (99, (V.ptr 1 0 4)), (100, (sField a0.fFields)), (101, (V.ptr 1 0 5)), (102, (I a0.fKey))]) rfl rfl rfl) <| et (regp_pure (x := (idx a0.fFields a0.fKey)) (w := fun v25 => (Pr (eField v25))) rfl rfl rfl rfl rfl (p_index (e := eField) rfl rfl rfl underlying43 rfl (by decide))) <| bindE fun v25 => regp_end rfl
          · rw [hc]
            exact regp_end rfl
        refine et k_lret ?_
        rfl
    · intro s; exact rfl
def ref11_above_fin : Bool → V × List V := fun r => ((Bo r), [])
theorem ref11_above_L1_ok (k : Nat) (a0 : T_api_Base) (a1 : Int) (a2 : Int)  (K0 : Int → Option Bool) (Kst : X × St → Option (V × List V)) (hK0 : ∀ (y0 : Int), Kst (X.exit 0, ⟨[(1, (I a1)), (2, (I y0)), (3, (Pt 3)), (14, (Bo false))], [(3, vS 4 (eBase a0))], 24⟩) = (K0 y0).map ref11_above_fin) (hret : ∀ s, Kst (X.ret, s) = endK prog 24 [(eBase a0), (I a1), (I a2)] [] [.tmp 6] (X.ret, s)) :
    ∀ (m : Nat) (x5 : Int), (iter (exec prog (EV k) f27n k f27b0) m ⟨[(1, (I a1)), (2, (I x5)), (3, (Pt 3))], [(3, vS 4 (eBase a0))], 24⟩).bind Kst = (ref11_above_L1 a0 a1 K0 m x5).map ref11_above_fin := by
  intro m
  induction m with
  | zero => intros; rfl
  | succ m ih =>
    intro x5
    unfold ref11_above_L1
    refine et k_round <| et k_assoc <| kra [(14, (Bo (decide (x5 ≥ 0))))] rfl <| kc rfl rfl (fun hc => ?_) fun hc => ?_
    · rw [hc]
      refine et k_skip <| et (k_block rfl) <| kr ⟨[(1, (I a1)), (2, (I x5)), (3, (Pt 3)), (23, (Bo (x5 == a1)))], [(3, vS 4 (eBase a0))], 24⟩ rfl <| kcl rfl rfl (fun hc => ?_) fun hc => ?_
      · rw [hc]
        refine kr ⟨[(6, (Bo true))], [], 24⟩ rfl <| et k_lret <| et blk_ret <| et loop_ret <| et (hret _) ?_
        rfl
      · rw [hc]
        exact et k_lskip <| et blk_normal <| kgl f27a3 rfl (fun (o7 : Int) => ⟨[(1, (I a1)), (2, (I o7)), (3, (Pt 3))], [(3, vS 4 (eBase a0))], 24⟩) (ra 3 3 ⟨[(1, (I a1)), (2, (I x5)), (3, (Pt 3)), (15, (V.ptr 3 0 2)), (16, (sType a0.fTypes)), (17, (I x5)), (23, (Bo false))], [(3, vS 4 (eBase a0))], 24⟩ rfl rfl rfl <| rp rfl (p_index (e := eType) rfl rfl rfl underlying22 rfl (by decide)) fun v6 => bind_end rfl) fun o7 => et loop_normal <| ih o7
    · rw [hc]
      exact et k_exit <| et loop_exit <| hK0 x5
theorem ref11_above_ok (k : Nat) (a0 : T_api_Base) (a1 : Int) (a2 : Int) : EV k 27 [(eBase a0), (I a1), (I a2)] = (ref11_above k a0 a1 a2).map ref11_above_fin := by
  cases k with
  | zero => rfl
  | succ k =>
    unfold ref11_above
    refine et (evF_succ (c := f27c) (N := 24) (regs := f27n) rfl func27 rfl (by decide) rfl rfl rfl) <| kr ⟨[(1, (I a1)), (2, (I a2)), (3, (Pt 3))], [(3, vS 4 (eBase a0))], 24⟩ rfl <| et k_assoc <| kg f27a1 rfl (fun (o2 : Int) => ⟨[(1, (I a1)), (2, (I o2)), (3, (Pt 3))], [(3, vS 4 (eBase a0))], 24⟩) (rd 3 [(7, (V.ptr 3 0 2)), (8, (sType a0.fTypes)), (9, (I a2))] rfl rfl <| rp rfl (p_index (e := eType) rfl rfl rfl underlying22 rfl (by decide)) fun v1 => bind_end rfl) fun o2 => et (k_block rfl) <| et k_loop ?_
    refine ref11_above_L1_ok k a0 a1 a2 _ _ ?h_ref11_above_L1_0 ?hr_ref11_above_L1 k o2
    · intro y8
      refine et blk_exit <| kr ⟨[(6, (Bo false))], [], 24⟩ rfl <| et k_lret ?_
      rfl
    · intro s; exact rfl
def ref11_way_fin : (List Int) → V × List V := fun r => ((sI r), [])
theorem ref11_way_L1_ok (k : Nat) (a0 : T_api_Base) (a1 : Int)  (K0 : Int → (List Int) → Option (List Int)) (Kst : X × St → Option (V × List V)) (hK0 : ∀ (y0 : Int) (y1 : (List Int)), Kst (X.exit 0, ⟨[(1, (I y0)), (2, (Pt 2)), (5, (sI y1)), (7, (Bo false))], [(2, vS 4 (eBase a0))], 19⟩) = (K0 y0 y1).map ref11_way_fin) (hret : ∀ s, Kst (X.ret, s) = endK prog 19 [(eBase a0), (I a1)] [] [.tmp 4] (X.ret, s)) :
    ∀ (m : Nat) (x5 : Int) (x6 : (List Int)), (iter (exec prog (EV k) f28n k f28b0) m ⟨[(1, (I x5)), (2, (Pt 2)), (5, (sI x6))], [(2, vS 4 (eBase a0))], 19⟩).bind Kst = (ref11_way_L1 a0 K0 m x5 x6).map ref11_way_fin := by
  intro m
  induction m with
  | zero => intros; rfl
  | succ m ih =>
    intro x5 x6
    unfold ref11_way_L1
    refine et k_round <| et k_assoc <| kra [(7, (Bo (decide (x5 ≥ 0))))] rfl <| kc rfl rfl (fun hc => ?_) fun hc => ?_
    · rw [hc]
      exact et k_skip <| et (k_lblock rfl) <| kg f28a3 rfl (fun (o8 : (List Int)) => ⟨[(1, (I x5)), (2, (Pt 2)), (5, (sI o8))], [(2, vS 4 (eBase a0))], 19⟩) (rd 3 [(8, (I x5)), (9, (V.sl 1 1 (List.map I ([x5] : List Int)))), (10, (sI x6))] rfl rfl <| et (reg_eff (x := (app ([x5] : List Int) x6)) (w := fun v7 => ((V.sl 1 1 (List.map I v7)), _)) rfl rfl rfl rfl (p_app (e := I) rfl rfl rfl rfl rfl rfl rfl rfl rfl rfl (by decide))) <| bind_self fun v7 => bind_end rfl) fun o8 => kgl f28a4 rfl (fun (o10 : Int) => ⟨[(1, (I o10)), (2, (Pt 2)), (5, (sI o8))], [(2, vS 4 (eBase a0))], 19⟩) (rd 3 [(12, (V.ptr 2 0 2)), (13, (sType a0.fTypes)), (14, (I x5))] rfl rfl <| rp rfl (p_index (e := eType) rfl rfl rfl underlying22 rfl (by decide)) fun v9 => bind_end rfl) fun o10 => et blk_normal <| et k_lskip <| et loop_normal <| ih o10 o8
    · rw [hc]
      exact et k_exit <| et loop_exit <| hK0 x5 x6
theorem ref11_way_ok (k : Nat) (a0 : T_api_Base) (a1 : Int) : EV k 28 [(eBase a0), (I a1)] = (ref11_way k a0 a1).map ref11_way_fin := by
  cases k with
  | zero => rfl
  | succ k =>
    unfold ref11_way
    refine et (evF_succ (c := f28c) (N := 19) (regs := f28n) rfl func28 rfl (by decide) rfl rfl rfl) <| kr ⟨[(1, (I a1)), (2, (Pt 2))], [(2, vS 4 (eBase a0))], 19⟩ rfl <| kra [(5, (sI (([] : List Int))))] rfl <| et (k_block rfl) <| et k_loop ?_
    refine ref11_way_L1_ok k a0 a1 _ _ ?h_ref11_way_L1_0 ?hr_ref11_way_L1 k a1 ([] : List Int)
    · intro y11 y12
      refine et blk_exit <| kr ⟨[(4, (sI y12))], [], 19⟩ rfl <| et k_lret ?_
      rfl
    · intro s; exact rfl
def ref11_Valid_fin : Bool → V × List V := fun r => ((Bo r), [])
theorem ref11_Valid_L2_ok (k : Nat) (a0 : T_api_Base) (x20 : Int) (o22 : T_api_Type)  (K0 : Int → Option Bool) (Kst : X × St → Option (V × List V)) (hK0 : ∀ (y0 : Int), Kst (X.exit 2, ⟨[(1, (Pt 1)), (3, (I x20)), (4, (Pt 4)), (5, (I y0)), (81, (Bo false))], [(1, vS 4 (eBase a0)), (4, vS 8 (eType o22))], 232⟩) = (K0 y0).map ref11_Valid_fin) (hret : ∀ s, Kst (X.ret, s) = endK prog 232 [(eBase a0)] [] [.tmp 2] (X.ret, s)) :
    ∀ (m : Nat) (x28 : Int), (iter (exec prog (EV k) f15n k f15b0) m ⟨[(1, (Pt 1)), (3, (I x20)), (4, (Pt 4)), (5, (I x28))], [(1, vS 4 (eBase a0)), (4, vS 8 (eType o22))], 232⟩).bind Kst = (ref11_Valid_L2 a0 x20 o22 K0 m x28).map ref11_Valid_fin := by
  intro m
  induction m with
  | zero => intros; rfl
  | succ m ih =>
    intro x28
    unfold ref11_Valid_L2
    refine et k_round <| et k_assoc <| kra [(81, (Bo (decide (x28 < x20))))] rfl <| kc rfl rfl (fun hc => ?_) fun hc => ?_
    · rw [hc]
      refine et k_skip <| et (k_block rfl) <| kd f15a12 rfl (fun (o30 : Bool) => ⟨[(1, (Pt 1)), (3, (I x20)), (4, (Pt 4)), (5, (I x28)), (92, (Bo o30))], [(1, vS 4 (eBase a0)), (4, vS 8 (eType o22))], 232⟩) (et (regionE_regp (p := 9) (dk := true) (t := [(1, (Pt 1)), (3, (I x20)), (4, (Pt 4)), (5, (I x28)), (81, (Bo true))]) (σ := [(1, vS 4 (eBase a0)), (4, vS 8 (eType o22))]) (n := 232) rfl (by decide) (by decide) rfl) <| et (regp_adv (m := 3) (j := 3) (t' := [(1, (Pt 1)), (3, (I x20)), (4, (Pt 4)), (5, (I x28)), (81, (Bo true)), (84, (V.ptr 1 0 2)), (85, (sType a0.fTypes)), (86, (I x28))]) rfl rfl rfl) <| et (regp_pure (x := (idx a0.fTypes x28)) (w := fun v29 => (Pr (eType v29))) rfl rfl rfl rfl rfl (p_index (e := eType) rfl rfl rfl underlying22 rfl (by decide))) <| bindE fun v29 => regp_end rfl) fun o30 => kcl rfl rfl (fun hc => ?_) fun hc => ?_
      · rw [hc]
        refine kr ⟨[(2, (Bo false))], [], 232⟩ rfl <| et k_lret <| et blk_ret <| et loop_ret <| et (hret _) ?_
        rfl
      · rw [hc]
        exact et k_lskip <| et blk_normal <| kl ⟨[(1, (Pt 1)), (3, (I x20)), (4, (Pt 4)), (5, (I (Go.IntKind.wrap .i64 (x28 + 1))))], [(1, vS 4 (eBase a0)), (4, vS 8 (eType o22))], 232⟩ rfl <| et loop_normal <| ih (Go.IntKind.wrap .i64 (x28 + 1))
    · rw [hc]
      exact et k_exit <| et loop_exit <| hK0 x28
theorem ref11_Valid_L1_ok (k : Nat) (a0 : T_api_Base)  (K0 : Int → Option Bool) (Kst : X × St → Option (V × List V)) (hK0 : ∀ (y0 : Int), Kst (X.exit 0, ⟨[(1, (Pt 1)), (3, (I y0)), (45, (Bo false))], [(1, vS 4 (eBase a0))], 232⟩) = (K0 y0).map ref11_Valid_fin) (hret : ∀ s, Kst (X.ret, s) = endK prog 232 [(eBase a0)] [] [.tmp 2] (X.ret, s)) :
    ∀ (m : Nat) (x20 : Int), (iter (exec prog (EV k) f15n k f15b1) m ⟨[(1, (Pt 1)), (3, (I x20))], [(1, vS 4 (eBase a0))], 232⟩).bind Kst = (ref11_Valid_L1 k a0 K0 m x20).map ref11_Valid_fin := by
  intro m
  induction m with
  | zero => intros; rfl
  | succ m ih =>
    intro x20
    unfold ref11_Valid_L1
    refine et k_round <| et k_assoc <| krp f15a4 rfl ⟨[(1, (Pt 1)), (3, (I x20)), (45, (Bo (decide (x20 < (a0.fTypes.length : Int)))))], [(1, vS 4 (eBase a0))], 232⟩ ?_ ?_
    · exact rd 3 [(41, (I x20)), (42, (V.ptr 1 0 2)), (43, (sType a0.fTypes))] rfl rfl <| rl rfl (p_len (e := eType) rfl rfl rfl rfl rfl rfl underlying22) <| bind_end rfl
    refine kc rfl rfl (fun hc => ?_) fun hc => ?_
    · rw [hc]
      refine et k_skip <| et (k_block rfl) <| kg f15a6 rfl (fun (o22 : T_api_Type) => ⟨[(1, (Pt 1)), (3, (I x20)), (4, (Pt 4))], [(1, vS 4 (eBase a0)), (4, vS 8 (eType o22))], 232⟩) (rd 3 [(48, (V.ptr 1 0 2)), (49, (sType a0.fTypes)), (50, (I x20))] rfl rfl <| rs rfl (p_index (e := eType) rfl rfl rfl underlying22 rfl (by decide)) fun v21 => bind_end rfl) fun o22 => et k_assoc <| kga f15a7 rfl (fun (o25 : Bool) => [(78, (Bo o25))]) ?_ fun o25 => ?_
      · refine rd 2 [(53, (Pt 4)), (54, (Sr o22.fName))] rfl rfl <| rp rfl (p_call rfl rfl rfl rfl rfl (ref11_IsName_ok k o22.fName) (.inl rfl)) fun v23 => bd 5 [(55, (Bo v23)), (56, (Bo (!v23))), (57, (Bo (!v23)))] rfl rfl <| bifE (fun hc => ?_) fun hc => ?_
        · rw [hc]
          exact reg_end rfl
        · rw [hc]
          refine rd 10 [(58, (V.ptr 4 0 2)), (59, (I o22.fMin)), (60, (Bo (decide (o22.fMin < 1)))), (61, (Bo (decide (o22.fMin < 1)))), (62, (Bo (decide (o22.fMin < 1))))] rfl rfl <| bifE (fun hc => ?_) fun hc => ?_
          · rw [hc]
            exact reg_end rfl
          · rw [hc]
            refine rd 17 [(63, (V.ptr 4 0 2)), (64, (I o22.fMin)), (65, (V.ptr 4 0 3)), (66, (I o22.fSize)), (67, (Bo (decide (o22.fMin > o22.fSize)))), (68, (Bo (decide (o22.fMin > o22.fSize)))), (69, (Bo (decide (o22.fMin > o22.fSize))))] rfl rfl <| bifE (fun hc => ?_) fun hc => ?_
            · rw [hc]
              exact reg_end rfl
            · rw [hc]
              refine rd 22 [(70, (V.ptr 4 0 3)), (71, (I o22.fSize)), (72, (Bo (decide (o22.fSize > 40)))), (73, (Bo (decide (o22.fSize > 40)))), (74, (Bo (decide (o22.fSize > 40))))] rfl rfl <| bifE (fun hc => ?_) fun hc => ?_
              · rw [hc]
                exact reg_end rfl
              · rw [hc]
                exact rd 23 [(75, (eType o22))] rfl rfl <| rp rfl (p_call rfl rfl rfl rfl rfl (ref11_fields_ok k o22) (.inl rfl)) fun v24 => bind_end rfl
      refine kc rfl rfl (fun hc => ?_) fun hc => ?_
      · rw [hc]
        refine et k_assoc <| kr ⟨[(2, (Bo false))], [], 232⟩ rfl <| et k_ret <| et blk_ret <| et loop_ret <| et (hret _) ?_
        rfl
      · rw [hc]
        refine et k_skip <| et k_assoc <| kr ⟨[(1, (Pt 1)), (3, (I x20)), (4, (Pt 4)), (5, (I 0))], [(1, vS 4 (eBase a0)), (4, vS 8 (eType o22))], 232⟩ rfl <| et (k_block rfl) <| et k_loop ?_
        refine ref11_Valid_L2_ok k a0 x20 o22 _ _ ?h_ref11_Valid_L2_0 ?hr_ref11_Valid_L2 k 0
        · intro y31
          refine et blk_exit <| et k_assoc <| kr ⟨[(1, (Pt 1)), (3, (I x20)), (4, (Pt 4)), (94, (Bo (x20 == 0)))], [(1, vS 4 (eBase a0)), (4, vS 8 (eType o22))], 232⟩ rfl <| kc rfl rfl (fun hc => ?_) fun hc => ?_
          · rw [hc]
            refine et k_assoc <| et k_assoc <| kg f15a15 rfl (fun (o33 : Bool) => ⟨[(1, (Pt 1)), (3, (I x20)), (117, (Bo o33))], [(1, vS 4 (eBase a0))], 232⟩) ?_ fun o33 => ?_
            · refine rd 4 [(95, (V.ptr 4 0 1)), (96, (I o22.fParent)), (97, (Bo (o22.fParent != (-1)))), (98, (Bo (o22.fParent != (-1))))] rfl rfl <| bifE (fun hc => ?_) fun hc => ?_
              · rw [hc]
                exact reg_end rfl
              · rw [hc]
                refine rd 9 [(99, (V.ptr 4 0 5)), (100, (I o22.fKey)), (101, (Bo (decide (o22.fKey < 0)))), (102, (Bo (decide (o22.fKey < 0)))), (103, (Bo (decide (o22.fKey < 0))))] rfl rfl <| bifE (fun hc => ?_) fun hc => ?_
                · rw [hc]
                  exact reg_end rfl
                · rw [hc]
                  refine rd 14 [(104, (V.ptr 4 0 6)), (105, (Bo o22.fUnique)), (106, (Bo (!o22.fUnique))), (107, (Bo (!o22.fUnique))), (108, (Bo (!o22.fUnique)))] rfl rfl <| bifE (fun hc => ?_) fun hc => ?_
                  · rw [hc]
                    exact reg_end rfl
                  · rw [hc]
                    exact rd 18 [(109, (V.ptr 4 0 4)), (110, (sField o22.fFields)), (111, (V.ptr 4 0 5)), (112, (I o22.fKey))] rfl rfl <| rp rfl (p_index (e := eField) rfl rfl rfl underlying43 rfl (by decide)) fun v32 => bind_end rfl
            refine kc rfl rfl (fun hc => ?_) fun hc => ?_
            · rw [hc]
              refine et k_assoc <| kr ⟨[(2, (Bo false))], [], 232⟩ rfl <| et k_ret <| et blk_ret <| et loop_ret <| et (hret _) ?_
              rfl
            · rw [hc]
              exact et k_skip <| et k_exit <| et blk_exit <| kl ⟨[(1, (Pt 1)), (3, (I (Go.IntKind.wrap .i64 (x20 + 1))))], [(1, vS 4 (eBase a0))], 232⟩ rfl <| et loop_normal <| ih (Go.IntKind.wrap .i64 (x20 + 1))
          · rw [hc]
            refine et k_skip <| kg f15a17 rfl (fun (o37 : Bool) => ⟨[(1, (Pt 1)), (3, (I x20)), (149, (Bo o37))], [(1, vS 4 (eBase a0))], 232⟩) ?_ fun o37 => ?_
            · refine rd 4 [(118, (V.ptr 4 0 1)), (119, (I o22.fParent)), (120, (Bo (decide (o22.fParent < 0)))), (121, (Bo (decide (o22.fParent < 0))))] rfl rfl <| bifE (fun hc => ?_) fun hc => ?_
              · rw [hc]
                exact reg_end rfl
              · rw [hc]
                refine rd 10 [(122, (V.ptr 4 0 1)), (123, (I o22.fParent)), (124, (I x20)), (125, (Bo (decide (o22.fParent ≥ x20)))), (126, (Bo (decide (o22.fParent ≥ x20)))), (127, (Bo (decide (o22.fParent ≥ x20))))] rfl rfl <| bifE (fun hc => ?_) fun hc => ?_
                · rw [hc]
                  exact reg_end rfl
                · rw [hc]
                  refine rd 16 [(128, (V.ptr 4 0 1)), (129, (I o22.fParent)), (130, (I x20)), (131, (I (Go.IntKind.wrap .i64 (x20 - 1)))), (132, (Bo (o22.fParent != (Go.IntKind.wrap .i64 (x20 - 1))))), (133, (Bo (o22.fParent != (Go.IntKind.wrap .i64 (x20 - 1)))))] rfl rfl <| bifE (fun hc => ?_) fun hc => ?_
                  · rw [hc]
                    refine rd 21 [(134, (eBase a0)), (135, (V.ptr 4 0 1)), (136, (I o22.fParent)), (137, (I x20)), (138, (I (Go.IntKind.wrap .i64 (x20 - 1))))] rfl rfl <| rp rfl (p_call rfl rfl rfl rfl rfl (ref11_above_ok k a0 o22.fParent (Go.IntKind.wrap .i64 (x20 - 1))) (.inl rfl)) fun v34 => bd 26 [(139, (Bo v34)), (140, (Bo (!v34))), (141, (Bo (!v34))), (142, (Bo (!v34))), (143, (Bo (!v34)))] rfl rfl <| bifE (fun hc => ?_) fun hc => ?_
                    · rw [hc]
                      exact reg_end rfl
                    · rw [hc]
                      exact rd 28 [(144, (eBase a0)), (145, (I x20))] rfl rfl <| rp rfl (p_call rfl rfl rfl rfl rfl (ref11_way_ok k a0 x20) (.inl rfl)) fun v35 => bd 29 [(146, (sI v35))] rfl rfl <| rl rfl (p_len (e := I) rfl rfl rfl rfl rfl rfl underlying33) <| bind_end rfl
                  · rw [hc]
                    exact rd 28 [(134, (V.tup [])), (135, (V.tup [])), (136, (V.tup [])), (137, (V.tup [])), (138, (V.tup [])), (139, (V.tup [])), (140, (V.tup [])), (141, (Bo false)), (142, (Bo false)), (143, (Bo false)), (144, (eBase a0)), (145, (I x20))] rfl rfl <| rp rfl (p_call rfl rfl rfl rfl rfl (ref11_way_ok k a0 x20) (.inl rfl)) fun v36 => bd 29 [(146, (sI v36))] rfl rfl <| rl rfl (p_len (e := I) rfl rfl rfl rfl rfl rfl underlying33) <| bind_end rfl
            refine kcl rfl rfl (fun hc => ?_) fun hc => ?_
            · rw [hc]
              refine kr ⟨[(2, (Bo false))], [], 232⟩ rfl <| et k_lret <| et blk_ret <| et loop_ret <| et (hret _) ?_
              rfl
            · rw [hc]
              exact et k_lskip <| et blk_normal <| kl ⟨[(1, (Pt 1)), (3, (I (Go.IntKind.wrap .i64 (x20 + 1))))], [(1, vS 4 (eBase a0))], 232⟩ rfl <| et loop_normal <| ih (Go.IntKind.wrap .i64 (x20 + 1))
        · intro s; exact hret s
    · rw [hc]
      exact et k_exit <| et loop_exit <| hK0 x20
theorem ref11_Valid_L4_ok (k : Nat) (a0 : T_api_Base) (x52 : Int) (o54 : T_api_Search)  (K0 : Int → Option Bool) (Kst : X × St → Option (V × List V)) (hK0 : ∀ (y0 : Int), Kst (X.exit 6, ⟨[(1, (Pt 1)), (6, (I x52)), (7, (Pt 7)), (8, (I y0)), (220, (Bo false))], [(1, vS 4 (eBase a0)), (7, vS 4 (eSearch o54))], 232⟩) = (K0 y0).map ref11_Valid_fin) (hret : ∀ s, Kst (X.ret, s) = endK prog 232 [(eBase a0)] [] [.tmp 2] (X.ret, s)) :
    ∀ (m : Nat) (x62 : Int), (iter (exec prog (EV k) f15n k f15b2) m ⟨[(1, (Pt 1)), (6, (I x52)), (7, (Pt 7)), (8, (I x62))], [(1, vS 4 (eBase a0)), (7, vS 4 (eSearch o54))], 232⟩).bind Kst = (ref11_Valid_L4 a0 x52 o54 K0 m x62).map ref11_Valid_fin := by
  intro m
  induction m with
  | zero => intros; rfl
  | succ m ih =>
    intro x62
    unfold ref11_Valid_L4
    refine et k_round <| et k_assoc <| kra [(220, (Bo (decide (x62 < x52))))] rfl <| kc rfl rfl (fun hc => ?_) fun hc => ?_
    · rw [hc]
      refine et k_skip <| et (k_block rfl) <| kd f15a28 rfl (fun (o64 : Bool) => ⟨[(1, (Pt 1)), (6, (I x52)), (7, (Pt 7)), (8, (I x62)), (231, (Bo o64))], [(1, vS 4 (eBase a0)), (7, vS 4 (eSearch o54))], 232⟩) (et (regionE_regp (p := 9) (dk := true) (t := [(1, (Pt 1)), (6, (I x52)), (7, (Pt 7)), (8, (I x62)), (220, (Bo true))]) (σ := [(1, vS 4 (eBase a0)), (7, vS 4 (eSearch o54))]) (n := 232) rfl (by decide) (by decide) rfl) <| et (regp_adv (m := 3) (j := 3) (t' := [(1, (Pt 1)), (6, (I x52)), (7, (Pt 7)), (8, (I x62)), (220, (Bo true)), (223, (V.ptr 1 0 3)), (224, (sSearch a0.fIndexes)), (225, (I x62))]) rfl rfl rfl) <| et (regp_pure (x := (idx a0.fIndexes x62)) (w := fun v63 => (Pr (eSearch v63))) rfl rfl rfl rfl rfl (p_index (e := eSearch) rfl rfl rfl underlying23 rfl (by decide))) <| bindE fun v63 => regp_end rfl) fun o64 => kcl rfl rfl (fun hc => ?_) fun hc => ?_
      · rw [hc]
        refine kr ⟨[(2, (Bo false))], [], 232⟩ rfl <| et k_lret <| et blk_ret <| et loop_ret <| et (hret _) ?_
        rfl
      · rw [hc]
        exact et k_lskip <| et blk_normal <| kl ⟨[(1, (Pt 1)), (6, (I x52)), (7, (Pt 7)), (8, (I (Go.IntKind.wrap .i64 (x62 + 1))))], [(1, vS 4 (eBase a0)), (7, vS 4 (eSearch o54))], 232⟩ rfl <| et loop_normal <| ih (Go.IntKind.wrap .i64 (x62 + 1))
    · rw [hc]
      exact et k_exit <| et loop_exit <| hK0 x62
theorem ref11_Valid_L3_ok (k : Nat) (a0 : T_api_Base)  (K0 : Int → Option Bool) (Kst : X × St → Option (V × List V)) (hK0 : ∀ (y0 : Int), Kst (X.exit 4, ⟨[(1, (Pt 1)), (6, (I y0)), (154, (Bo false))], [(1, vS 4 (eBase a0))], 232⟩) = (K0 y0).map ref11_Valid_fin) (hret : ∀ s, Kst (X.ret, s) = endK prog 232 [(eBase a0)] [] [.tmp 2] (X.ret, s)) :
    ∀ (m : Nat) (x52 : Int), (iter (exec prog (EV k) f15n k f15b3) m ⟨[(1, (Pt 1)), (6, (I x52))], [(1, vS 4 (eBase a0))], 232⟩).bind Kst = (ref11_Valid_L3 k a0 K0 m x52).map ref11_Valid_fin := by
  intro m
  induction m with
  | zero => intros; rfl
  | succ m ih =>
    intro x52
    unfold ref11_Valid_L3
    refine et k_round <| et k_assoc <| krp f15a20 rfl ⟨[(1, (Pt 1)), (6, (I x52)), (154, (Bo (decide (x52 < (a0.fIndexes.length : Int)))))], [(1, vS 4 (eBase a0))], 232⟩ ?_ ?_
    · exact rd 3 [(150, (I x52)), (151, (V.ptr 1 0 3)), (152, (sSearch a0.fIndexes))] rfl rfl <| rl rfl (p_len (e := eSearch) rfl rfl rfl rfl rfl rfl underlying23) <| bind_end rfl
    refine kc rfl rfl (fun hc => ?_) fun hc => ?_
    · rw [hc]
      refine et k_skip <| et (k_block rfl) <| kg f15a22 rfl (fun (o54 : T_api_Search) => ⟨[(1, (Pt 1)), (6, (I x52)), (7, (Pt 7))], [(1, vS 4 (eBase a0)), (7, vS 4 (eSearch o54))], 232⟩) (rd 3 [(157, (V.ptr 1 0 3)), (158, (sSearch a0.fIndexes)), (159, (I x52))] rfl rfl <| rs rfl (p_index (e := eSearch) rfl rfl rfl underlying23 rfl (by decide)) fun v53 => bind_end rfl) fun o54 => et k_assoc <| kd f15a23 rfl (fun (o59 : Bool) => ⟨[(1, (Pt 1)), (6, (I x52)), (7, (Pt 7)), (217, (Bo o59))], [(1, vS 4 (eBase a0)), (7, vS 4 (eSearch o54))], 232⟩) ?_ fun o59 => ?_
      · refine et (regionE_regp (p := 56) (dk := true) (t := [(1, (Pt 1)), (6, (I x52)), (7, (Pt 7))]) (σ := [(1, vS 4 (eBase a0)), (7, vS 4 (eSearch o54))]) (n := 232) rfl (by decide) (by decide) rfl) <| et (regp_adv (m := 2) (j := 2) (t' := [(1, (Pt 1)), (6, (I x52)), (7, (Pt 7)), (162, (Pt 7)), (163, (Sr o54.fName))]) rfl rfl rfl) <| et (regp_pure (x := (ref11_IsName k o54.fName)) (w := fun v55 => (Bo v55)) rfl rfl rfl rfl rfl (p_call rfl rfl rfl rfl rfl (ref11_IsName_ok k o54.fName) (.inl rfl))) <| bindE fun v55 => et (putp_adv (m := 2) (j := 5) (t' := [(1, (Pt 1)), (6, (I x52)), (7, (Pt 7)), (162, (Pt 7)), (163, (Sr o54.fName)), (164, (Bo v55)), (165, (Bo (!v55))), (166, (Bo (!v55)))]) rfl rfl rfl) <| bifE (fun hc => ?_) fun hc => ?_
        · rw [hc]
          exact regp_end rfl
        · rw [hc]
          refine et (regp_adv (m := 5) (j := 10) (t' := [(1, (Pt 1)), (6, (I x52)), (7, (Pt 7)), (162, (Pt 7)), (163, (Sr o54.fName)), (164, (Bo v55)), (165, (Bo false)), (166, (Bo false)), (167, (V.ptr 7 0 1)), (168, (I o54.fType)), (169, (Bo (decide (o54.fType < 0)))), (170, (Bo (decide (o54.fType < 0)))), (171, (Bo (decide (o54.fType < 0))))]) rfl rfl rfl) <| bifE (fun hc => ?_) fun hc => ?_
          · rw [hc]
            exact regp_end rfl
          · rw [hc]
            refine et (regp_adv (m := 4) (j := 14) (t' := [(1, (Pt 1)), (6, (I x52)), (7, (Pt 7)), (162, (Pt 7)), (163, (Sr o54.fName)), (164, (Bo v55)), (165, (Bo false)), (166, (Bo false)), (167, (V.ptr 7 0 1)), (168, (I o54.fType)), (169, (Bo false)), (170, (Bo false)), (171, (Bo false)), (172, (V.ptr 7 0 1)), (173, (I o54.fType)), (174, (V.ptr 1 0 2)), (175, (sType a0.fTypes))]) rfl rfl rfl) <| et (regp_pure (x := some ()) (w := fun _ => (I (a0.fTypes.length : Int))) rfl rfl rfl rfl rfl (p_len (e := eType) rfl rfl rfl rfl rfl rfl underlying22)) <| et some_bind <| et (putp_adv (m := 3) (j := 18) (t' := [(1, (Pt 1)), (6, (I x52)), (7, (Pt 7)), (162, (Pt 7)), (163, (Sr o54.fName)), (164, (Bo v55)), (165, (Bo false)), (166, (Bo false)), (167, (V.ptr 7 0 1)), (168, (I o54.fType)), (169, (Bo false)), (170, (Bo false)), (171, (Bo false)), (172, (V.ptr 7 0 1)), (173, (I o54.fType)), (174, (V.ptr 1 0 2)), (175, (sType a0.fTypes)), (176, (I (a0.fTypes.length : Int))), (177, (Bo (decide (o54.fType ≥ (a0.fTypes.length : Int))))), (178, (Bo (decide (o54.fType ≥ (a0.fTypes.length : Int))))), (179, (Bo (decide (o54.fType ≥ (a0.fTypes.length : Int)))))]) rfl rfl rfl) <| bifE (fun hc => ?_) fun hc => ?_
            · rw [hc]
              exact regp_end rfl
            · rw [hc]
              refine et (regp_adv (m := 5) (j := 23) (t' := [(1, (Pt 1)), (6, (I x52)), (7, (Pt 7)), (162, (Pt 7)), (163, (Sr o54.fName)), (164, (Bo v55)), (165, (Bo false)), (166, (Bo false)), (167, (V.ptr 7 0 1)), (168, (I o54.fType)), (169, (Bo false)), (170, (Bo false)), (171, (Bo false)), (172, (V.ptr 7 0 1)), (173, (I o54.fType)), (174, (V.ptr 1 0 2)), (175, (sType a0.fTypes)), (176, (I (a0.fTypes.length : Int))), (177, (Bo false)), (178, (Bo false)), (179, (Bo false)), (180, (V.ptr 7 0 2)), (181, (I o54.fField)), (182, (Bo (decide (o54.fField < 0)))), (183, (Bo (decide (o54.fField < 0)))), (184, (Bo (decide (o54.fField < 0))))]) rfl rfl rfl) <| bifE (fun hc => ?_) fun hc => ?_
              · rw [hc]
                exact regp_end rfl
              · rw [hc]
                refine et (regp_adv (m := 6) (j := 29) (t' := [(1, (Pt 1)), (6, (I x52)), (7, (Pt 7)), (162, (Pt 7)), (163, (Sr o54.fName)), (164, (Bo v55)), (165, (Bo false)), (166, (Bo false)), (167, (V.ptr 7 0 1)), (168, (I o54.fType)), (169, (Bo false)), (170, (Bo false)), (171, (Bo false)), (172, (V.ptr 7 0 1)), (173, (I o54.fType)), (174, (V.ptr 1 0 2)), (175, (sType a0.fTypes)), (176, (I (a0.fTypes.length : Int))), (177, (Bo false)), (178, (Bo false)), (179, (Bo false)), (180, (V.ptr 7 0 2)), (181, (I o54.fField)), (182, (Bo false)), (183, (Bo false)), (184, (Bo false)), (185, (V.ptr 7 0 2)), (186, (I o54.fField)), (187, (V.ptr 1 0 2)), (188, (sType a0.fTypes)), (189, (V.ptr 7 0 1)), (190, (I o54.fType))]) rfl rfl rfl) <| et (regp_pure (x := (idx a0.fTypes o54.fType)) (w := fun v56 => (Pr (eType v56))) rfl rfl rfl rfl rfl (p_index (e := eType) rfl rfl rfl underlying22 rfl (by decide))) <| bindE fun v56 => et (putp_adv (m := 2) (j := 32) (t' := [(1, (Pt 1)), (6, (I x52)), (7, (Pt 7)), (162, (Pt 7)), (163, (Sr o54.fName)), (164, (Bo v55)), (165, (Bo false)), (166, (Bo false)), (167, (V.ptr 7 0 1)), (168, (I o54.fType)), (169, (Bo false)), (170, (Bo false)), (171, (Bo false)), (172, (V.ptr 7 0 1)), (173, (I o54.fType)), (174, (V.ptr 1 0 2)), (175, (sType a0.fTypes)), (176, (I (a0.fTypes.length : Int))), (177, (Bo false)), (178, (Bo false)), (179, (Bo false)), (180, (V.ptr 7 0 2)), (181, (I o54.fField)), (182, (Bo false)), (183, (Bo false)), (184, (Bo false)), (185, (V.ptr 7 0 2)), (186, (I o54.fField)), (187, (V.ptr 1 0 2)), (188, (sType a0.fTypes)), (189, (V.ptr 7 0 1)), (190, (I o54.fType)), (191, (Pr (eType v56))), (192, (Pr (sField v56.fFields))), (193, (sField v56.fFields))]) rfl rfl rfl) <| et (regp_pure (x := some ()) (w := fun _ => (I (v56.fFields.length : Int))) rfl rfl rfl rfl rfl (p_len (e := eField) rfl rfl rfl rfl rfl rfl underlying43)) <| et some_bind <| et (putp_adv (m := 3) (j := 36) (t' := [(1, (Pt 1)), (6, (I x52)), (7, (Pt 7)), (162, (Pt 7)), (163, (Sr o54.fName)), (164, (Bo v55)), (165, (Bo false)), (166, (Bo false)), (167, (V.ptr 7 0 1)), (168, (I o54.fType)), (169, (Bo false)), (170, (Bo false)), (171, (Bo false)), (172, (V.ptr 7 0 1)), (173, (I o54.fType)), (174, (V.ptr 1 0 2)), (175, (sType a0.fTypes)), (176, (I (a0.fTypes.length : Int))), (177, (Bo false)), (178, (Bo false)), (179, (Bo false)), (180, (V.ptr 7 0 2)), (181, (I o54.fField)), (182, (Bo false)), (183, (Bo false)), (184, (Bo false)), (185, (V.ptr 7 0 2)), (186, (I o54.fField)), (187, (V.ptr 1 0 2)), (188, (sType a0.fTypes)), (189, (V.ptr 7 0 1)), (190, (I o54.fType)), (191, (Pr (eType v56))), (192, (Pr (sField v56.fFields))), (193, (sField v56.fFields)), (194, (I (v56.fFields.length : Int))), (195, (Bo (decide (o54.fField ≥ (v56.fFields.length : Int))))), (196, (Bo (decide (o54.fField ≥ (v56.fFields.length : Int))))), (197, (Bo (decide (o54.fField ≥ (v56.fFields.length : Int)))))]) rfl rfl rfl) <| bifE (fun hc => ?_) fun hc => ?_
                · rw [hc]
                  exact regp_end rfl
                · rw [hc]
                  refine et (regp_adv (m := 4) (j := 40) (t' := [(1, (Pt 1)), (6, (I x52)), (7, (Pt 7)), (162, (Pt 7)), (163, (Sr o54.fName)), (164, (Bo v55)), (165, (Bo false)), (166, (Bo false)), (167, (V.ptr 7 0 1)), (168, (I o54.fType)), (169, (Bo false)), (170, (Bo false)), (171, (Bo false)), (172, (V.ptr 7 0 1)), (173, (I o54.fType)), (174, (V.ptr 1 0 2)), (175, (sType a0.fTypes)), (176, (I (a0.fTypes.length : Int))), (177, (Bo false)), (178, (Bo false)), (179, (Bo false)), (180, (V.ptr 7 0 2)), (181, (I o54.fField)), (182, (Bo false)), (183, (Bo false)), (184, (Bo false)), (185, (V.ptr 7 0 2)), (186, (I o54.fField)), (187, (V.ptr 1 0 2)), (188, (sType a0.fTypes)), (189, (V.ptr 7 0 1)), (190, (I o54.fType)), (191, (Pr (eType v56))), (192, (Pr (sField v56.fFields))), (193, (sField v56.fFields)), (194, (I (v56.fFields.length : Int))), (195, (Bo false)), (196, (Bo false)), (197, (Bo false)), (198, (V.ptr 1 0 2)), (199, (sType a0.fTypes)), (200, (V.ptr 7 0 1)), (201, (I o54.fType))]) rfl rfl rfl) <| et (regp_pure (x := (idx a0.fTypes o54.fType)) (w := fun v57 => (Pr (eType v57))) rfl rfl rfl rfl rfl (p_index (e := eType) rfl rfl rfl underlying22 rfl (by decide))) <| bindE fun v57 => et (putp_adv (m := 4) (j := 45) (t' := [(1, (Pt 1)), (6, (I x52)), (7, (Pt 7)), (162, (Pt 7)), (163, (Sr o54.fName)), (164, (Bo v55)), (165, (Bo false)), (166, (Bo false)), (167, (V.ptr 7 0 1)), (168, (I o54.fType)), (169, (Bo false)), (170, (Bo false)), (171, (Bo false)), (172, (V.ptr 7 0 1)), (173, (I o54.fType)), (174, (V.ptr 1 0 2)), (175, (sType a0.fTypes)), (176, (I (a0.fTypes.length : Int))), (177, (Bo false)), (178, (Bo false)), (179, (Bo false)), (180, (V.ptr 7 0 2)), (181, (I o54.fField)), (182, (Bo false)), (183, (Bo false)), (184, (Bo false)), (185, (V.ptr 7 0 2)), (186, (I o54.fField)), (187, (V.ptr 1 0 2)), (188, (sType a0.fTypes)), (189, (V.ptr 7 0 1)), (190, (I o54.fType)), (191, (Pr (eType v56))), (192, (Pr (sField v56.fFields))), (193, (sField v56.fFields)), (194, (I (v56.fFields.length : Int))), (195, (Bo false)), (196, (Bo false)), (197, (Bo false)), (198, (V.ptr 1 0 2)), (199, (sType a0.fTypes)), (200, (V.ptr 7 0 1)), (201, (I o54.fType)), (202, (Pr (eType v57))), (203, (Pr (sField v57.fFields))), (204, (sField v57.fFields)), (205, (V.ptr 7 0 2)), (206, (I o54.fField))]) rfl rfl rfl) <| et (regp_pure (x := (idx v57.fFields o54.fField)) (w := fun v58 => (Pr (eField v58))) rfl rfl rfl rfl rfl (p_index (e := eField) rfl rfl rfl underlying43 rfl (by decide))) <| bindE fun v58 => et (putp_adv (m := 5) (j := 51) (t' := [(1, (Pt 1)), (6, (I x52)), (7, (Pt 7)), (162, (Pt 7)), (163, (Sr o54.fName)), (164, (Bo v55)), (165, (Bo false)), (166, (Bo false)), (167, (V.ptr 7 0 1)), (168, (I o54.fType)), (169, (Bo false)), (170, (Bo false)), (171, (Bo false)), (172, (V.ptr 7 0 1)), (173, (I o54.fType)), (174, (V.ptr 1 0 2)), (175, (sType a0.fTypes)), (176, (I (a0.fTypes.length : Int))), (177, (Bo false)), (178, (Bo false)), (179, (Bo false)), (180, (V.ptr 7 0 2)), (181, (I o54.fField)), (182, (Bo false)), (183, (Bo false)), (184, (Bo false)), (185, (V.ptr 7 0 2)), (186, (I o54.fField)), (187, (V.ptr 1 0 2)), (188, (sType a0.fTypes)), (189, (V.ptr 7 0 1)), (190, (I o54.fType)), (191, (Pr (eType v56))), (192, (Pr (sField v56.fFields))), (193, (sField v56.fFields)), (194, (I (v56.fFields.length : Int))), (195, (Bo false)), (196, (Bo false)), (197, (Bo false)), (198, (V.ptr 1 0 2)), (199, (sType a0.fTypes)), (200, (V.ptr 7 0 1)), (201, (I o54.fType)), (202, (Pr (eType v57))), (203, (Pr (sField v57.fFields))), (204, (sField v57.fFields)), (205, (V.ptr 7 0 2)), (206, (I o54.fField)), (207, (Pr (eField v58))), (208, (Pr (I v58.fBytes))), (209, (I v58.fBytes)), (210, (Bo (decide (v58.fBytes > 20)))), (211, (Bo (decide (v58.fBytes > 20)))), (212, (Bo (decide (v58.fBytes > 20))))]) rfl rfl rfl) <| bifE (fun hc => ?_) fun hc => ?_
                  · rw [hc]
                    exact regp_end rfl
                  · rw [hc]
                    exact regp_end rfl
      refine kc rfl rfl (fun hc => ?_) fun hc => ?_
      · rw [hc]
        refine et k_assoc <| kr ⟨[(2, (Bo false))], [], 232⟩ rfl <| et k_ret <| et blk_ret <| et loop_ret <| et (hret _) ?_
        rfl
      · rw [hc]
        refine et k_skip <| kr ⟨[(1, (Pt 1)), (6, (I x52)), (7, (Pt 7)), (8, (I 0))], [(1, vS 4 (eBase a0)), (7, vS 4 (eSearch o54))], 232⟩ rfl <| et (k_lblock rfl) <| et k_loop ?_
        refine ref11_Valid_L4_ok k a0 x52 o54 _ _ ?h_ref11_Valid_L4_0 ?hr_ref11_Valid_L4 k 0
        · intro y65
          exact et blk_exit <| et k_lskip <| et blk_normal <| kl ⟨[(1, (Pt 1)), (6, (I (Go.IntKind.wrap .i64 (x52 + 1))))], [(1, vS 4 (eBase a0))], 232⟩ rfl <| et loop_normal <| ih (Go.IntKind.wrap .i64 (x52 + 1))
        · intro s; exact hret s
    · rw [hc]
      exact et k_exit <| et loop_exit <| hK0 x52
theorem ref11_Valid_ok (k : Nat) (a0 : T_api_Base) : EV k 15 [(eBase a0)] = (ref11_Valid k a0).map ref11_Valid_fin := by
  cases k with
  | zero => rfl
  | succ k =>
    unfold ref11_Valid
    refine et (evF_succ (c := f15c) (N := 232) (regs := f15n) rfl func15 rfl (by decide) rfl rfl rfl) <| kr ⟨[(1, (Pt 1))], [(1, vS 4 (eBase a0))], 232⟩ rfl <| et k_assoc <| kga f15a1 rfl (fun (o2 : Bool) => [(40, (Bo o2))]) ?_ fun o2 => ?_
    · refine rd 2 [(9, (Pt 1)), (10, (Sr a0.fName))] rfl rfl <| rp rfl (p_call rfl rfl rfl rfl rfl (ref11_IsName_ok k a0.fName) (.inl rfl)) fun v1 => bd 5 [(11, (Bo v1)), (12, (Bo (!v1))), (13, (Bo (!v1)))] rfl rfl <| bifE (fun hc => ?_) fun hc => ?_
      · rw [hc]
        exact reg_end rfl
      · rw [hc]
        refine rd 10 [(14, (V.ptr 1 0 1)), (15, (I a0.fKind)), (16, (Bo (decide (a0.fKind < 1)))), (17, (Bo (decide (a0.fKind < 1)))), (18, (Bo (decide (a0.fKind < 1))))] rfl rfl <| bifE (fun hc => ?_) fun hc => ?_
        · rw [hc]
          exact reg_end rfl
        · rw [hc]
          refine rd 15 [(19, (V.ptr 1 0 1)), (20, (I a0.fKind)), (21, (Bo (decide (a0.fKind > 4)))), (22, (Bo (decide (a0.fKind > 4)))), (23, (Bo (decide (a0.fKind > 4))))] rfl rfl <| bifE (fun hc => ?_) fun hc => ?_
          · rw [hc]
            exact reg_end rfl
          · rw [hc]
            refine rd 17 [(24, (V.ptr 1 0 2)), (25, (sType a0.fTypes))] rfl rfl <| rl rfl (p_len (e := eType) rfl rfl rfl rfl rfl rfl underlying22) <| bd 21 [(26, (I (a0.fTypes.length : Int))), (27, (Bo (decide ((a0.fTypes.length : Int) < 1)))), (28, (Bo (decide ((a0.fTypes.length : Int) < 1)))), (29, (Bo (decide ((a0.fTypes.length : Int) < 1))))] rfl rfl <| bifE (fun hc => ?_) fun hc => ?_
            · rw [hc]
              exact reg_end rfl
            · rw [hc]
              refine rd 23 [(30, (V.ptr 1 0 2)), (31, (sType a0.fTypes))] rfl rfl <| rl rfl (p_len (e := eType) rfl rfl rfl rfl rfl rfl underlying22) <| bd 27 [(32, (I (a0.fTypes.length : Int))), (33, (Bo (decide ((a0.fTypes.length : Int) > 8)))), (34, (Bo (decide ((a0.fTypes.length : Int) > 8)))), (35, (Bo (decide ((a0.fTypes.length : Int) > 8))))] rfl rfl <| bifE (fun hc => ?_) fun hc => ?_
              · rw [hc]
                exact reg_end rfl
              · rw [hc]
                exact rd 29 [(36, (V.ptr 1 0 3)), (37, (sSearch a0.fIndexes))] rfl rfl <| rl rfl (p_len (e := eSearch) rfl rfl rfl rfl rfl rfl underlying23) <| bind_end rfl
    refine kc rfl rfl (fun hc => ?_) fun hc => ?_
    · rw [hc]
      refine et k_assoc <| kr ⟨[(2, (Bo false))], [], 232⟩ rfl <| et k_ret ?_
      rfl
    · rw [hc]
      refine et k_skip <| et k_assoc <| kr ⟨[(1, (Pt 1)), (3, (I 0))], [(1, vS 4 (eBase a0))], 232⟩ rfl <| et (k_block rfl) <| et k_loop ?_
      refine ref11_Valid_L1_ok k a0 _ _ ?h_ref11_Valid_L1_0 ?hr_ref11_Valid_L1 k 0
      · intro y38
        refine et blk_exit <| et k_assoc <| kr ⟨[(1, (Pt 1)), (6, (I 0))], [(1, vS 4 (eBase a0))], 232⟩ rfl <| et (k_block rfl) <| et k_loop ?_
        refine ref11_Valid_L3_ok k a0 _ _ ?h_ref11_Valid_L3_0 ?hr_ref11_Valid_L3 k 0
        · intro y66
          refine et blk_exit <| kr ⟨[(2, (Bo true))], [], 232⟩ rfl <| et k_lret ?_
          rfl
        · intro s; exact rfl
      · intro s; exact rfl
def ref14_isCodes_fin : Bool → V × List V := fun r => ((Bo r), [])
theorem ref14_isCodes_L2_ok (k : Nat) (a0 : Str) (x10 : Int)  (K0 : Int → Option Bool) (Kst : X × St → Option (V × List V)) (hK0 : ∀ (y0 : Int), Kst (X.exit 2, ⟨[(0, (Sr a0)), (3, (I y0)), (4, (I x10)), (20, (Bo false))], [], 27⟩) = (K0 y0).map ref14_isCodes_fin) (hret : ∀ s, Kst (X.ret, s) = endK prog 27 [(Sr a0)] [] [.tmp 2] (X.ret, s)) :
    ∀ (m : Nat) (x14 : Int), (iter (exec prog (EV k) f34n k f34b0) m ⟨[(0, (Sr a0)), (3, (I x14)), (4, (I x10))], [], 27⟩).bind Kst = (ref14_isCodes_L2 a0 x10 K0 m x14).map ref14_isCodes_fin := by
  intro m
  induction m with
  | zero => intros; rfl
  | succ m ih =>
    intro x14
    unfold ref14_isCodes_L2
    refine et k_round <| et k_assoc <| kd f34a5 rfl (fun (o17 : Bool) => ⟨[(0, (Sr a0)), (3, (I x14)), (4, (I x10)), (20, (Bo o17))], [], 27⟩) ?_ fun o17 => ?_
    · refine et (regionE_regp (p := 10) (dk := true) (t := [(0, (Sr a0)), (3, (I x14)), (4, (I x10))]) (σ := []) (n := 27) rfl (by decide) (by decide) rfl) <| et (regp_adv (m := 3) (j := 3) (t' := [(0, (Sr a0)), (3, (I x14)), (4, (I x10)), (11, (I x14)), (12, (Bo (decide (x14 < 3)))), (13, (Bo (decide (x14 < 3))))]) rfl rfl rfl) <| bifE (fun hc => ?_) fun hc => ?_
      · rw [hc]
        exact et (regp_adv (m := 1) (j := 4) (t' := [(0, (Sr a0)), (3, (I x14)), (4, (I x10)), (11, (I x14)), (12, (Bo true)), (13, (Bo true)), (14, (I x14))]) rfl rfl rfl) <| et (regp_pure (x := (idxS ([68, 76, 80] : Str) x14)) (w := fun v15 => (V.int .u8 v15)) rfl rfl rfl rfl rfl (p_indexS rfl rfl rfl underlying9)) <| bindE fun v15 => et (putp_adv (m := 2) (j := 7) (t' := [(0, (Sr a0)), (3, (I x14)), (4, (I x10)), (11, (I x14)), (12, (Bo true)), (13, (Bo true)), (14, (I x14)), (15, (V.int .u8 v15)), (16, (Sr a0)), (17, (I x10))]) rfl rfl rfl) <| et (regp_pure (x := (idxS a0 x10)) (w := fun v16 => (V.int .u8 v16)) rfl rfl rfl rfl rfl (p_indexS rfl rfl rfl underlying9)) <| bindE fun v16 => regp_end rfl
      · rw [hc]
        exact regp_end rfl
    refine kc rfl rfl (fun hc => ?_) fun hc => ?_
    · try rw [hc]
      exact et k_skip <| et (k_lblock rfl) <| kl ⟨[(0, (Sr a0)), (3, (I (Go.IntKind.wrap .i64 (x14 + 1)))), (4, (I x10))], [], 27⟩ rfl <| et blk_normal <| et k_lskip <| et loop_normal <| ih (Go.IntKind.wrap .i64 (x14 + 1))
    · try rw [hc]
      exact et k_exit <| et loop_exit <| hK0 x14
theorem ref14_isCodes_L1_ok (k : Nat) (a0 : Str)  (K0 : Int → Int → Option Bool) (Kst : X × St → Option (V × List V)) (hK0 : ∀ (y0 : Int) (y1 : Int), Kst (X.exit 0, ⟨[(0, (Sr a0)), (3, (I y0)), (4, (I y1))], [], 27⟩) = (K0 y0 y1).map ref14_isCodes_fin) (hret : ∀ s, Kst (X.ret, s) = endK prog 27 [(Sr a0)] [] [.tmp 2] (X.ret, s)) :
    ∀ (m : Nat) (x9 : Int) (x10 : Int), (iter (exec prog (EV k) f34n k f34b1) m ⟨[(0, (Sr a0)), (3, (I x9)), (4, (I x10))], [], 27⟩).bind Kst = (ref14_isCodes_L1 k a0 K0 m x9 x10).map ref14_isCodes_fin := by
  intro m
  induction m with
  | zero => intros; rfl
  | succ m ih =>
    intro x9 x10
    unfold ref14_isCodes_L1
    refine et k_round <| et k_assoc <| kra [(8, (Bo (decide (x10 < (a0.length : Int)))))] rfl <| et (k_cond (t := (decide (x10 < (a0.length : Int)))) (st' := ⟨[(0, (Sr a0)), (3, (I x9)), (4, (I x10))], [], 27⟩) rfl rfl) <| bifE2 (fun hc => ?_) fun hc => ?_
    · try rw [hc]
      refine et k_skip <| et (k_block rfl) <| et (k_block rfl) <| et k_loop ?_
      refine ref14_isCodes_L2_ok k a0 x10 _ _ ?h_ref14_isCodes_L2_0 ?hr_ref14_isCodes_L2 k x9
      · intro y18
        refine et blk_exit <| et k_assoc <| kr ⟨[(0, (Sr a0)), (3, (I y18)), (4, (I x10)), (24, (Bo (y18 == 3)))], [], 27⟩ rfl <| kc rfl rfl (fun hc => ?_) fun hc => ?_
        · try rw [hc]
          refine et k_assoc <| kr ⟨[(2, (Bo false))], [], 27⟩ rfl <| et k_ret <| et blk_ret <| et loop_ret <| et (hret _) ?_
          rfl
        · try rw [hc]
          exact et k_skip <| kl ⟨[(0, (Sr a0)), (3, (I (Go.IntKind.wrap .i64 (y18 + 1)))), (4, (I x10))], [], 27⟩ rfl <| et blk_normal <| kl ⟨[(0, (Sr a0)), (3, (I (Go.IntKind.wrap .i64 (y18 + 1)))), (4, (I (Go.IntKind.wrap .i64 (x10 + 1))))], [], 27⟩ rfl <| et loop_normal <| ih (Go.IntKind.wrap .i64 (y18 + 1)) (Go.IntKind.wrap .i64 (x10 + 1))
      · intro s; exact hret s
    · try rw [hc]
      exact et k_exit <| et loop_exit <| hK0 x9 x10
theorem ref14_isCodes_ok (k : Nat) (a0 : Str) : EV k 34 [(Sr a0)] = (ref14_isCodes k a0).map ref14_isCodes_fin := by
  cases k with
  | zero => rfl
  | succ k =>
    unfold ref14_isCodes
    refine et (evF_succ (c := f34c) (N := 27) (regs := f34n) rfl func34 rfl (by decide) rfl rfl rfl) <| kra [] rfl <| kra [(3, (I 0))] rfl <| et k_assoc <| kra [(4, (I 0))] rfl <| et (k_block rfl) <| et k_loop ?_
    refine ref14_isCodes_L1_ok k a0 _ _ ?h_ref14_isCodes_L1_0 ?hr_ref14_isCodes_L1 k 0 0
    · intro y19 y20
      refine et blk_exit <| kr ⟨[(2, (Bo true))], [], 27⟩ rfl <| et k_lret ?_
      rfl
    · intro s; exact rfl
def ref11_isType_fin : Bool → V × List V := fun r => ((Bo r), [])
theorem ref11_isType_ok (k : Nat) (a0 : T_api_Base) (a1 : Int) : EV k 46 [(eBase a0), (I a1)] = (ref11_isType k a0 a1).map ref11_isType_fin := by
  cases k with
  | zero => rfl
  | succ k =>
    unfold ref11_isType
    refine et (evF_succ (c := f46c) (N := 14) (regs := f46n) rfl func46 rfl (by decide) rfl rfl rfl) <| kr ⟨[(1, (I a1)), (2, (Pt 2))], [(2, vS 4 (eBase a0))], 14⟩ rfl <| kg f46a1 rfl (fun (o1 : Bool) => ⟨[(4, (Bo o1))], [], 14⟩) ?_ fun o1 => ?_
    · refine rd 3 [(5, (I a1)), (6, (Bo (decide (a1 ≥ 0)))), (7, (Bo (decide (a1 ≥ 0))))] rfl rfl <| bifE (fun hc => ?_) fun hc => ?_
      · rw [hc]
        exact rd 6 [(8, (I a1)), (9, (V.ptr 2 0 2)), (10, (sType a0.fTypes))] rfl rfl <| rl rfl (p_len (e := eType) rfl rfl rfl rfl rfl rfl underlying22) <| bind_end rfl
      · rw [hc]
        exact reg_end rfl
    refine et k_lret ?_
    rfl
def ref11_asked_fin : Int → V × List V := fun r => ((I r), [])
theorem ref11_asked_L1_ok (k : Nat) (a0 : T_api_Base) (a1 : (List Int))  (K0 : Int → Option Int) (Kst : X × St → Option (V × List V)) (hK0 : ∀ (y0 : Int), Kst (X.exit 0, ⟨[(1, (sI a1)), (2, (Pt 2)), (5, (I y0)), (12, (Bo false))], [(2, vS 4 (eBase a0))], 22⟩) = (K0 y0).map ref11_asked_fin) (hret : ∀ s, Kst (X.ret, s) = endK prog 22 [(eBase a0), (sI a1)] [] [.tmp 4] (X.ret, s)) :
    ∀ (m : Nat) (x6 : Int), (iter (exec prog (EV k) f29n k f29b0) m ⟨[(1, (sI a1)), (2, (Pt 2)), (5, (I x6))], [(2, vS 4 (eBase a0))], 22⟩).bind Kst = (ref11_asked_L1 k a0 a1 K0 m x6).map ref11_asked_fin := by
  intro m
  induction m with
  | zero => intros; rfl
  | succ m ih =>
    intro x6
    unfold ref11_asked_L1
    refine et k_round <| et k_assoc <| krp f29a4 rfl ⟨[(1, (sI a1)), (2, (Pt 2)), (5, (I x6)), (12, (Bo (decide (x6 < (a1.length : Int)))))], [(2, vS 4 (eBase a0))], 22⟩ ?_ ?_
    · exact rd 2 [(9, (I x6)), (10, (sI a1))] rfl rfl <| rl rfl (p_len (e := I) rfl rfl rfl rfl rfl rfl underlying33) <| bind_end rfl
    refine kc rfl rfl (fun hc => ?_) fun hc => ?_
    · rw [hc]
      refine et k_skip <| et (k_block rfl) <| kd f29a6 rfl (fun (o9 : Bool) => ⟨[(1, (sI a1)), (2, (Pt 2)), (5, (I x6)), (21, (Bo o9))], [(2, vS 4 (eBase a0))], 22⟩) (et (regionE_regp (p := 7) (dk := true) (t := [(1, (sI a1)), (2, (Pt 2)), (5, (I x6)), (12, (Bo true))]) (σ := [(2, vS 4 (eBase a0))]) (n := 22) rfl (by decide) (by decide) rfl) <| et (regp_adv (m := 3) (j := 3) (t' := [(1, (sI a1)), (2, (Pt 2)), (5, (I x6)), (12, (Bo true)), (15, (eBase a0)), (16, (sI a1)), (17, (I x6))]) rfl rfl rfl) <| et (regp_pure (x := (idx a1 x6)) (w := fun v7 => (Pr (I v7))) rfl rfl rfl rfl rfl (p_index (e := I) rfl rfl rfl underlying33 rfl (by decide))) <| bindE fun v7 => et (putp_adv (m := 1) (j := 5) (t' := [(1, (sI a1)), (2, (Pt 2)), (5, (I x6)), (12, (Bo true)), (15, (eBase a0)), (16, (sI a1)), (17, (I x6)), (18, (Pr (I v7))), (19, (I v7))]) rfl rfl rfl) <| et (regp_pure (x := (ref11_isType k a0 v7)) (w := fun v8 => (Bo v8)) rfl rfl rfl rfl rfl (p_call rfl rfl rfl rfl rfl (ref11_isType_ok k a0 v7) (.inl rfl))) <| bindE fun v8 => regp_end rfl) fun o9 => kcl rfl rfl (fun hc => ?_) fun hc => ?_
      · rw [hc]
        refine kr ⟨[(4, (I 2))], [], 22⟩ rfl <| et k_lret <| et blk_ret <| et loop_ret <| et (hret _) ?_
        rfl
      · rw [hc]
        exact et k_lskip <| et blk_normal <| kl ⟨[(1, (sI a1)), (2, (Pt 2)), (5, (I (Go.IntKind.wrap .i64 (x6 + 1))))], [(2, vS 4 (eBase a0))], 22⟩ rfl <| et loop_normal <| ih (Go.IntKind.wrap .i64 (x6 + 1))
    · rw [hc]
      exact et k_exit <| et loop_exit <| hK0 x6
theorem ref11_asked_ok (k : Nat) (a0 : T_api_Base) (a1 : (List Int)) : EV k 29 [(eBase a0), (sI a1)] = (ref11_asked k a0 a1).map ref11_asked_fin := by
  cases k with
  | zero => rfl
  | succ k =>
    unfold ref11_asked
    refine et (evF_succ (c := f29c) (N := 22) (regs := f29n) rfl func29 rfl (by decide) rfl rfl rfl) <| kr ⟨[(1, (sI a1)), (2, (Pt 2))], [(2, vS 4 (eBase a0))], 22⟩ rfl <| et k_assoc <| kga f29a1 rfl (fun (o2 : Bool) => [(8, (Bo o2))]) (rd 1 [(6, (eBase a0))] rfl rfl <| rp rfl (p_call rfl rfl rfl rfl rfl (ref11_Valid_ok k a0) (.inl rfl)) fun v1 => bind_end rfl) fun o2 => kc rfl rfl (fun hc => ?_) fun hc => ?_
    · rw [hc]
      refine et k_assoc <| kr ⟨[(4, (I 100))], [], 22⟩ rfl <| et k_ret ?_
      rfl
    · rw [hc]
      refine et k_skip <| et k_assoc <| kr ⟨[(1, (sI a1)), (2, (Pt 2)), (5, (I 0))], [(2, vS 4 (eBase a0))], 22⟩ rfl <| et (k_block rfl) <| et k_loop ?_
      refine ref11_asked_L1_ok k a0 a1 _ _ ?h_ref11_asked_L1_0 ?hr_ref11_asked_L1 k 0
      · intro y10
        refine et blk_exit <| kr ⟨[(4, (I 0))], [], 22⟩ rfl <| et k_lret ?_
        rfl
      · intro s; exact rfl
def ref11_Type_fin : (Int × Int) → V × List V := fun r => (.tup [(I r.1), (I r.2)], [])
theorem ref11_Type_L1_ok (k : Nat) (a0 : T_api_Base) (a1 : Str)  (K0 : Int → Option (Int × Int)) (Kst : X × St → Option (V × List V)) (hK0 : ∀ (y0 : Int), Kst (X.exit 0, ⟨[(1, (Sr a1)), (2, (Pt 2)), (7, (I y0)), (17, (Bo false))], [(2, vS 4 (eBase a0))], 29⟩) = (K0 y0).map ref11_Type_fin) (hret : ∀ s, Kst (X.ret, s) = endK prog 29 [(eBase a0), (Sr a1)] [] [.tmp 4, .tmp 5] (X.ret, s)) :
    ∀ (m : Nat) (x5 : Int), (iter (exec prog (EV k) f22n k f22b0) m ⟨[(1, (Sr a1)), (2, (Pt 2)), (7, (I x5))], [(2, vS 4 (eBase a0))], 29⟩).bind Kst = (ref11_Type_L1 a0 a1 K0 m x5).map ref11_Type_fin := by
  intro m
  induction m with
  | zero => intros; rfl
  | succ m ih =>
    intro x5
    unfold ref11_Type_L1
    refine et k_round <| et k_assoc <| krp f22a5 rfl ⟨[(1, (Sr a1)), (2, (Pt 2)), (7, (I x5)), (17, (Bo (decide (x5 < (a0.fTypes.length : Int)))))], [(2, vS 4 (eBase a0))], 29⟩ ?_ ?_
    · exact rd 3 [(13, (I x5)), (14, (V.ptr 2 0 2)), (15, (sType a0.fTypes))] rfl rfl <| rl rfl (p_len (e := eType) rfl rfl rfl rfl rfl rfl underlying22) <| bind_end rfl
    refine kc rfl rfl (fun hc => ?_) fun hc => ?_
    · rw [hc]
      refine et k_skip <| et (k_block rfl) <| kg f22a7 rfl (fun (o7 : Bool) => ⟨[(1, (Sr a1)), (2, (Pt 2)), (7, (I x5)), (27, (Bo o7))], [(2, vS 4 (eBase a0))], 29⟩) (rd 3 [(20, (V.ptr 2 0 2)), (21, (sType a0.fTypes)), (22, (I x5))] rfl rfl <| rp rfl (p_index (e := eType) rfl rfl rfl underlying22 rfl (by decide)) fun v6 => bind_end rfl) fun o7 => kcl rfl rfl (fun hc => ?_) fun hc => ?_
      · rw [hc]
        refine kr ⟨[(4, (I x5)), (5, (I 0))], [], 29⟩ rfl <| et k_lret <| et blk_ret <| et loop_ret <| et (hret _) ?_
        rfl
      · rw [hc]
        exact et k_lskip <| et blk_normal <| kl ⟨[(1, (Sr a1)), (2, (Pt 2)), (7, (I (Go.IntKind.wrap .i64 (x5 + 1))))], [(2, vS 4 (eBase a0))], 29⟩ rfl <| et loop_normal <| ih (Go.IntKind.wrap .i64 (x5 + 1))
    · rw [hc]
      exact et k_exit <| et loop_exit <| hK0 x5
theorem ref11_Type_ok (k : Nat) (a0 : T_api_Base) (a1 : Str) : EV k 22 [(eBase a0), (Sr a1)] = (ref11_Type k a0 a1).map ref11_Type_fin := by
  cases k with
  | zero => rfl
  | succ k =>
    unfold ref11_Type
    refine et (evF_succ (c := f22c) (N := 29) (regs := f22n) rfl func22 rfl (by decide) rfl rfl rfl) <| kr ⟨[(1, (Sr a1)), (2, (Pt 2))], [(2, vS 4 (eBase a0))], 29⟩ rfl <| et k_assoc <| kga f22a1 rfl (fun (o2 : Int) => [(6, (I o2))]) (rd 1 [(8, (eBase a0))] rfl rfl <| rs rfl (p_call rfl rfl rfl rfl rfl (ref11_asked_ok k a0 ([] : List Int)) (.inl rfl)) fun v1 => bind_end rfl) fun o2 => et k_assoc <| kra [(11, (Bo (o2 != 0)))] rfl <| kc rfl rfl (fun hc => ?_) fun hc => ?_
    · rw [hc]
      refine et k_assoc <| kr ⟨[(4, (I 0)), (5, (I o2))], [], 29⟩ rfl <| et k_ret ?_
      rfl
    · rw [hc]
      refine et k_skip <| et k_assoc <| kr ⟨[(1, (Sr a1)), (2, (Pt 2)), (7, (I 0))], [(2, vS 4 (eBase a0))], 29⟩ rfl <| et (k_block rfl) <| et k_loop ?_
      refine ref11_Type_L1_ok k a0 a1 _ _ ?h_ref11_Type_L1_0 ?hr_ref11_Type_L1 k 0
      · intro y8
        refine et blk_exit <| kr ⟨[(4, (I 0)), (5, (I 5))], [], 29⟩ rfl <| et k_lret ?_
        rfl
      · intro s; exact rfl
def ref11_IsAbove_fin : (Bool × Int) → V × List V := fun r => (.tup [(Bo r.1), (I r.2)], [])
theorem ref11_IsAbove_ok (k : Nat) (a0 : T_api_Base) (a1 : Int) (a2 : Int) : EV k 35 [(eBase a0), (I a1), (I a2)] = (ref11_IsAbove k a0 a1 a2).map ref11_IsAbove_fin := by
  cases k with
  | zero => rfl
  | succ k =>
    unfold ref11_IsAbove
    refine et (evF_succ (c := f35c) (N := 21) (regs := f35n) rfl func35 rfl (by decide) rfl rfl rfl) <| kr ⟨[(1, (I a1)), (2, (I a2)), (3, (Pt 3))], [(3, vS 4 (eBase a0))], 21⟩ rfl <| et k_assoc <| kga f35a1 rfl (fun (o2 : Int) => [(8, (I o2))]) (rd 4 [(9, (eBase a0)), (10, (I a1)), (11, (I a2)), (12, (sI (([a1, a2] : List Int))))] rfl rfl <| rs rfl (p_call rfl rfl rfl rfl rfl (ref11_asked_ok k a0 ([a1, a2] : List Int)) (.inl rfl)) fun v1 => bind_end rfl) fun o2 => et k_assoc <| kra [(15, (Bo (o2 != 0)))] rfl <| kc rfl rfl (fun hc => ?_) fun hc => ?_
    · rw [hc]
      refine et k_assoc <| kr ⟨[(6, (Bo false)), (7, (I o2))], [], 21⟩ rfl <| et k_ret ?_
      rfl
    · rw [hc]
      refine et k_skip <| kg f35a4 rfl (fun (o4 : Bool × Int) => ⟨[(6, (Bo o4.1)), (7, (I o4.2))], [], 21⟩) (rd 3 [(17, (eBase a0)), (18, (I a1)), (19, (I a2))] rfl rfl <| rp rfl (p_call rfl rfl rfl rfl rfl (ref11_above_ok k a0 a1 a2) (.inl rfl)) fun v3 => bind_end rfl) fun o4 => et k_lret ?_
      rfl
def ref12_isType_fin : Int → V × List V := fun r => ((I r), [])
theorem ref12_isType_ok (k : Nat) (a0 : T_api_Base) (a1 : Int) : EV k 57 [(eBase a0), (I a1)] = (ref12_isType k a0 a1).map ref12_isType_fin := by
  cases k with
  | zero => rfl
  | succ k =>
    unfold ref12_isType
    refine et (evF_succ (c := f57c) (N := 19) (regs := f57n) rfl func57 rfl (by decide) rfl rfl rfl) <| kr ⟨[(1, (I a1)), (2, (Pt 2))], [(2, vS 4 (eBase a0))], 19⟩ rfl <| et (k_block rfl) <| kga f57a1 rfl (fun (o2 : Bool) => [(5, (Bo o2))]) (rd 1 [(6, (eBase a0))] rfl rfl <| rp rfl (p_call rfl rfl rfl rfl rfl (ref11_Valid_ok k a0) (.inl rfl)) fun v1 => bind_end rfl) fun o2 => kcl rfl rfl (fun hc => ?_) fun hc => ?_
    · rw [hc]
      refine kr ⟨[(4, (I 100))], [], 19⟩ rfl <| et k_lret <| et blk_ret ?_
      rfl
    · rw [hc]
      refine kg f57a3 rfl (fun (o3 : Bool) => ⟨[(9, (Bo o3))], [], 19⟩) ?_ fun o3 => ?_
      · refine rd 3 [(10, (I a1)), (11, (Bo (decide (a1 < 0)))), (12, (Bo (decide (a1 < 0))))] rfl rfl <| bifE (fun hc => ?_) fun hc => ?_
        · rw [hc]
          exact reg_end rfl
        · rw [hc]
          exact rd 6 [(13, (I a1)), (14, (V.ptr 2 0 2)), (15, (sType a0.fTypes))] rfl rfl <| rl rfl (p_len (e := eType) rfl rfl rfl rfl rfl rfl underlying22) <| bind_end rfl
      refine kcl rfl rfl (fun hc => ?_) fun hc => ?_
      · rw [hc]
        refine kr ⟨[(4, (I 2))], [], 19⟩ rfl <| et k_lret <| et blk_ret ?_
        rfl
      · rw [hc]
        refine et k_lskip <| et blk_normal <| kr ⟨[(4, (I 0))], [], 19⟩ rfl <| et k_lret ?_
        rfl
def ref11_Field_fin : (Int × Int) → V × List V := fun r => (.tup [(I r.1), (I r.2)], [])
theorem ref11_Field_L1_ok (k : Nat) (a0 : T_api_Base) (a1 : Int) (a2 : Str)  (K0 : Int → Option (Int × Int)) (Kst : X × St → Option (V × List V)) (hK0 : ∀ (y0 : Int), Kst (X.exit 0, ⟨[(1, (I a1)), (2, (Sr a2)), (3, (Pt 3)), (9, (I y0)), (25, (Bo false))], [(3, vS 4 (eBase a0))], 41⟩) = (K0 y0).map ref11_Field_fin) (hret : ∀ s, Kst (X.ret, s) = endK prog 41 [(eBase a0), (I a1), (Sr a2)] [] [.tmp 6, .tmp 7] (X.ret, s)) :
    ∀ (m : Nat) (x8 : Int), (iter (exec prog (EV k) f93n k f93b0) m ⟨[(1, (I a1)), (2, (Sr a2)), (3, (Pt 3)), (9, (I x8))], [(3, vS 4 (eBase a0))], 41⟩).bind Kst = (ref11_Field_L1 a0 a1 a2 K0 m x8).map ref11_Field_fin := by
  intro m
  induction m with
  | zero => intros; rfl
  | succ m ih =>
    intro x8
    unfold ref11_Field_L1
    refine et k_round <| et k_assoc <| kga f93a5 rfl (fun (o10 : Bool) => [(25, (Bo o10))]) (rd 4 [(17, (I x8)), (18, (V.ptr 3 0 2)), (19, (sType a0.fTypes)), (20, (I a1))] rfl rfl <| rp rfl (p_index (e := eType) rfl rfl rfl underlying22 rfl (by decide)) fun v9 => bd 7 [(21, (Pr (eType v9))), (22, (Pr (sField v9.fFields))), (23, (sField v9.fFields))] rfl rfl <| rl rfl (p_len (e := eField) rfl rfl rfl rfl rfl rfl underlying43) <| bind_end rfl) fun o10 => kc rfl rfl (fun hc => ?_) fun hc => ?_
    · rw [hc]
      refine et k_skip <| et (k_block rfl) <| kg f93a7 rfl (fun (o13 : Bool) => ⟨[(1, (I a1)), (2, (Sr a2)), (3, (Pt 3)), (9, (I x8)), (39, (Bo o13))], [(3, vS 4 (eBase a0))], 41⟩) (rd 3 [(28, (V.ptr 3 0 2)), (29, (sType a0.fTypes)), (30, (I a1))] rfl rfl <| rp rfl (p_index (e := eType) rfl rfl rfl underlying22 rfl (by decide)) fun v11 => bd 7 [(31, (Pr (eType v11))), (32, (Pr (sField v11.fFields))), (33, (sField v11.fFields)), (34, (I x8))] rfl rfl <| rp rfl (p_index (e := eField) rfl rfl rfl underlying43 rfl (by decide)) fun v12 => bind_end rfl) fun o13 => kcl rfl rfl (fun hc => ?_) fun hc => ?_
      · rw [hc]
        refine kr ⟨[(6, (I x8)), (7, (I 0))], [], 41⟩ rfl <| et k_lret <| et blk_ret <| et loop_ret <| et (hret _) ?_
        rfl
      · rw [hc]
        exact et k_lskip <| et blk_normal <| kl ⟨[(1, (I a1)), (2, (Sr a2)), (3, (Pt 3)), (9, (I (Go.IntKind.wrap .i64 (x8 + 1))))], [(3, vS 4 (eBase a0))], 41⟩ rfl <| et loop_normal <| ih (Go.IntKind.wrap .i64 (x8 + 1))
    · rw [hc]
      exact et k_exit <| et loop_exit <| hK0 x8
theorem ref11_Field_ok (k : Nat) (a0 : T_api_Base) (a1 : Int) (a2 : Str) : EV k 93 [(eBase a0), (I a1), (Sr a2)] = (ref11_Field k a0 a1 a2).map ref11_Field_fin := by
  cases k with
  | zero => rfl
  | succ k =>
    unfold ref11_Field
    refine et (evF_succ (c := f93c) (N := 41) (regs := f93n) rfl func93 rfl (by decide) rfl rfl rfl) <| kr ⟨[(1, (I a1)), (2, (Sr a2)), (3, (Pt 3))], [(3, vS 4 (eBase a0))], 41⟩ rfl <| et k_assoc <| kga f93a1 rfl (fun (o2 : Int) => [(8, (I o2))]) (rd 3 [(10, (eBase a0)), (11, (I a1)), (12, (sI (([a1] : List Int))))] rfl rfl <| rs rfl (p_call rfl rfl rfl rfl rfl (ref11_asked_ok k a0 ([a1] : List Int)) (.inl rfl)) fun v1 => bind_end rfl) fun o2 => et k_assoc <| kra [(15, (Bo (o2 != 0)))] rfl <| kc rfl rfl (fun hc => ?_) fun hc => ?_
    · rw [hc]
      refine et k_assoc <| kr ⟨[(6, (I 0)), (7, (I o2))], [], 41⟩ rfl <| et k_ret ?_
      rfl
    · rw [hc]
      refine et k_skip <| et k_assoc <| kr ⟨[(1, (I a1)), (2, (Sr a2)), (3, (Pt 3)), (9, (I 0))], [(3, vS 4 (eBase a0))], 41⟩ rfl <| et (k_block rfl) <| et k_loop ?_
      refine ref11_Field_L1_ok k a0 a1 a2 _ _ ?h_ref11_Field_L1_0 ?hr_ref11_Field_L1 k 0
      · intro y14
        refine et blk_exit <| kr ⟨[(6, (I 0)), (7, (I 5))], [], 41⟩ rfl <| et k_lret ?_
        rfl
      · intro s; exact rfl
def ref12_isTerm_fin : Bool → V × List V := fun r => ((Bo r), [])
theorem ref12_isTerm_ok (k : Nat) (a0 : T_api_Base) (a1 : Int) (a2 : T_api_Term) : EV k 77 [(eBase a0), (I a1), (eTerm a2)] = (ref12_isTerm k a0 a1 a2).map ref12_isTerm_fin := by
  cases k with
  | zero => rfl
  | succ k =>
    unfold ref12_isTerm
    refine et (evF_succ (c := f77c) (N := 45) (regs := f77n) rfl func77 rfl (by decide) rfl rfl rfl) <| kr ⟨[(1, (I a1)), (3, (Pt 3)), (5, (Pt 5))], [(3, vS 4 (eBase a0)), (5, vS 3 (eTerm a2))], 45⟩ rfl <| kga f77a1 rfl (fun (o2 : Int × Int) => [(7, (I o2.1)), (8, (I o2.2))]) (rd 4 [(10, (eBase a0)), (11, (I a1)), (12, (Pt 5)), (13, (Sr a2.fField))] rfl rfl <| rp rfl (p_call rfl rfl rfl rfl rfl (ref11_Field_ok k a0 a1 a2.fField) (.inl rfl)) fun v1 => bind_end rfl) fun o2 => kd f77a2 rfl (fun (o5 : Bool) => ⟨[(6, (Bo o5))], [], 45⟩) ?_ fun o5 => ?_
    · refine et (regionE_regp (p := 29) (dk := true) (t := [(1, (I a1)), (3, (Pt 3)), (5, (Pt 5)), (7, (I o2.1)), (8, (I o2.2))]) (σ := [(3, vS 4 (eBase a0)), (5, vS 3 (eTerm a2))]) (n := 45) rfl (by decide) (by decide) rfl) <| et (regp_adv (m := 3) (j := 3) (t' := [(1, (I a1)), (3, (Pt 3)), (5, (Pt 5)), (7, (I o2.1)), (8, (I o2.2)), (17, (I o2.2)), (18, (Bo (o2.2 == 0))), (19, (Bo (o2.2 == 0)))]) rfl rfl rfl) <| bifE (fun hc => ?_) fun hc => ?_
      · rw [hc]
        refine et (regp_adv (m := 5) (j := 8) (t' := [(1, (I a1)), (3, (Pt 3)), (5, (Pt 5)), (7, (I o2.1)), (8, (I o2.2)), (17, (I o2.2)), (18, (Bo true)), (19, (Bo true)), (20, (V.ptr 5 0 1)), (21, (I a2.fOp)), (22, (Bo (decide (a2.fOp ≥ 1)))), (23, (Bo (decide (a2.fOp ≥ 1)))), (24, (Bo (decide (a2.fOp ≥ 1))))]) rfl rfl rfl) <| bifE (fun hc => ?_) fun hc => ?_
        · rw [hc]
          refine et (regp_adv (m := 5) (j := 13) (t' := [(1, (I a1)), (3, (Pt 3)), (5, (Pt 5)), (7, (I o2.1)), (8, (I o2.2)), (17, (I o2.2)), (18, (Bo true)), (19, (Bo true)), (20, (V.ptr 5 0 1)), (21, (I a2.fOp)), (22, (Bo true)), (23, (Bo true)), (24, (Bo true)), (25, (V.ptr 5 0 1)), (26, (I a2.fOp)), (27, (Bo (decide (a2.fOp ≤ 6)))), (28, (Bo (decide (a2.fOp ≤ 6)))), (29, (Bo (decide (a2.fOp ≤ 6))))]) rfl rfl rfl) <| bifE (fun hc => ?_) fun hc => ?_
          · rw [hc]
            exact et (regp_adv (m := 6) (j := 19) (t' := [(1, (I a1)), (3, (Pt 3)), (5, (Pt 5)), (7, (I o2.1)), (8, (I o2.2)), (17, (I o2.2)), (18, (Bo true)), (19, (Bo true)), (20, (V.ptr 5 0 1)), (21, (I a2.fOp)), (22, (Bo true)), (23, (Bo true)), (24, (Bo true)), (25, (V.ptr 5 0 1)), (26, (I a2.fOp)), (27, (Bo true)), (28, (Bo true)), (29, (Bo true)), (30, (V.ptr 5 0 2)), (31, (Sr a2.fValue)), (32, (I (a2.fValue.length : Int))), (33, (V.ptr 3 0 2)), (34, (sType a0.fTypes)), (35, (I a1))]) rfl rfl rfl) <| et (regp_pure (x := (idx a0.fTypes a1)) (w := fun v3 => (Pr (eType v3))) rfl rfl rfl rfl rfl (p_index (e := eType) rfl rfl rfl underlying22 rfl (by decide))) <| bindE fun v3 => et (putp_adv (m := 3) (j := 23) (t' := [(1, (I a1)), (3, (Pt 3)), (5, (Pt 5)), (7, (I o2.1)), (8, (I o2.2)), (17, (I o2.2)), (18, (Bo true)), (19, (Bo true)), (20, (V.ptr 5 0 1)), (21, (I a2.fOp)), (22, (Bo true)), (23, (Bo true)), (24, (Bo true)), (25, (V.ptr 5 0 1)), (26, (I a2.fOp)), (27, (Bo true)), (28, (Bo true)), (29, (Bo true)), (30, (V.ptr 5 0 2)), (31, (Sr a2.fValue)), (32, (I (a2.fValue.length : Int))), (33, (V.ptr 3 0 2)), (34, (sType a0.fTypes)), (35, (I a1)), (36, (Pr (eType v3))), (37, (Pr (sField v3.fFields))), (38, (sField v3.fFields)), (39, (I o2.1))]) rfl rfl rfl) <| et (regp_pure (x := (idx v3.fFields o2.1)) (w := fun v4 => (Pr (eField v4))) rfl rfl rfl rfl rfl (p_index (e := eField) rfl rfl rfl underlying43 rfl (by decide))) <| bindE fun v4 => regp_end rfl
          · rw [hc]
            exact regp_end rfl
        · rw [hc]
          exact regp_end rfl
      · rw [hc]
        exact regp_end rfl
    refine et k_lret ?_
    rfl
def ref12_isCondition_fin : Bool → V × List V := fun r => ((Bo r), [])
theorem ref12_isCondition_L2_ok (k : Nat) (a0 : T_api_Base) (a1 : Int) (a2 : (List (List T_api_Term))) (x18 : Int)  (K0 : Int → Option Bool) (Kst : X × St → Option (V × List V)) (hK0 : ∀ (y0 : Int), Kst (X.exit 2, ⟨[(1, (I a1)), (2, (V.sl 0 1 (List.map sTerm a2))), (3, (Pt 3)), (7, (I x18)), (8, (I y0)), (35, (Bo false))], [(3, vS 4 (eBase a0))], 52⟩) = (K0 y0).map ref12_isCondition_fin) (hret : ∀ s, Kst (X.ret, s) = endK prog 52 [(eBase a0), (I a1), (V.sl 0 1 (List.map sTerm a2))] [] [.tmp 6] (X.ret, s)) :
    ∀ (m : Nat) (x28 : Int), (iter (exec prog (EV k) f58n k f58b0) m ⟨[(1, (I a1)), (2, (V.sl 0 1 (List.map sTerm a2))), (3, (Pt 3)), (7, (I x18)), (8, (I x28))], [(3, vS 4 (eBase a0))], 52⟩).bind Kst = (ref12_isCondition_L2 k a0 a1 a2 x18 K0 m x28).map ref12_isCondition_fin := by
  intro m
  induction m with
  | zero => intros; rfl
  | succ m ih =>
    intro x28
    unfold ref12_isCondition_L2
    refine et k_round <| et k_assoc <| kga f58a7 rfl (fun (o30 : Bool) => [(35, (Bo o30))]) (rd 3 [(29, (I x28)), (30, (V.sl 0 1 (List.map sTerm a2))), (31, (I x18))] rfl rfl <| rp rfl (p_index (e := sTerm) rfl rfl rfl underlying39 rfl (by decide)) fun v29 => bd 5 [(32, (Pr (sTerm v29))), (33, (sTerm v29))] rfl rfl <| rl rfl (p_len (e := eTerm) rfl rfl rfl rfl rfl rfl underlying54) <| bind_end rfl) fun o30 => kc rfl rfl (fun hc => ?_) fun hc => ?_
    · rw [hc]
      refine et k_skip <| et (k_block rfl) <| kd f58a9 rfl (fun (o34 : Bool) => ⟨[(1, (I a1)), (2, (V.sl 0 1 (List.map sTerm a2))), (3, (Pt 3)), (7, (I x18)), (8, (I x28)), (48, (Bo o34))], [(3, vS 4 (eBase a0))], 52⟩) (et (regionE_regp (p := 11) (dk := true) (t := [(1, (I a1)), (2, (V.sl 0 1 (List.map sTerm a2))), (3, (Pt 3)), (7, (I x18)), (8, (I x28)), (35, (Bo true))]) (σ := [(3, vS 4 (eBase a0))]) (n := 52) rfl (by decide) (by decide) rfl) <| et (regp_adv (m := 4) (j := 4) (t' := [(1, (I a1)), (2, (V.sl 0 1 (List.map sTerm a2))), (3, (Pt 3)), (7, (I x18)), (8, (I x28)), (35, (Bo true)), (38, (eBase a0)), (39, (I a1)), (40, (V.sl 0 1 (List.map sTerm a2))), (41, (I x18))]) rfl rfl rfl) <| et (regp_pure (x := (idx a2 x18)) (w := fun v31 => (Pr (sTerm v31))) rfl rfl rfl rfl rfl (p_index (e := sTerm) rfl rfl rfl underlying39 rfl (by decide))) <| bindE fun v31 => et (putp_adv (m := 2) (j := 7) (t' := [(1, (I a1)), (2, (V.sl 0 1 (List.map sTerm a2))), (3, (Pt 3)), (7, (I x18)), (8, (I x28)), (35, (Bo true)), (38, (eBase a0)), (39, (I a1)), (40, (V.sl 0 1 (List.map sTerm a2))), (41, (I x18)), (42, (Pr (sTerm v31))), (43, (sTerm v31)), (44, (I x28))]) rfl rfl rfl) <| et (regp_pure (x := (idx v31 x28)) (w := fun v32 => (Pr (eTerm v32))) rfl rfl rfl rfl rfl (p_index (e := eTerm) rfl rfl rfl underlying54 rfl (by decide))) <| bindE fun v32 => et (putp_adv (m := 1) (j := 9) (t' := [(1, (I a1)), (2, (V.sl 0 1 (List.map sTerm a2))), (3, (Pt 3)), (7, (I x18)), (8, (I x28)), (35, (Bo true)), (38, (eBase a0)), (39, (I a1)), (40, (V.sl 0 1 (List.map sTerm a2))), (41, (I x18)), (42, (Pr (sTerm v31))), (43, (sTerm v31)), (44, (I x28)), (45, (Pr (eTerm v32))), (46, (eTerm v32))]) rfl rfl rfl) <| et (regp_pure (x := (ref12_isTerm k a0 a1 v32)) (w := fun v33 => (Bo v33)) rfl rfl rfl rfl rfl (p_call rfl rfl rfl rfl rfl (ref12_isTerm_ok k a0 a1 v32) (.inl rfl))) <| bindE fun v33 => regp_end rfl) fun o34 => kcl rfl rfl (fun hc => ?_) fun hc => ?_
      · rw [hc]
        refine kr ⟨[(6, (Bo false))], [], 52⟩ rfl <| et k_lret <| et blk_ret <| et loop_ret <| et (hret _) ?_
        rfl
      · rw [hc]
        exact et k_lskip <| et blk_normal <| kl ⟨[(1, (I a1)), (2, (V.sl 0 1 (List.map sTerm a2))), (3, (Pt 3)), (7, (I x18)), (8, (I (Go.IntKind.wrap .i64 (x28 + 1))))], [(3, vS 4 (eBase a0))], 52⟩ rfl <| et loop_normal <| ih (Go.IntKind.wrap .i64 (x28 + 1))
    · rw [hc]
      exact et k_exit <| et loop_exit <| hK0 x28
theorem ref12_isCondition_L1_ok (k : Nat) (a0 : T_api_Base) (a1 : Int) (a2 : (List (List T_api_Term)))  (K0 : Int → Option Bool) (Kst : X × St → Option (V × List V)) (hK0 : ∀ (y0 : Int), Kst (X.exit 0, ⟨[(1, (I a1)), (2, (V.sl 0 1 (List.map sTerm a2))), (3, (Pt 3)), (7, (I y0)), (12, (Bo false))], [(3, vS 4 (eBase a0))], 52⟩) = (K0 y0).map ref12_isCondition_fin) (hret : ∀ s, Kst (X.ret, s) = endK prog 52 [(eBase a0), (I a1), (V.sl 0 1 (List.map sTerm a2))] [] [.tmp 6] (X.ret, s)) :
    ∀ (m : Nat) (x18 : Int), (iter (exec prog (EV k) f58n k f58b1) m ⟨[(1, (I a1)), (2, (V.sl 0 1 (List.map sTerm a2))), (3, (Pt 3)), (7, (I x18))], [(3, vS 4 (eBase a0))], 52⟩).bind Kst = (ref12_isCondition_L1 k a0 a1 a2 K0 m x18).map ref12_isCondition_fin := by
  intro m
  induction m with
  | zero => intros; rfl
  | succ m ih =>
    intro x18
    unfold ref12_isCondition_L1
    refine et k_round <| et k_assoc <| krp f58a2 rfl ⟨[(1, (I a1)), (2, (V.sl 0 1 (List.map sTerm a2))), (3, (Pt 3)), (7, (I x18)), (12, (Bo (decide (x18 < (a2.length : Int)))))], [(3, vS 4 (eBase a0))], 52⟩ ?_ ?_
    · exact rd 2 [(9, (I x18)), (10, (V.sl 0 1 (List.map sTerm a2)))] rfl rfl <| rl rfl (p_len (e := sTerm) rfl rfl rfl rfl rfl rfl underlying39) <| bind_end rfl
    refine kc rfl rfl (fun hc => ?_) fun hc => ?_
    · rw [hc]
      refine et k_skip <| et (k_block rfl) <| et k_assoc <| kg f58a4 rfl (fun (o21 : Bool) => ⟨[(1, (I a1)), (2, (V.sl 0 1 (List.map sTerm a2))), (3, (Pt 3)), (7, (I x18)), (28, (Bo o21))], [(3, vS 4 (eBase a0))], 52⟩) ?_ fun o21 => ?_
      · refine rd 2 [(15, (V.sl 0 1 (List.map sTerm a2))), (16, (I x18))] rfl rfl <| rp rfl (p_index (e := sTerm) rfl rfl rfl underlying39 rfl (by decide)) fun v19 => bd 4 [(17, (Pr (sTerm v19))), (18, (sTerm v19))] rfl rfl <| rl rfl (p_len (e := eTerm) rfl rfl rfl rfl rfl rfl underlying54) <| bd 7 [(19, (I (v19.length : Int))), (20, (Bo (decide ((v19.length : Int) < 1)))), (21, (Bo (decide ((v19.length : Int) < 1))))] rfl rfl <| bifE (fun hc => ?_) fun hc => ?_
        · rw [hc]
          exact reg_end rfl
        · rw [hc]
          exact rd 9 [(22, (V.sl 0 1 (List.map sTerm a2))), (23, (I x18))] rfl rfl <| rp rfl (p_index (e := sTerm) rfl rfl rfl underlying39 rfl (by decide)) fun v20 => bd 11 [(24, (Pr (sTerm v20))), (25, (sTerm v20))] rfl rfl <| rl rfl (p_len (e := eTerm) rfl rfl rfl rfl rfl rfl underlying54) <| bind_end rfl
      refine kc rfl rfl (fun hc => ?_) fun hc => ?_
      · rw [hc]
        refine et k_assoc <| kr ⟨[(6, (Bo false))], [], 52⟩ rfl <| et k_ret <| et blk_ret <| et loop_ret <| et (hret _) ?_
        rfl
      · rw [hc]
        refine et k_skip <| kr ⟨[(1, (I a1)), (2, (V.sl 0 1 (List.map sTerm a2))), (3, (Pt 3)), (7, (I x18)), (8, (I 0))], [(3, vS 4 (eBase a0))], 52⟩ rfl <| et (k_lblock rfl) <| et k_loop ?_
        refine ref12_isCondition_L2_ok k a0 a1 a2 x18 _ _ ?h_ref12_isCondition_L2_0 ?hr_ref12_isCondition_L2 k 0
        · intro y35
          exact et blk_exit <| et k_lskip <| et blk_normal <| kl ⟨[(1, (I a1)), (2, (V.sl 0 1 (List.map sTerm a2))), (3, (Pt 3)), (7, (I (Go.IntKind.wrap .i64 (x18 + 1))))], [(3, vS 4 (eBase a0))], 52⟩ rfl <| et loop_normal <| ih (Go.IntKind.wrap .i64 (x18 + 1))
        · intro s; exact hret s
    · rw [hc]
      exact et k_exit <| et loop_exit <| hK0 x18
theorem ref12_isCondition_ok (k : Nat) (a0 : T_api_Base) (a1 : Int) (a2 : (List (List T_api_Term))) : EV k 58 [(eBase a0), (I a1), (V.sl 0 1 (List.map sTerm a2))] = (ref12_isCondition k a0 a1 a2).map ref12_isCondition_fin := by
  cases k with
  | zero => rfl
  | succ k =>
    unfold ref12_isCondition
    refine et (evF_succ (c := f58c) (N := 52) (regs := f58n) rfl func58 rfl (by decide) rfl rfl rfl) <| kr ⟨[(1, (I a1)), (2, (V.sl 0 1 (List.map sTerm a2))), (3, (Pt 3))], [(3, vS 4 (eBase a0))], 52⟩ rfl <| et k_assoc <| kra [(7, (I 0))] rfl <| et (k_block rfl) <| et k_loop ?_
    refine ref12_isCondition_L1_ok k a0 a1 a2 _ _ ?h_ref12_isCondition_L1_0 ?hr_ref12_isCondition_L1 k 0
    · intro y36
      refine et blk_exit <| krp f58a11 rfl ⟨[(6, (Bo (decide ((a2.length : Int) ≤ 4))))], [], 52⟩ ?_ ?_
      · exact rd 1 [(49, (V.sl 0 1 (List.map sTerm a2)))] rfl rfl <| rl rfl (p_len (e := sTerm) rfl rfl rfl rfl rfl rfl underlying39) <| bind_end rfl
      refine et k_lret ?_
      rfl
    · intro s; exact rfl
def ref12_Valid_fin : (Bool × Int) → V × List V := fun r => (.tup [(Bo r.1), (I r.2)], [])
theorem ref12_Valid_ok (k : Nat) (a0 : T_api_Base) (a1 : Int) (a2 : (List (List T_api_Term))) : EV k 36 [(eBase a0), (I a1), (V.sl 0 1 (List.map sTerm a2))] = (ref12_Valid k a0 a1 a2).map ref12_Valid_fin := by
  cases k with
  | zero => rfl
  | succ k =>
    unfold ref12_Valid
    refine et (evF_succ (c := f36c) (N := 19) (regs := f36n) rfl func36 rfl (by decide) rfl rfl rfl) <| kr ⟨[(1, (I a1)), (2, (V.sl 0 1 (List.map sTerm a2))), (3, (Pt 3))], [(3, vS 4 (eBase a0))], 19⟩ rfl <| et k_assoc <| kga f36a1 rfl (fun (o2 : Int) => [(8, (I o2))]) (rd 2 [(9, (eBase a0)), (10, (I a1))] rfl rfl <| rs rfl (p_call rfl rfl rfl rfl rfl (ref12_isType_ok k a0 a1) (.inl rfl)) fun v1 => bind_end rfl) fun o2 => et k_assoc <| kra [(13, (Bo (o2 != 0)))] rfl <| kc rfl rfl (fun hc => ?_) fun hc => ?_
    · rw [hc]
      refine et k_assoc <| kr ⟨[(6, (Bo false)), (7, (I o2))], [], 19⟩ rfl <| et k_ret ?_
      rfl
    · rw [hc]
      refine et k_skip <| kg f36a4 rfl (fun (o4 : Bool × Int) => ⟨[(6, (Bo o4.1)), (7, (I o4.2))], [], 19⟩) (rd 3 [(15, (eBase a0)), (16, (I a1)), (17, (V.sl 0 1 (List.map sTerm a2)))] rfl rfl <| rp rfl (p_call rfl rfl rfl rfl rfl (ref12_isCondition_ok k a0 a1 a2) (.inl rfl)) fun v3 => bind_end rfl) fun o4 => et k_lret ?_
      rfl
def ref14_status_fin : Str → V × List V := fun r => ((Sr r), [])
theorem ref14_status_ok (k : Nat) (a0 : T_api_Base) (a1 : Int) (a2 : T_api_Arg) : EV k 21 [(eBase a0), (I a1), (eArg a2)] = (ref14_status k a0 a1 a2).map ref14_status_fin := by
  cases k with
  | zero => rfl
  | succ k =>
    unfold ref14_status
    refine et (evF_succ (c := f21c) (N := 55) (regs := f21n) rfl func21 rfl (by decide) rfl rfl rfl) <| kr ⟨[(1, (I a1)), (3, (Pt 3)), (5, (Pt 5))], [(3, vS 4 (eBase a0)), (5, vS 3 (eArg a2))], 55⟩ rfl <| et k_assoc <| kga f21a1 rfl (fun (o2 : Bool) => [(16, (Bo o2))]) (rd 2 [(13, (V.ptr 5 0 1)), (14, (Sr a2.fCodes))] rfl rfl <| rp rfl (p_call rfl rfl rfl rfl rfl (ref14_isCodes_ok k a2.fCodes) (.inl rfl)) fun v1 => bind_end rfl) fun o2 => kc rfl rfl (fun hc => ?_) fun hc => ?_
    · rw [hc]
      refine et k_assoc <| kr ⟨[(6, (Sr ([65, 74] : Str)))], [], 55⟩ rfl <| et k_ret ?_
      rfl
    · rw [hc]
      refine et k_skip <| kg f21a3 rfl (fun (o4 : Int × Int) => ⟨[(1, (I a1)), (3, (Pt 3)), (5, (Pt 5)), (7, (I o4.1)), (8, (I o4.2))], [(3, vS 4 (eBase a0)), (5, vS 3 (eArg a2))], 55⟩) (rd 3 [(18, (eBase a0)), (19, (Pt 5)), (20, (Sr a2.fSegment))] rfl rfl <| rp rfl (p_call rfl rfl rfl rfl rfl (ref11_Type_ok k a0 a2.fSegment) (.inl rfl)) fun v3 => bind_end rfl) fun o4 => et k_assoc <| kr ⟨[(1, (I a1)), (3, (Pt 3)), (5, (Pt 5)), (7, (I o4.1)), (25, (Bo (o4.2 != 0)))], [(3, vS 4 (eBase a0)), (5, vS 3 (eArg a2))], 55⟩ rfl <| kc rfl rfl (fun hc => ?_) fun hc => ?_
      · rw [hc]
        refine et k_assoc <| kr ⟨[(6, (Sr ([65, 67] : Str)))], [], 55⟩ rfl <| et k_ret ?_
        rfl
      · rw [hc]
        refine et k_skip <| et k_assoc <| kr ⟨[(1, (I a1)), (3, (Pt 3)), (5, (Pt 5)), (7, (I o4.1)), (27, (Bo (decide (a1 ≥ 0))))], [(3, vS 4 (eBase a0)), (5, vS 3 (eArg a2))], 55⟩ rfl <| kc rfl rfl (fun hc => ?_) fun hc => ?_
        · rw [hc]
          refine et k_assoc <| kg f21a7 rfl (fun (o6 : Bool × Int) => ⟨[(3, (Pt 3)), (5, (Pt 5)), (7, (I o4.1)), (9, (Bo o6.1)), (10, (I o6.2))], [(3, vS 4 (eBase a0)), (5, vS 3 (eArg a2))], 55⟩) (rd 3 [(29, (eBase a0)), (30, (I a1)), (31, (I o4.1))] rfl rfl <| rp rfl (p_call rfl rfl rfl rfl rfl (ref11_IsAbove_ok k a0 a1 o4.1) (.inl rfl)) fun v5 => bind_end rfl) fun o6 => et k_assoc <| kg f21a8 rfl (fun (o7 : Bool) => ⟨[(3, (Pt 3)), (5, (Pt 5)), (7, (I o4.1)), (40, (Bo o7))], [(3, vS 4 (eBase a0)), (5, vS 3 (eArg a2))], 55⟩) ?_ fun o7 => ?_
          · refine rd 3 [(35, (I o6.2)), (36, (Bo (o6.2 != 0))), (37, (Bo (o6.2 != 0)))] rfl rfl <| bifE (fun hc => ?_) fun hc => ?_
            · rw [hc]
              exact reg_end rfl
            · rw [hc]
              exact reg_end rfl
          refine kc rfl rfl (fun hc => ?_) fun hc => ?_
          · rw [hc]
            refine et k_assoc <| kr ⟨[(6, (Sr ([65, 67] : Str)))], [], 55⟩ rfl <| et k_ret ?_
            rfl
          · rw [hc]
            refine et k_skip <| et k_assoc <| kg f21a10 rfl (fun (o9 : Bool × Int) => ⟨[(11, (Bo o9.1)), (12, (I o9.2))], [], 55⟩) (rd 4 [(42, (eBase a0)), (43, (I o4.1)), (44, (V.ptr 5 0 2)), (45, (V.sl 0 1 (List.map sTerm a2.fWhen)))] rfl rfl <| rp rfl (p_call rfl rfl rfl rfl rfl (ref12_Valid_ok k a0 o4.1 a2.fWhen) (.inl rfl)) fun v8 => bind_end rfl) fun o9 => et k_assoc <| kg f21a11 rfl (fun (o10 : Bool) => ⟨[(54, (Bo o10))], [], 55⟩) ?_ fun o10 => ?_
            · refine rd 3 [(49, (I o9.2)), (50, (Bo (o9.2 != 0))), (51, (Bo (o9.2 != 0)))] rfl rfl <| bifE (fun hc => ?_) fun hc => ?_
              · rw [hc]
                exact reg_end rfl
              · rw [hc]
                exact reg_end rfl
            refine kc rfl rfl (fun hc => ?_) fun hc => ?_
            · rw [hc]
              refine et k_assoc <| kr ⟨[(6, (Sr ([65, 75] : Str)))], [], 55⟩ rfl <| et k_ret ?_
              rfl
            · rw [hc]
              refine et k_skip <| kr ⟨[(6, (Sr ([32, 32] : Str)))], [], 55⟩ rfl <| et k_lret ?_
              rfl
        · rw [hc]
          refine et k_skip <| et k_assoc <| kg f21a10 rfl (fun (o12 : Bool × Int) => ⟨[(11, (Bo o12.1)), (12, (I o12.2))], [], 55⟩) (rd 4 [(42, (eBase a0)), (43, (I o4.1)), (44, (V.ptr 5 0 2)), (45, (V.sl 0 1 (List.map sTerm a2.fWhen)))] rfl rfl <| rp rfl (p_call rfl rfl rfl rfl rfl (ref12_Valid_ok k a0 o4.1 a2.fWhen) (.inl rfl)) fun v11 => bind_end rfl) fun o12 => et k_assoc <| kg f21a11 rfl (fun (o13 : Bool) => ⟨[(54, (Bo o13))], [], 55⟩) ?_ fun o13 => ?_
          · refine rd 3 [(49, (I o12.2)), (50, (Bo (o12.2 != 0))), (51, (Bo (o12.2 != 0)))] rfl rfl <| bifE (fun hc => ?_) fun hc => ?_
            · rw [hc]
              exact reg_end rfl
            · rw [hc]
              exact reg_end rfl
          refine kc rfl rfl (fun hc => ?_) fun hc => ?_
          · rw [hc]
            refine et k_assoc <| kr ⟨[(6, (Sr ([65, 75] : Str)))], [], 55⟩ rfl <| et k_ret ?_
            rfl
          · rw [hc]
            refine et k_skip <| kr ⟨[(6, (Sr ([32, 32] : Str)))], [], 55⟩ rfl <| et k_lret ?_
            rfl
def ref14_Check_fin : (Str × Int) → V × List V := fun r => (.tup [(Sr r.1), (I r.2)], [])
theorem ref14_Check_L1_ok (k : Nat) (a0 : T_api_Base) (a1 : (List T_api_Arg))  (K0 : Int → Int → Option (Str × Int)) (Kst : X × St → Option (V × List V)) (hK0 : ∀ (y0 : Int) (y1 : Int), Kst (X.exit 0, ⟨[(1, (sArg a1)), (2, (Pt 2)), (6, (I y0)), (7, (I y1)), (18, (Bo false))], [(2, vS 4 (eBase a0))], 41⟩) = (K0 y0 y1).map ref14_Check_fin) (hret : ∀ s, Kst (X.ret, s) = endK prog 41 [(eBase a0), (sArg a1)] [] [.tmp 4, .tmp 5] (X.ret, s)) :
    ∀ (m : Nat) (x9 : Int) (x10 : Int), (iter (exec prog (EV k) f10n k f10b0) m ⟨[(1, (sArg a1)), (2, (Pt 2)), (6, (I x9)), (7, (I x10))], [(2, vS 4 (eBase a0))], 41⟩).bind Kst = (ref14_Check_L1 k a0 a1 K0 m x9 x10).map ref14_Check_fin := by
  intro m
  induction m with
  | zero => intros; rfl
  | succ m ih =>
    intro x9 x10
    unfold ref14_Check_L1
    refine et k_round <| et k_assoc <| krp f10a7 rfl ⟨[(1, (sArg a1)), (2, (Pt 2)), (6, (I x9)), (7, (I x10)), (18, (Bo (decide (x10 < (a1.length : Int)))))], [(2, vS 4 (eBase a0))], 41⟩ ?_ ?_
    · exact rd 2 [(15, (I x10)), (16, (sArg a1))] rfl rfl <| rl rfl (p_len (e := eArg) rfl rfl rfl rfl rfl rfl underlying26) <| bind_end rfl
    refine kc rfl rfl (fun hc => ?_) fun hc => ?_
    · rw [hc]
      refine et k_skip <| et (k_block rfl) <| et k_assoc <| kd f10a9 rfl (fun (o13 : Str) => ⟨[(1, (sArg a1)), (2, (Pt 2)), (7, (I x10)), (8, (Sr o13))], [(2, vS 4 (eBase a0))], 41⟩) (et (regionE_regp (p := 8) (dk := true) (t := [(1, (sArg a1)), (2, (Pt 2)), (6, (I x9)), (7, (I x10)), (18, (Bo true))]) (σ := [(2, vS 4 (eBase a0))]) (n := 41) rfl (by decide) (by decide) rfl) <| et (regp_adv (m := 4) (j := 4) (t' := [(1, (sArg a1)), (2, (Pt 2)), (6, (I x9)), (7, (I x10)), (18, (Bo true)), (21, (eBase a0)), (22, (I x9)), (23, (sArg a1)), (24, (I x10))]) rfl rfl rfl) <| et (regp_pure (x := (idx a1 x10)) (w := fun v11 => (Pr (eArg v11))) rfl rfl rfl rfl rfl (p_index (e := eArg) rfl rfl rfl underlying26 rfl (by decide))) <| bindE fun v11 => et (putp_adv (m := 1) (j := 6) (t' := [(1, (sArg a1)), (2, (Pt 2)), (6, (I x9)), (7, (I x10)), (18, (Bo true)), (21, (eBase a0)), (22, (I x9)), (23, (sArg a1)), (24, (I x10)), (25, (Pr (eArg v11))), (26, (eArg v11))]) rfl rfl rfl) <| et (regp_pure (x := (ref14_status k a0 x9 v11)) (w := fun v12 => (Sr v12)) rfl rfl rfl rfl rfl (p_call rfl rfl rfl rfl rfl (ref14_status_ok k a0 x9 v11) (.inl rfl))) <| bind_self fun v12 => regp_end rfl) fun o13 => et k_assoc <| kra [(29, (Bo (!(o13 == ([32, 32] : Str)))))] rfl <| kc rfl rfl (fun hc => ?_) fun hc => ?_
      · rw [hc]
        refine et k_assoc <| kr ⟨[(4, (Sr o13)), (5, (I 0))], [], 41⟩ rfl <| et k_ret <| et blk_ret <| et loop_ret <| et (hret _) ?_
        rfl
      · rw [hc]
        exact et k_skip <| kdl f10a12 rfl (fun (o16 : Int) => ⟨[(1, (sArg a1)), (2, (Pt 2)), (6, (I o16)), (7, (I x10))], [(2, vS 4 (eBase a0))], 41⟩) (et (regionE_regp (p := 11) (dk := true) (t := [(1, (sArg a1)), (2, (Pt 2)), (7, (I x10)), (8, (Sr o13)), (29, (Bo false))]) (σ := [(2, vS 4 (eBase a0))]) (n := 41) rfl (by decide) (by decide) rfl) <| et (regp_adv (m := 3) (j := 3) (t' := [(1, (sArg a1)), (2, (Pt 2)), (7, (I x10)), (8, (Sr o13)), (29, (Bo false)), (32, (eBase a0)), (33, (sArg a1)), (34, (I x10))]) rfl rfl rfl) <| et (regp_pure (x := (idx a1 x10)) (w := fun v14 => (Pr (eArg v14))) rfl rfl rfl rfl rfl (p_index (e := eArg) rfl rfl rfl underlying26 rfl (by decide))) <| bindE fun v14 => et (putp_adv (m := 2) (j := 6) (t' := [(1, (sArg a1)), (2, (Pt 2)), (7, (I x10)), (8, (Sr o13)), (29, (Bo false)), (32, (eBase a0)), (33, (sArg a1)), (34, (I x10)), (35, (Pr (eArg v14))), (36, (Pr (Sr v14.fSegment))), (37, (Sr v14.fSegment))]) rfl rfl rfl) <| et (regp_pure (x := (ref11_Type k a0 v14.fSegment)) (w := fun v15 => (V.tup [(I v15.1), (I v15.2)])) rfl rfl rfl rfl rfl (p_call rfl rfl rfl rfl rfl (ref11_Type_ok k a0 v14.fSegment) (.inl rfl))) <| bindE fun v15 => regp_end rfl) fun o16 => et blk_normal <| kl ⟨[(1, (sArg a1)), (2, (Pt 2)), (6, (I o16)), (7, (I (Go.IntKind.wrap .i64 (x10 + 1))))], [(2, vS 4 (eBase a0))], 41⟩ rfl <| et loop_normal <| ih o16 (Go.IntKind.wrap .i64 (x10 + 1))
    · rw [hc]
      exact et k_exit <| et loop_exit <| hK0 x9 x10
theorem ref14_Check_ok (k : Nat) (a0 : T_api_Base) (a1 : (List T_api_Arg)) : EV k 10 [(eBase a0), (sArg a1)] = (ref14_Check k a0 a1).map ref14_Check_fin := by
  cases k with
  | zero => rfl
  | succ k =>
    unfold ref14_Check
    refine et (evF_succ (c := f10c) (N := 41) (regs := f10n) rfl func10 rfl (by decide) rfl rfl rfl) <| kr ⟨[(1, (sArg a1)), (2, (Pt 2))], [(2, vS 4 (eBase a0))], 41⟩ rfl <| et k_assoc <| kga f10a1 rfl (fun (o2 : Bool) => [(11, (Bo o2))]) (rd 1 [(9, (eBase a0))] rfl rfl <| rp rfl (p_call rfl rfl rfl rfl rfl (ref11_Valid_ok k a0) (.inl rfl)) fun v1 => bind_end rfl) fun o2 => kc rfl rfl (fun hc => ?_) fun hc => ?_
    · rw [hc]
      refine et k_assoc <| kr ⟨[(4, (Sr ([] : Str))), (5, (I 100))], [], 41⟩ rfl <| et k_ret ?_
      rfl
    · rw [hc]
      refine et k_skip <| et k_assoc <| krp f10a3 rfl ⟨[(1, (sArg a1)), (2, (Pt 2)), (14, (Bo (decide ((a1.length : Int) > 5))))], [(2, vS 4 (eBase a0))], 41⟩ ?_ ?_
      · exact rd 1 [(12, (sArg a1))] rfl rfl <| rl rfl (p_len (e := eArg) rfl rfl rfl rfl rfl rfl underlying26) <| bind_end rfl
      refine kc rfl rfl (fun hc => ?_) fun hc => ?_
      · rw [hc]
        refine et k_assoc <| kr ⟨[(4, (Sr ([65, 74] : Str))), (5, (I 0))], [], 41⟩ rfl <| et k_ret ?_
        rfl
      · rw [hc]
        refine et k_skip <| kr ⟨[(1, (sArg a1)), (2, (Pt 2)), (6, (I (-1)))], [(2, vS 4 (eBase a0))], 41⟩ rfl <| et k_assoc <| kra [(7, (I 0))] rfl <| et (k_block rfl) <| et k_loop ?_
        refine ref14_Check_L1_ok k a0 a1 _ _ ?h_ref14_Check_L1_0 ?hr_ref14_Check_L1 k (-1) 0
        · intro y17 y18
          refine et blk_exit <| kr ⟨[(4, (Sr ([32, 32] : Str))), (5, (I 0))], [], 41⟩ rfl <| et k_lret ?_
          rfl
        · intro s; exact rfl
def ref14_Types_fin : ((List Int) × Int) → V × List V := fun r => (.tup [(sI r.1), (I r.2)], [])
theorem ref14_Types_L1_ok (k : Nat) (a0 : T_api_Base) (a1 : (List T_api_Arg))  (K0 : (List Int) → Int → Option ((List Int) × Int)) (Kst : X × St → Option (V × List V)) (hK0 : ∀ (y0 : (List Int)) (y1 : Int), Kst (X.exit 0, ⟨[(1, (sArg a1)), (2, (Pt 2)), (8, (V.sl 1 1 (List.map I y0))), (9, (I y1)), (30, (Bo false))], [(2, vS 4 (eBase a0))], 48⟩) = (K0 y0 y1).map ref14_Types_fin) (hret : ∀ s, Kst (X.ret, s) = endK prog 48 [(eBase a0), (sArg a1)] [] [.tmp 4, .tmp 5] (X.ret, s)) :
    ∀ (m : Nat) (x9 : (List Int)) (x10 : Int), (iter (exec prog (EV k) f12n k f12b0) m ⟨[(1, (sArg a1)), (2, (Pt 2)), (8, (V.sl 1 1 (List.map I x9))), (9, (I x10))], [(2, vS 4 (eBase a0))], 48⟩).bind Kst = (ref14_Types_L1 k a0 a1 K0 m x9 x10).map ref14_Types_fin := by
  intro m
  induction m with
  | zero => intros; rfl
  | succ m ih =>
    intro x9 x10
    unfold ref14_Types_L1
    refine et k_round <| et k_assoc <| krp f12a8 rfl ⟨[(1, (sArg a1)), (2, (Pt 2)), (8, (V.sl 1 1 (List.map I x9))), (9, (I x10)), (30, (Bo (decide (x10 < (a1.length : Int)))))], [(2, vS 4 (eBase a0))], 48⟩ ?_ ?_
    · exact rd 2 [(27, (I x10)), (28, (sArg a1))] rfl rfl <| rl rfl (p_len (e := eArg) rfl rfl rfl rfl rfl rfl underlying26) <| bind_end rfl
    refine kc rfl rfl (fun hc => ?_) fun hc => ?_
    · rw [hc]
      exact et k_skip <| et (k_block rfl) <| kd f12a10 rfl (fun (o13 : Int) => ⟨[(1, (sArg a1)), (2, (Pt 2)), (8, (V.sl 1 1 (List.map I x9))), (9, (I x10)), (10, (I o13))], [(2, vS 4 (eBase a0))], 48⟩) (et (regionE_regp (p := 12) (dk := true) (t := [(1, (sArg a1)), (2, (Pt 2)), (8, (V.sl 1 1 (List.map I x9))), (9, (I x10)), (30, (Bo true))]) (σ := [(2, vS 4 (eBase a0))]) (n := 48) rfl (by decide) (by decide) rfl) <| et (regp_adv (m := 3) (j := 3) (t' := [(1, (sArg a1)), (2, (Pt 2)), (8, (V.sl 1 1 (List.map I x9))), (9, (I x10)), (30, (Bo true)), (34, (eBase a0)), (35, (sArg a1)), (36, (I x10))]) rfl rfl rfl) <| et (regp_pure (x := (idx a1 x10)) (w := fun v11 => (Pr (eArg v11))) rfl rfl rfl rfl rfl (p_index (e := eArg) rfl rfl rfl underlying26 rfl (by decide))) <| bindE fun v11 => et (putp_adv (m := 2) (j := 6) (t' := [(1, (sArg a1)), (2, (Pt 2)), (8, (V.sl 1 1 (List.map I x9))), (9, (I x10)), (30, (Bo true)), (34, (eBase a0)), (35, (sArg a1)), (36, (I x10)), (37, (Pr (eArg v11))), (38, (Pr (Sr v11.fSegment))), (39, (Sr v11.fSegment))]) rfl rfl rfl) <| et (regp_pure (x := (ref11_Type k a0 v11.fSegment)) (w := fun v12 => (V.tup [(I v12.1), (I v12.2)])) rfl rfl rfl rfl rfl (p_call rfl rfl rfl rfl rfl (ref11_Type_ok k a0 v11.fSegment) (.inl rfl))) <| bindE fun v12 => regp_end rfl) fun o13 => kgl f12a11 rfl (fun (o15 : (List Int)) => ⟨[(1, (sArg a1)), (2, (Pt 2)), (8, (V.sl 1 1 (List.map I o15))), (9, (I x10))], [(2, vS 4 (eBase a0))], 48⟩) (ra 3 3 ⟨[(1, (sArg a1)), (2, (Pt 2)), (8, (sI x9)), (9, (I x10)), (10, (I o13)), (43, (V.sl 1 1 (List.map I x9))), (44, (I o13)), (45, (sI (([o13] : List Int))))], [(2, vS 4 (eBase a0))], 48⟩ rfl rfl rfl <| et (reg_eff (x := (app x9 ([o13] : List Int))) (w := fun v14 => ((V.sl 1 1 (List.map I v14)), _)) rfl rfl rfl rfl (p_app (e := I) rfl rfl rfl rfl rfl rfl rfl rfl rfl rfl (by decide))) <| bind_self fun v14 => bind_end rfl) fun o15 => et blk_normal <| kl ⟨[(1, (sArg a1)), (2, (Pt 2)), (8, (V.sl 1 1 (List.map I o15))), (9, (I (Go.IntKind.wrap .i64 (x10 + 1))))], [(2, vS 4 (eBase a0))], 48⟩ rfl <| et loop_normal <| ih o15 (Go.IntKind.wrap .i64 (x10 + 1))
    · rw [hc]
      exact et k_exit <| et loop_exit <| hK0 x9 x10
theorem ref14_Types_L2_ok (k : Nat) (a0 : T_api_Base) (a1 : (List T_api_Arg))  (K0 : (List Int) → Int → Option ((List Int) × Int)) (Kst : X × St → Option (V × List V)) (hK0 : ∀ (y0 : (List Int)) (y1 : Int), Kst (X.exit 0, ⟨[(1, (sArg a1)), (2, (Pt 2)), (8, (V.sl 1 1 (List.map I y0))), (9, (I y1)), (30, (Bo false))], [(2, vS 4 (eBase a0))], 48⟩) = (K0 y0 y1).map ref14_Types_fin) (hret : ∀ s, Kst (X.ret, s) = endK prog 48 [(eBase a0), (sArg a1)] [] [.tmp 4, .tmp 5] (X.ret, s)) :
    ∀ (m : Nat) (x23 : (List Int)) (x24 : Int), (iter (exec prog (EV k) f12n k f12b0) m ⟨[(1, (sArg a1)), (2, (Pt 2)), (8, (V.sl 1 1 (List.map I x23))), (9, (I x24))], [(2, vS 4 (eBase a0))], 48⟩).bind Kst = (ref14_Types_L2 k a0 a1 K0 m x23 x24).map ref14_Types_fin := by
  intro m
  induction m with
  | zero => intros; rfl
  | succ m ih =>
    intro x23 x24
    unfold ref14_Types_L2
    refine et k_round <| et k_assoc <| krp f12a8 rfl ⟨[(1, (sArg a1)), (2, (Pt 2)), (8, (V.sl 1 1 (List.map I x23))), (9, (I x24)), (30, (Bo (decide (x24 < (a1.length : Int)))))], [(2, vS 4 (eBase a0))], 48⟩ ?_ ?_
    · exact rd 2 [(27, (I x24)), (28, (sArg a1))] rfl rfl <| rl rfl (p_len (e := eArg) rfl rfl rfl rfl rfl rfl underlying26) <| bind_end rfl
    refine kc rfl rfl (fun hc => ?_) fun hc => ?_
    · rw [hc]
      exact et k_skip <| et (k_block rfl) <| kd f12a10 rfl (fun (o27 : Int) => ⟨[(1, (sArg a1)), (2, (Pt 2)), (8, (V.sl 1 1 (List.map I x23))), (9, (I x24)), (10, (I o27))], [(2, vS 4 (eBase a0))], 48⟩) (et (regionE_regp (p := 12) (dk := true) (t := [(1, (sArg a1)), (2, (Pt 2)), (8, (V.sl 1 1 (List.map I x23))), (9, (I x24)), (30, (Bo true))]) (σ := [(2, vS 4 (eBase a0))]) (n := 48) rfl (by decide) (by decide) rfl) <| et (regp_adv (m := 3) (j := 3) (t' := [(1, (sArg a1)), (2, (Pt 2)), (8, (V.sl 1 1 (List.map I x23))), (9, (I x24)), (30, (Bo true)), (34, (eBase a0)), (35, (sArg a1)), (36, (I x24))]) rfl rfl rfl) <| et (regp_pure (x := (idx a1 x24)) (w := fun v25 => (Pr (eArg v25))) rfl rfl rfl rfl rfl (p_index (e := eArg) rfl rfl rfl underlying26 rfl (by decide))) <| bindE fun v25 => et (putp_adv (m := 2) (j := 6) (t' := [(1, (sArg a1)), (2, (Pt 2)), (8, (V.sl 1 1 (List.map I x23))), (9, (I x24)), (30, (Bo true)), (34, (eBase a0)), (35, (sArg a1)), (36, (I x24)), (37, (Pr (eArg v25))), (38, (Pr (Sr v25.fSegment))), (39, (Sr v25.fSegment))]) rfl rfl rfl) <| et (regp_pure (x := (ref11_Type k a0 v25.fSegment)) (w := fun v26 => (V.tup [(I v26.1), (I v26.2)])) rfl rfl rfl rfl rfl (p_call rfl rfl rfl rfl rfl (ref11_Type_ok k a0 v25.fSegment) (.inl rfl))) <| bindE fun v26 => regp_end rfl) fun o27 => kgl f12a11 rfl (fun (o29 : (List Int)) => ⟨[(1, (sArg a1)), (2, (Pt 2)), (8, (V.sl 1 1 (List.map I o29))), (9, (I x24))], [(2, vS 4 (eBase a0))], 48⟩) (ra 3 3 ⟨[(1, (sArg a1)), (2, (Pt 2)), (8, (sI x23)), (9, (I x24)), (10, (I o27)), (43, (V.sl 1 1 (List.map I x23))), (44, (I o27)), (45, (sI (([o27] : List Int))))], [(2, vS 4 (eBase a0))], 48⟩ rfl rfl rfl <| et (reg_eff (x := (app x23 ([o27] : List Int))) (w := fun v28 => ((V.sl 1 1 (List.map I v28)), _)) rfl rfl rfl rfl (p_app (e := I) rfl rfl rfl rfl rfl rfl rfl rfl rfl rfl (by decide))) <| bind_self fun v28 => bind_end rfl) fun o29 => et blk_normal <| kl ⟨[(1, (sArg a1)), (2, (Pt 2)), (8, (V.sl 1 1 (List.map I o29))), (9, (I (Go.IntKind.wrap .i64 (x24 + 1))))], [(2, vS 4 (eBase a0))], 48⟩ rfl <| et loop_normal <| ih o29 (Go.IntKind.wrap .i64 (x24 + 1))
    · rw [hc]
      exact et k_exit <| et loop_exit <| hK0 x23 x24
theorem ref14_Types_ok (k : Nat) (a0 : T_api_Base) (a1 : (List T_api_Arg)) : EV k 12 [(eBase a0), (sArg a1)] = (ref14_Types k a0 a1).map ref14_Types_fin := by
  cases k with
  | zero => rfl
  | succ k =>
    unfold ref14_Types
    refine et (evF_succ (c := f12c) (N := 48) (regs := f12n) rfl func12 rfl (by decide) rfl rfl rfl) <| kr ⟨[(1, (sArg a1)), (2, (Pt 2))], [(2, vS 4 (eBase a0))], 48⟩ rfl <| kga f12a1 rfl (fun (o2 : Str × Int) => [(6, (Sr o2.1)), (7, (I o2.2))]) (rd 2 [(13, (eBase a0)), (14, (sArg a1))] rfl rfl <| rp rfl (p_call rfl rfl rfl rfl rfl (ref14_Check_ok k a0 a1) (.inl rfl)) fun v1 => bind_end rfl) fun o2 => et k_assoc <| kg f12a2 rfl (fun (o3 : Bool) => ⟨[(1, (sArg a1)), (2, (Pt 2)), (7, (I o2.2)), (23, (Bo o3))], [(2, vS 4 (eBase a0))], 48⟩) ?_ fun o3 => ?_
    · refine rd 3 [(18, (I o2.2)), (19, (Bo (o2.2 == 0))), (20, (Bo (o2.2 == 0)))] rfl rfl <| bifE (fun hc => ?_) fun hc => ?_
      · rw [hc]
        exact reg_end rfl
      · rw [hc]
        exact reg_end rfl
    refine kc rfl rfl (fun hc => ?_) fun hc => ?_
    · rw [hc]
      refine kr ⟨[(1, (sArg a1)), (2, (Pt 2)), (7, (I 2))], [(2, vS 4 (eBase a0))], 48⟩ rfl <| et k_assoc <| kra [(25, (Bo ((2 : Int) != 0)))] rfl <| kc rfl rfl (fun hc => ?_) fun hc => ?_
      · rw [hc]
        refine et k_assoc <| kr ⟨[(4, (sI (([] : List Int)))), (5, (I 2))], [], 48⟩ rfl <| et k_ret ?_
        rfl
      · rw [hc]
        refine et k_skip <| kr ⟨[(1, (sArg a1)), (2, (Pt 2)), (8, (V.sl 1 1 (List.map I ([] : List Int))))], [(2, vS 4 (eBase a0))], 48⟩ rfl <| et k_assoc <| kra [(9, (I 0))] rfl <| et (k_block rfl) <| et k_loop ?_
        refine ref14_Types_L1_ok k a0 a1 _ _ ?h_ref14_Types_L1_0 ?hr_ref14_Types_L1 k ([] : List Int) 0
        · intro y16 y17
          refine et blk_exit <| kr ⟨[(4, (sI y16)), (5, (I 0))], [], 48⟩ rfl <| et k_lret ?_
          rfl
        · intro s; exact rfl
    · rw [hc]
      refine et k_skip <| et k_assoc <| kr ⟨[(1, (sArg a1)), (2, (Pt 2)), (7, (I o2.2)), (25, (Bo (o2.2 != 0)))], [(2, vS 4 (eBase a0))], 48⟩ rfl <| kc rfl rfl (fun hc => ?_) fun hc => ?_
      · rw [hc]
        refine et k_assoc <| kr ⟨[(4, (sI (([] : List Int)))), (5, (I o2.2))], [], 48⟩ rfl <| et k_ret ?_
        rfl
      · rw [hc]
        refine et k_skip <| kr ⟨[(1, (sArg a1)), (2, (Pt 2)), (8, (V.sl 1 1 (List.map I ([] : List Int))))], [(2, vS 4 (eBase a0))], 48⟩ rfl <| et k_assoc <| kra [(9, (I 0))] rfl <| et (k_block rfl) <| et k_loop ?_
        refine ref14_Types_L2_ok k a0 a1 _ _ ?h_ref14_Types_L2_0 ?hr_ref14_Types_L2 k ([] : List Int) 0
        · intro y30 y31
          refine et blk_exit <| kr ⟨[(4, (sI y30)), (5, (I 0))], [], 48⟩ rfl <| et k_lret ?_
          rfl
        · intro s; exact rfl
def ref01_SameInts_fin : Bool → V × List V := fun r => ((Bo r), [])
theorem ref01_SameInts_L1_ok (k : Nat) (a0 : (List Int)) (a1 : (List Int))  (K0 : Int → Option Bool) (Kst : X × St → Option (V × List V)) (hK0 : ∀ (y0 : Int), Kst (X.exit 0, ⟨[(0, (sI a0)), (1, (sI a1)), (5, (I y0)), (14, (Bo false))], [], 26⟩) = (K0 y0).map ref01_SameInts_fin) (hret : ∀ s, Kst (X.ret, s) = endK prog 26 [(sI a0), (sI a1)] [] [.tmp 4] (X.ret, s)) :
    ∀ (m : Nat) (x4 : Int), (iter (exec prog (EV k) f13n k f13b0) m ⟨[(0, (sI a0)), (1, (sI a1)), (5, (I x4))], [], 26⟩).bind Kst = (ref01_SameInts_L1 a0 a1 K0 m x4).map ref01_SameInts_fin := by
  intro m
  induction m with
  | zero => intros; rfl
  | succ m ih =>
    intro x4
    unfold ref01_SameInts_L1
    refine et k_round <| et k_assoc <| krp f13a4 rfl ⟨[(0, (sI a0)), (1, (sI a1)), (5, (I x4)), (14, (Bo (decide (x4 < (a0.length : Int)))))], [], 26⟩ ?_ ?_
    · exact rd 2 [(11, (I x4)), (12, (sI a0))] rfl rfl <| rl rfl (p_len (e := I) rfl rfl rfl rfl rfl rfl underlying33) <| bind_end rfl
    refine kc rfl rfl (fun hc => ?_) fun hc => ?_
    · rw [hc]
      refine et k_skip <| et (k_block rfl) <| kd f13a6 rfl (fun (o7 : Bool) => ⟨[(0, (sI a0)), (1, (sI a1)), (5, (I x4)), (25, (Bo o7))], [], 26⟩) (et (regionE_regp (p := 9) (dk := true) (t := [(0, (sI a0)), (1, (sI a1)), (5, (I x4)), (14, (Bo true))]) (σ := []) (n := 26) rfl (by decide) (by decide) rfl) <| et (regp_adv (m := 2) (j := 2) (t' := [(0, (sI a0)), (1, (sI a1)), (5, (I x4)), (14, (Bo true)), (17, (sI a0)), (18, (I x4))]) rfl rfl rfl) <| et (regp_pure (x := (idx a0 x4)) (w := fun v5 => (Pr (I v5))) rfl rfl rfl rfl rfl (p_index (e := I) rfl rfl rfl underlying33 rfl (by decide))) <| bindE fun v5 => et (putp_adv (m := 3) (j := 6) (t' := [(0, (sI a0)), (1, (sI a1)), (5, (I x4)), (14, (Bo true)), (17, (sI a0)), (18, (I x4)), (19, (Pr (I v5))), (20, (I v5)), (21, (sI a1)), (22, (I x4))]) rfl rfl rfl) <| et (regp_pure (x := (idx a1 x4)) (w := fun v6 => (Pr (I v6))) rfl rfl rfl rfl rfl (p_index (e := I) rfl rfl rfl underlying33 rfl (by decide))) <| bindE fun v6 => regp_end rfl) fun o7 => kcl rfl rfl (fun hc => ?_) fun hc => ?_
      · rw [hc]
        refine kr ⟨[(4, (Bo false))], [], 26⟩ rfl <| et k_lret <| et blk_ret <| et loop_ret <| et (hret _) ?_
        rfl
      · rw [hc]
        exact et k_lskip <| et blk_normal <| kl ⟨[(0, (sI a0)), (1, (sI a1)), (5, (I (Go.IntKind.wrap .i64 (x4 + 1))))], [], 26⟩ rfl <| et loop_normal <| ih (Go.IntKind.wrap .i64 (x4 + 1))
    · rw [hc]
      exact et k_exit <| et loop_exit <| hK0 x4
theorem ref01_SameInts_ok (k : Nat) (a0 : (List Int)) (a1 : (List Int)) : EV k 13 [(sI a0), (sI a1)] = (ref01_SameInts k a0 a1).map ref01_SameInts_fin := by
  cases k with
  | zero => rfl
  | succ k =>
    unfold ref01_SameInts
    refine et (evF_succ (c := f13c) (N := 26) (regs := f13n) rfl func13 rfl (by decide) rfl rfl rfl) <| kra [] rfl <| et k_assoc <| krp f13a1 rfl ⟨[(0, (sI a0)), (1, (sI a1)), (10, (Bo ((a0.length : Int) != (a1.length : Int))))], [], 26⟩ ?_ ?_
    · exact rd 1 [(6, (sI a0))] rfl rfl <| rl rfl (p_len (e := I) rfl rfl rfl rfl rfl rfl underlying33) <| bd 3 [(7, (I (a0.length : Int))), (8, (sI a1))] rfl rfl <| rl rfl (p_len (e := I) rfl rfl rfl rfl rfl rfl underlying33) <| bind_end rfl
    refine kc rfl rfl (fun hc => ?_) fun hc => ?_
    · rw [hc]
      refine et k_assoc <| kr ⟨[(4, (Bo false))], [], 26⟩ rfl <| et k_ret ?_
      rfl
    · rw [hc]
      refine et k_skip <| et k_assoc <| kr ⟨[(0, (sI a0)), (1, (sI a1)), (5, (I 0))], [], 26⟩ rfl <| et (k_block rfl) <| et k_loop ?_
      refine ref01_SameInts_L1_ok k a0 a1 _ _ ?h_ref01_SameInts_L1_0 ?hr_ref01_SameInts_L1 k 0
      · intro y8
        refine et blk_exit <| kr ⟨[(4, (Bo true))], [], 26⟩ rfl <| et k_lret ?_
        rfl
      · intro s; exact rfl
def law14_SsaChecks_fin : Bool → V × List V := fun r => ((Bo r), [])
theorem law14_SsaChecks_ok (k : Nat) (a0 : T_api_Base) (a1 : (List T_api_Arg)) : EV k 3 [(eBase a0), (sArg a1)] = (law14_SsaChecks k a0 a1).map law14_SsaChecks_fin := by
  cases k with
  | zero => rfl
  | succ k =>
    unfold law14_SsaChecks
    refine et (evF_succ (c := f3c) (N := 65) (regs := f3n) rfl func3 rfl (by decide) rfl rfl rfl) <| kr ⟨[(1, (sArg a1)), (2, (Pt 2))], [(2, vS 4 (eBase a0))], 65⟩ rfl <| et k_assoc <| kga f3a1 rfl (fun (o3 : Bool) => [(18, (Bo o3))]) ?_ fun o3 => ?_
    · refine rd 1 [(13, (eBase a0))] rfl rfl <| rp rfl (p_call rfl rfl rfl rfl rfl (law12_Large_ok k a0) (.inl rfl)) fun v1 => bd 3 [(14, (Bo v1)), (15, (Bo v1))] rfl rfl <| bifE (fun hc => ?_) fun hc => ?_
      · rw [hc]
        exact reg_end rfl
      · rw [hc]
        exact rd 4 [(16, (sArg a1))] rfl rfl <| rs rfl (p_call rfl rfl rfl rfl rfl (law14_Long_ok k a1) (.inl rfl)) fun v2 => bind_end rfl
    refine kc rfl rfl (fun hc => ?_) fun hc => ?_
    · rw [hc]
      refine et k_assoc <| kg f3a2 rfl (fun (o5 : Bool) => ⟨[(4, (Bo o5))], [], 65⟩) (rs rfl (p_call rfl rfl rfl rfl rfl (law14_Awake_ok k) (.inl rfl)) fun v4 => bind_end rfl) fun o5 => et k_ret ?_
      rfl
    · rw [hc]
      refine et k_skip <| kg f3a3 rfl (fun (o7 : Str × Int) => ⟨[(1, (sArg a1)), (2, (Pt 2)), (5, (Sr o7.1)), (6, (I o7.2))], [(2, vS 4 (eBase a0))], 65⟩) (rd 2 [(21, (eBase a0)), (22, (sArg a1))] rfl rfl <| rp rfl (p_call rfl rfl rfl rfl rfl (ssa_Check_ok k a0 a1) (.inl rfl)) fun v6 => bind_end rfl) fun o7 => kga f3a4 rfl (fun (o9 : Str × Int) => [(7, (Sr o9.1)), (8, (I o9.2))]) (rd 2 [(27, (eBase a0)), (28, (sArg a1))] rfl rfl <| rp rfl (p_call rfl rfl rfl rfl rfl (ref14_Check_ok k a0 a1) (.inl rfl)) fun v8 => bind_end rfl) fun o9 => kga f3a5 rfl (fun (o11 : (List Int) × Int) => [(9, (sI o11.1)), (10, (I o11.2))]) (rd 2 [(33, (eBase a0)), (34, (sArg a1))] rfl rfl <| rp rfl (p_call rfl rfl rfl rfl rfl (ssa_Types_ok k a0 a1) (.inl rfl)) fun v10 => bind_end rfl) fun o11 => kg f3a6 rfl (fun (o13 : (List Int) × Int) => ⟨[(5, (Sr o7.1)), (6, (I o7.2)), (7, (Sr o9.1)), (8, (I o9.2)), (9, (sI o11.1)), (10, (I o11.2)), (11, (sI o13.1)), (12, (I o13.2))], [], 65⟩) (rd 2 [(39, (eBase a0)), (40, (sArg a1))] rfl rfl <| rp rfl (p_call rfl rfl rfl rfl rfl (ref14_Types_ok k a0 a1) (.inl rfl)) fun v12 => bind_end rfl) fun o13 => kg f3a7 rfl (fun (o16 : Bool) => ⟨[(4, (Bo o16))], [], 65⟩) ?_ fun o16 => ?_
      · refine rd 4 [(44, (Sr o7.1)), (45, (Sr o9.1)), (46, (Bo (o7.1 == o9.1))), (47, (Bo (o7.1 == o9.1)))] rfl rfl <| bifE (fun hc => ?_) fun hc => ?_
        · rw [hc]
          refine rd 9 [(48, (I o7.2)), (49, (I o9.2)), (50, (Bo (o7.2 == o9.2))), (51, (Bo (o7.2 == o9.2))), (52, (Bo (o7.2 == o9.2)))] rfl rfl <| bifE (fun hc => ?_) fun hc => ?_
          · rw [hc]
            refine rd 11 [(53, (sI o11.1)), (54, (sI o13.1))] rfl rfl <| rp rfl (p_call rfl rfl rfl rfl rfl (ref01_SameInts_ok k o11.1 o13.1) (.inl rfl)) fun v14 => bd 14 [(55, (Bo v14)), (56, (Bo v14)), (57, (Bo v14))] rfl rfl <| bifE (fun hc => ?_) fun hc => ?_
            · rw [hc]
              refine rd 19 [(58, (I o11.2)), (59, (I o13.2)), (60, (Bo (o11.2 == o13.2))), (61, (Bo (o11.2 == o13.2))), (62, (Bo (o11.2 == o13.2)))] rfl rfl <| bifE (fun hc => ?_) fun hc => ?_
              · rw [hc]
                exact rs rfl (p_call rfl rfl rfl rfl rfl (law14_Awake_ok k) (.inl rfl)) fun v15 => bind_end rfl
              · rw [hc]
                exact reg_end rfl
            · rw [hc]
              exact reg_end rfl
          · rw [hc]
            exact reg_end rfl
        · rw [hc]
          exact reg_end rfl
      refine et k_lret ?_
      rfl
end
end Go.AE
