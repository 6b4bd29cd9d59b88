/- The program, function by function: the evaluator comes to the typed functions. Conditions: none. -/
import Derived.Test.YtgpblbjceghpjaaA3
import Derived.KernelRfl
import Derived.Test.YtgpblbjceghpjaaProg
import Derived.Test.YtgpblbjceghpjaaB1
import Derived.Test.YtgpblbjceghpjaaE1
namespace Go.AE
open Go.Proofs.Try Go.Sh
set_option linter.unusedSimpArgs false
set_option linter.unusedVariables false
set_option maxRecDepth 100000
set_option maxHeartbeats 4000000
noncomputable section
theorem ref11_fields_ok (k : Nat) (a0 : T_api_Type) : EV k 87 [(eType a0)] = (ref11_fields k a0).map ref11_fields_fin := by
  cases k with
  | zero => rfl
  | succ k =>
    unfold ref11_fields
    refine et (evF_succ (c := f87c) (N := 112) (regs := f87n) rfl func87 rfl (by decide) rfl rfl rfl) <| kr ⟨[(1, (Pt 1))], [(1, vS 8 (eType a0))], 112⟩ rfl <| et k_assoc <| kra [(3, (I 0))] rfl <| et (k_block rfl) <| et k_loop ?_
    refine ref11_fields_L1_ok k a0 _ _ ?h_ref11_fields_L1_0 ?hr_ref11_fields_L1 k 0
    · intro y22
      refine et blk_exit <| et k_assoc <| kg f87a12 rfl (fun (o23 : Bool) => ⟨[(1, (Pt 1)), (82, (Bo o23))], [(1, vS 8 (eType a0))], 112⟩) ?_ fun o23 => ?_
      · refine rd 4 [(63, (V.ptr 1 0 5)), (64, (I a0.fKey)), (65, (Bo (decide (a0.fKey < (-1))))), (66, (Bo (decide (a0.fKey < (-1)))))] rfl rfl <| bifE (fun hc => ?_) fun hc => ?_
        · rw [hc]
          exact reg_end rfl
        · rw [hc]
          refine rd 8 [(67, (V.ptr 1 0 5)), (68, (I a0.fKey)), (69, (V.ptr 1 0 4)), (70, (sField a0.fFields))] rfl rfl <| rl rfl (p_len (e := eField) rfl rfl rfl rfl rfl rfl underlying43) <| bd 12 [(71, (I (a0.fFields.length : Int))), (72, (Bo (decide (a0.fKey ≥ (a0.fFields.length : Int))))), (73, (Bo (decide (a0.fKey ≥ (a0.fFields.length : Int))))), (74, (Bo (decide (a0.fKey ≥ (a0.fFields.length : Int)))))] rfl rfl <| bifE (fun hc => ?_) fun hc => ?_
          · rw [hc]
            exact reg_end rfl
          · rw [hc]
            refine rd 16 [(75, (V.ptr 1 0 5)), (76, (I a0.fKey)), (77, (Bo (decide (a0.fKey < 0)))), (78, (Bo (decide (a0.fKey < 0))))] rfl rfl <| bifE (fun hc => ?_) fun hc => ?_
            · rw [hc]
              exact reg_end rfl
            · rw [hc]
              exact reg_end rfl
      refine kc rfl rfl (fun hc => ?_) fun hc => ?_
      · rw [hc]
        refine et k_assoc <| kr ⟨[(2, (Bo false))], [], 112⟩ rfl <| et k_ret ?_
        rfl
      · rw [hc]
        refine et k_skip <| kd f87a14 rfl (fun (o26 : Bool) => ⟨[(2, (Bo o26))], [], 112⟩) ?_ fun o26 => ?_
        · refine et (regionE_regp (p := 30) (dk := true) (t := [(1, (Pt 1)), (82, (Bo false))]) (σ := [(1, vS 8 (eType a0))]) (n := 112) rfl (by decide) (by decide) rfl) <| et (regp_adv (m := 2) (j := 2) (t' := [(1, (Pt 1)), (82, (Bo false)), (83, (V.ptr 1 0 4)), (84, (sField a0.fFields))]) rfl rfl rfl) <| et (regp_pure (x := some ()) (w := fun _ => (I (a0.fFields.length : Int))) rfl rfl rfl rfl rfl (p_len (e := eField) rfl rfl rfl rfl rfl rfl underlying43)) <| et some_bind <| et (putp_adv (m := 2) (j := 5) (t' := [(1, (Pt 1)), (82, (Bo false)), (83, (V.ptr 1 0 4)), (84, (sField a0.fFields)), (85, (I (a0.fFields.length : Int))), (86, (Bo (decide ((a0.fFields.length : Int) ≤ 5)))), (87, (Bo (decide ((a0.fFields.length : Int) ≤ 5))))]) rfl rfl rfl) <| bifE (fun hc => ?_) fun hc => ?_
          · rw [hc]
            refine et (regp_adv (m := 4) (j := 9) (t' := [(1, (Pt 1)), (82, (Bo false)), (83, (V.ptr 1 0 4)), (84, (sField a0.fFields)), (85, (I (a0.fFields.length : Int))), (86, (Bo true)), (87, (Bo true)), (88, (V.ptr 1 0 5)), (89, (I a0.fKey)), (90, (Bo (decide (a0.fKey < 0)))), (91, (Bo (decide (a0.fKey < 0))))]) rfl rfl rfl) <| bifE (fun hc => ?_) fun hc => ?_
            · rw [hc]
              exact regp_end rfl
            · rw [hc]
              exact et (regp_adv (m := 4) (j := 13) (t' := [(1, (Pt 1)), (82, (Bo false)), (83, (V.ptr 1 0 4)), (84, (sField a0.fFields)), (85, (I (a0.fFields.length : Int))), (86, (Bo true)), (87, (Bo true)), (88, (V.ptr 1 0 5)), (89, (I a0.fKey)), (90, (Bo false)), (91, (Bo false)), (92, (V.ptr 1 0 4)), (93, (sField a0.fFields)), (94, (V.ptr 1 0 5)), (95, (I a0.fKey))]) rfl rfl rfl) <| et (regp_pure (x := (idx a0.fFields a0.fKey)) (w := fun v24 => (Pr (eField v24))) rfl rfl rfl rfl rfl (p_index (e := eField) rfl rfl rfl underlying43 rfl (by decide))) <| bindE fun v24 => et (putp_adv (m := 6) (j := 20) (t' := [(1, (Pt 1)), (82, (Bo false)), (83, (V.ptr 1 0 4)), (84, (sField a0.fFields)), (85, (I (a0.fFields.length : Int))), (86, (Bo true)), (87, (Bo true)), (88, (V.ptr 1 0 5)), (89, (I a0.fKey)), (90, (Bo false)), (91, (Bo false)), (92, (V.ptr 1 0 4)), (93, (sField a0.fFields)), (94, (V.ptr 1 0 5)), (95, (I a0.fKey)), (96, (Pr (eField v24))), (97, (Pr (I v24.fAt))), (98, (I v24.fAt)), (99, (V.ptr 1 0 4)), (100, (sField a0.fFields)), (101, (V.ptr 1 0 5)), (102, (I a0.fKey))]) rfl rfl rfl) <| et (regp_pure (x := (idx a0.fFields a0.fKey)) (w := fun v25 => (Pr (eField v25))) rfl rfl rfl rfl rfl (p_index (e := eField) rfl rfl rfl underlying43 rfl (by decide))) <| bindE fun v25 => regp_end rfl
          · rw [hc]
            exact regp_end rfl
        refine et k_lret ?_
        rfl
    · intro s; exact rfl
def ref11_above_fin : Bool → V × List V := fun r => ((Bo r), [])
theorem ref11_above_L1_ok (k : Nat) (a0 : T_api_Base) (a1 : Int) (a2 : Int)  (K0 : Int → Option Bool) (Kst : X × St → Option (V × List V)) (hK0 : ∀ (y0 : Int), Kst (X.exit 0, ⟨[(1, (I a1)), (2, (I y0)), (3, (Pt 3)), (14, (Bo false))], [(3, vS 4 (eBase a0))], 24⟩) = (K0 y0).map ref11_above_fin) (hret : ∀ s, Kst (X.ret, s) = endK prog 24 [(eBase a0), (I a1), (I a2)] [] [.tmp 6] (X.ret, s)) :
    ∀ (m : Nat) (x5 : Int), (iter (exec prog (EV k) f88n k f88b0) m ⟨[(1, (I a1)), (2, (I x5)), (3, (Pt 3))], [(3, vS 4 (eBase a0))], 24⟩).bind Kst = (ref11_above_L1 a0 a1 K0 m x5).map ref11_above_fin := by
  intro m
  induction m with
  | zero => intros; rfl
  | succ m ih =>
    intro x5
    unfold ref11_above_L1
    refine et k_round <| et k_assoc <| kra [(14, (Bo (decide (x5 ≥ 0))))] rfl <| kc rfl rfl (fun hc => ?_) fun hc => ?_
    · rw [hc]
      refine et k_skip <| et (k_block rfl) <| kr ⟨[(1, (I a1)), (2, (I x5)), (3, (Pt 3)), (23, (Bo (x5 == a1)))], [(3, vS 4 (eBase a0))], 24⟩ rfl <| kcl rfl rfl (fun hc => ?_) fun hc => ?_
      · rw [hc]
        refine kr ⟨[(6, (Bo true))], [], 24⟩ rfl <| et k_lret <| et blk_ret <| et loop_ret <| et (hret _) ?_
        rfl
      · rw [hc]
        exact et k_lskip <| et blk_normal <| kgl f88a3 rfl (fun (o7 : Int) => ⟨[(1, (I a1)), (2, (I o7)), (3, (Pt 3))], [(3, vS 4 (eBase a0))], 24⟩) (ra 3 3 ⟨[(1, (I a1)), (2, (I x5)), (3, (Pt 3)), (15, (V.ptr 3 0 2)), (16, (sType a0.fTypes)), (17, (I x5)), (23, (Bo false))], [(3, vS 4 (eBase a0))], 24⟩ rfl rfl rfl <| rp rfl (p_index (e := eType) rfl rfl rfl underlying22 rfl (by decide)) fun v6 => bind_end rfl) fun o7 => et loop_normal <| ih o7
    · rw [hc]
      exact et k_exit <| et loop_exit <| hK0 x5
theorem ref11_above_ok (k : Nat) (a0 : T_api_Base) (a1 : Int) (a2 : Int) : EV k 88 [(eBase a0), (I a1), (I a2)] = (ref11_above k a0 a1 a2).map ref11_above_fin := by
  cases k with
  | zero => rfl
  | succ k =>
    unfold ref11_above
    refine et (evF_succ (c := f88c) (N := 24) (regs := f88n) rfl func88 rfl (by decide) rfl rfl rfl) <| kr ⟨[(1, (I a1)), (2, (I a2)), (3, (Pt 3))], [(3, vS 4 (eBase a0))], 24⟩ rfl <| et k_assoc <| kg f88a1 rfl (fun (o2 : Int) => ⟨[(1, (I a1)), (2, (I o2)), (3, (Pt 3))], [(3, vS 4 (eBase a0))], 24⟩) (rd 3 [(7, (V.ptr 3 0 2)), (8, (sType a0.fTypes)), (9, (I a2))] rfl rfl <| rp rfl (p_index (e := eType) rfl rfl rfl underlying22 rfl (by decide)) fun v1 => bind_end rfl) fun o2 => et (k_block rfl) <| et k_loop ?_
    refine ref11_above_L1_ok k a0 a1 a2 _ _ ?h_ref11_above_L1_0 ?hr_ref11_above_L1 k o2
    · intro y8
      refine et blk_exit <| kr ⟨[(6, (Bo false))], [], 24⟩ rfl <| et k_lret ?_
      rfl
    · intro s; exact rfl
def ref11_way_fin : (List Int) → V × List V := fun r => ((sI r), [])
theorem ref11_way_L1_ok (k : Nat) (a0 : T_api_Base) (a1 : Int)  (K0 : Int → (List Int) → Option (List Int)) (Kst : X × St → Option (V × List V)) (hK0 : ∀ (y0 : Int) (y1 : (List Int)), Kst (X.exit 0, ⟨[(1, (I y0)), (2, (Pt 2)), (5, (sI y1)), (7, (Bo false))], [(2, vS 4 (eBase a0))], 19⟩) = (K0 y0 y1).map ref11_way_fin) (hret : ∀ s, Kst (X.ret, s) = endK prog 19 [(eBase a0), (I a1)] [] [.tmp 4] (X.ret, s)) :
    ∀ (m : Nat) (x5 : Int) (x6 : (List Int)), (iter (exec prog (EV k) f89n k f89b0) m ⟨[(1, (I x5)), (2, (Pt 2)), (5, (sI x6))], [(2, vS 4 (eBase a0))], 19⟩).bind Kst = (ref11_way_L1 a0 K0 m x5 x6).map ref11_way_fin := by
  intro m
  induction m with
  | zero => intros; rfl
  | succ m ih =>
    intro x5 x6
    unfold ref11_way_L1
    refine et k_round <| et k_assoc <| kra [(7, (Bo (decide (x5 ≥ 0))))] rfl <| kc rfl rfl (fun hc => ?_) fun hc => ?_
    · rw [hc]
      exact et k_skip <| et (k_lblock rfl) <| kg f89a3 rfl (fun (o8 : (List Int)) => ⟨[(1, (I x5)), (2, (Pt 2)), (5, (sI o8))], [(2, vS 4 (eBase a0))], 19⟩) (rd 3 [(8, (I x5)), (9, (V.sl 1 1 (List.map I ([x5] : List Int)))), (10, (sI x6))] rfl rfl <| et (reg_eff (x := (app ([x5] : List Int) x6)) (w := fun v7 => ((V.sl 1 1 (List.map I v7)), _)) rfl rfl rfl rfl (p_app (e := I) rfl rfl rfl rfl rfl rfl rfl rfl rfl rfl (by decide))) <| bind_self fun v7 => bind_end rfl) fun o8 => kgl f89a4 rfl (fun (o10 : Int) => ⟨[(1, (I o10)), (2, (Pt 2)), (5, (sI o8))], [(2, vS 4 (eBase a0))], 19⟩) (rd 3 [(12, (V.ptr 2 0 2)), (13, (sType a0.fTypes)), (14, (I x5))] rfl rfl <| rp rfl (p_index (e := eType) rfl rfl rfl underlying22 rfl (by decide)) fun v9 => bind_end rfl) fun o10 => et blk_normal <| et k_lskip <| et loop_normal <| ih o10 o8
    · rw [hc]
      exact et k_exit <| et loop_exit <| hK0 x5 x6
theorem ref11_way_ok (k : Nat) (a0 : T_api_Base) (a1 : Int) : EV k 89 [(eBase a0), (I a1)] = (ref11_way k a0 a1).map ref11_way_fin := by
  cases k with
  | zero => rfl
  | succ k =>
    unfold ref11_way
    refine et (evF_succ (c := f89c) (N := 19) (regs := f89n) rfl func89 rfl (by decide) rfl rfl rfl) <| kr ⟨[(1, (I a1)), (2, (Pt 2))], [(2, vS 4 (eBase a0))], 19⟩ rfl <| kra [(5, (sI (([] : List Int))))] rfl <| et (k_block rfl) <| et k_loop ?_
    refine ref11_way_L1_ok k a0 a1 _ _ ?h_ref11_way_L1_0 ?hr_ref11_way_L1 k a1 ([] : List Int)
    · intro y11 y12
      refine et blk_exit <| kr ⟨[(4, (sI y12))], [], 19⟩ rfl <| et k_lret ?_
      rfl
    · intro s; exact rfl
def ref11_Valid_fin : Bool → V × List V := fun r => ((Bo r), [])
theorem ref11_Valid_L2_ok (k : Nat) (a0 : T_api_Base) (x20 : Int) (o22 : T_api_Type)  (K0 : Int → Option Bool) (Kst : X × St → Option (V × List V)) (hK0 : ∀ (y0 : Int), Kst (X.exit 2, ⟨[(1, (Pt 1)), (3, (I x20)), (4, (Pt 4)), (5, (I y0)), (81, (Bo false))], [(1, vS 4 (eBase a0)), (4, vS 8 (eType o22))], 232⟩) = (K0 y0).map ref11_Valid_fin) (hret : ∀ s, Kst (X.ret, s) = endK prog 232 [(eBase a0)] [] [.tmp 2] (X.ret, s)) :
    ∀ (m : Nat) (x28 : Int), (iter (exec prog (EV k) f64n k f64b0) m ⟨[(1, (Pt 1)), (3, (I x20)), (4, (Pt 4)), (5, (I x28))], [(1, vS 4 (eBase a0)), (4, vS 8 (eType o22))], 232⟩).bind Kst = (ref11_Valid_L2 a0 x20 o22 K0 m x28).map ref11_Valid_fin := by
  intro m
  induction m with
  | zero => intros; rfl
  | succ m ih =>
    intro x28
    unfold ref11_Valid_L2
    refine et k_round <| et k_assoc <| kra [(81, (Bo (decide (x28 < x20))))] rfl <| kc rfl rfl (fun hc => ?_) fun hc => ?_
    · rw [hc]
      refine et k_skip <| et (k_block rfl) <| kd f64a12 rfl (fun (o30 : Bool) => ⟨[(1, (Pt 1)), (3, (I x20)), (4, (Pt 4)), (5, (I x28)), (92, (Bo o30))], [(1, vS 4 (eBase a0)), (4, vS 8 (eType o22))], 232⟩) (et (regionE_regp (p := 9) (dk := true) (t := [(1, (Pt 1)), (3, (I x20)), (4, (Pt 4)), (5, (I x28)), (81, (Bo true))]) (σ := [(1, vS 4 (eBase a0)), (4, vS 8 (eType o22))]) (n := 232) rfl (by decide) (by decide) rfl) <| et (regp_adv (m := 3) (j := 3) (t' := [(1, (Pt 1)), (3, (I x20)), (4, (Pt 4)), (5, (I x28)), (81, (Bo true)), (84, (V.ptr 1 0 2)), (85, (sType a0.fTypes)), (86, (I x28))]) rfl rfl rfl) <| et (regp_pure (x := (idx a0.fTypes x28)) (w := fun v29 => (Pr (eType v29))) rfl rfl rfl rfl rfl (p_index (e := eType) rfl rfl rfl underlying22 rfl (by decide))) <| bindE fun v29 => regp_end rfl) fun o30 => kcl rfl rfl (fun hc => ?_) fun hc => ?_
      · rw [hc]
        refine kr ⟨[(2, (Bo false))], [], 232⟩ rfl <| et k_lret <| et blk_ret <| et loop_ret <| et (hret _) ?_
        rfl
      · rw [hc]
        exact et k_lskip <| et blk_normal <| kl ⟨[(1, (Pt 1)), (3, (I x20)), (4, (Pt 4)), (5, (I (Go.IntKind.wrap .i64 (x28 + 1))))], [(1, vS 4 (eBase a0)), (4, vS 8 (eType o22))], 232⟩ rfl <| et loop_normal <| ih (Go.IntKind.wrap .i64 (x28 + 1))
    · rw [hc]
      exact et k_exit <| et loop_exit <| hK0 x28
theorem ref11_Valid_L1_ok (k : Nat) (a0 : T_api_Base)  (K0 : Int → Option Bool) (Kst : X × St → Option (V × List V)) (hK0 : ∀ (y0 : Int), Kst (X.exit 0, ⟨[(1, (Pt 1)), (3, (I y0)), (45, (Bo false))], [(1, vS 4 (eBase a0))], 232⟩) = (K0 y0).map ref11_Valid_fin) (hret : ∀ s, Kst (X.ret, s) = endK prog 232 [(eBase a0)] [] [.tmp 2] (X.ret, s)) :
    ∀ (m : Nat) (x20 : Int), (iter (exec prog (EV k) f64n k f64b1) m ⟨[(1, (Pt 1)), (3, (I x20))], [(1, vS 4 (eBase a0))], 232⟩).bind Kst = (ref11_Valid_L1 k a0 K0 m x20).map ref11_Valid_fin := by
  intro m
  induction m with
  | zero => intros; rfl
  | succ m ih =>
    intro x20
    unfold ref11_Valid_L1
    refine et k_round <| et k_assoc <| krp f64a4 rfl ⟨[(1, (Pt 1)), (3, (I x20)), (45, (Bo (decide (x20 < (a0.fTypes.length : Int)))))], [(1, vS 4 (eBase a0))], 232⟩ ?_ ?_
    · exact rd 3 [(41, (I x20)), (42, (V.ptr 1 0 2)), (43, (sType a0.fTypes))] rfl rfl <| rl rfl (p_len (e := eType) rfl rfl rfl rfl rfl rfl underlying22) <| bind_end rfl
    refine kc rfl rfl (fun hc => ?_) fun hc => ?_
    · rw [hc]
      refine et k_skip <| et (k_block rfl) <| kg f64a6 rfl (fun (o22 : T_api_Type) => ⟨[(1, (Pt 1)), (3, (I x20)), (4, (Pt 4))], [(1, vS 4 (eBase a0)), (4, vS 8 (eType o22))], 232⟩) (rd 3 [(48, (V.ptr 1 0 2)), (49, (sType a0.fTypes)), (50, (I x20))] rfl rfl <| rs rfl (p_index (e := eType) rfl rfl rfl underlying22 rfl (by decide)) fun v21 => bind_end rfl) fun o22 => et k_assoc <| kga f64a7 rfl (fun (o25 : Bool) => [(78, (Bo o25))]) ?_ fun o25 => ?_
      · refine rd 2 [(53, (Pt 4)), (54, (Sr o22.fName))] rfl rfl <| rp rfl (p_call rfl rfl rfl rfl rfl (ref11_IsName_ok k o22.fName) (.inl rfl)) fun v23 => bd 5 [(55, (Bo v23)), (56, (Bo (!v23))), (57, (Bo (!v23)))] rfl rfl <| bifE (fun hc => ?_) fun hc => ?_
        · rw [hc]
          exact reg_end rfl
        · rw [hc]
          refine rd 10 [(58, (V.ptr 4 0 2)), (59, (I o22.fMin)), (60, (Bo (decide (o22.fMin < 1)))), (61, (Bo (decide (o22.fMin < 1)))), (62, (Bo (decide (o22.fMin < 1))))] rfl rfl <| bifE (fun hc => ?_) fun hc => ?_
          · rw [hc]
            exact reg_end rfl
          · rw [hc]
            refine rd 17 [(63, (V.ptr 4 0 2)), (64, (I o22.fMin)), (65, (V.ptr 4 0 3)), (66, (I o22.fSize)), (67, (Bo (decide (o22.fMin > o22.fSize)))), (68, (Bo (decide (o22.fMin > o22.fSize)))), (69, (Bo (decide (o22.fMin > o22.fSize))))] rfl rfl <| bifE (fun hc => ?_) fun hc => ?_
            · rw [hc]
              exact reg_end rfl
            · rw [hc]
              refine rd 22 [(70, (V.ptr 4 0 3)), (71, (I o22.fSize)), (72, (Bo (decide (o22.fSize > 40)))), (73, (Bo (decide (o22.fSize > 40)))), (74, (Bo (decide (o22.fSize > 40))))] rfl rfl <| bifE (fun hc => ?_) fun hc => ?_
              · rw [hc]
                exact reg_end rfl
              · rw [hc]
                exact rd 23 [(75, (eType o22))] rfl rfl <| rp rfl (p_call rfl rfl rfl rfl rfl (ref11_fields_ok k o22) (.inl rfl)) fun v24 => bind_end rfl
      refine kc rfl rfl (fun hc => ?_) fun hc => ?_
      · rw [hc]
        refine et k_assoc <| kr ⟨[(2, (Bo false))], [], 232⟩ rfl <| et k_ret <| et blk_ret <| et loop_ret <| et (hret _) ?_
        rfl
      · rw [hc]
        refine et k_skip <| et k_assoc <| kr ⟨[(1, (Pt 1)), (3, (I x20)), (4, (Pt 4)), (5, (I 0))], [(1, vS 4 (eBase a0)), (4, vS 8 (eType o22))], 232⟩ rfl <| et (k_block rfl) <| et k_loop ?_
        refine ref11_Valid_L2_ok k a0 x20 o22 _ _ ?h_ref11_Valid_L2_0 ?hr_ref11_Valid_L2 k 0
        · intro y31
          refine et blk_exit <| et k_assoc <| kr ⟨[(1, (Pt 1)), (3, (I x20)), (4, (Pt 4)), (94, (Bo (x20 == 0)))], [(1, vS 4 (eBase a0)), (4, vS 8 (eType o22))], 232⟩ rfl <| kc rfl rfl (fun hc => ?_) fun hc => ?_
          · rw [hc]
            refine et k_assoc <| et k_assoc <| kg f64a15 rfl (fun (o33 : Bool) => ⟨[(1, (Pt 1)), (3, (I x20)), (117, (Bo o33))], [(1, vS 4 (eBase a0))], 232⟩) ?_ fun o33 => ?_
            · refine rd 4 [(95, (V.ptr 4 0 1)), (96, (I o22.fParent)), (97, (Bo (o22.fParent != (-1)))), (98, (Bo (o22.fParent != (-1))))] rfl rfl <| bifE (fun hc => ?_) fun hc => ?_
              · rw [hc]
                exact reg_end rfl
              · rw [hc]
                refine rd 9 [(99, (V.ptr 4 0 5)), (100, (I o22.fKey)), (101, (Bo (decide (o22.fKey < 0)))), (102, (Bo (decide (o22.fKey < 0)))), (103, (Bo (decide (o22.fKey < 0))))] rfl rfl <| bifE (fun hc => ?_) fun hc => ?_
                · rw [hc]
                  exact reg_end rfl
                · rw [hc]
                  refine rd 14 [(104, (V.ptr 4 0 6)), (105, (Bo o22.fUnique)), (106, (Bo (!o22.fUnique))), (107, (Bo (!o22.fUnique))), (108, (Bo (!o22.fUnique)))] rfl rfl <| bifE (fun hc => ?_) fun hc => ?_
                  · rw [hc]
                    exact reg_end rfl
                  · rw [hc]
                    exact rd 18 [(109, (V.ptr 4 0 4)), (110, (sField o22.fFields)), (111, (V.ptr 4 0 5)), (112, (I o22.fKey))] rfl rfl <| rp rfl (p_index (e := eField) rfl rfl rfl underlying43 rfl (by decide)) fun v32 => bind_end rfl
            refine kc rfl rfl (fun hc => ?_) fun hc => ?_
            · rw [hc]
              refine et k_assoc <| kr ⟨[(2, (Bo false))], [], 232⟩ rfl <| et k_ret <| et blk_ret <| et loop_ret <| et (hret _) ?_
              rfl
            · rw [hc]
              exact et k_skip <| et k_exit <| et blk_exit <| kl ⟨[(1, (Pt 1)), (3, (I (Go.IntKind.wrap .i64 (x20 + 1))))], [(1, vS 4 (eBase a0))], 232⟩ rfl <| et loop_normal <| ih (Go.IntKind.wrap .i64 (x20 + 1))
          · rw [hc]
            refine et k_skip <| kg f64a17 rfl (fun (o37 : Bool) => ⟨[(1, (Pt 1)), (3, (I x20)), (149, (Bo o37))], [(1, vS 4 (eBase a0))], 232⟩) ?_ fun o37 => ?_
            · refine rd 4 [(118, (V.ptr 4 0 1)), (119, (I o22.fParent)), (120, (Bo (decide (o22.fParent < 0)))), (121, (Bo (decide (o22.fParent < 0))))] rfl rfl <| bifE (fun hc => ?_) fun hc => ?_
              · rw [hc]
                exact reg_end rfl
              · rw [hc]
                refine rd 10 [(122, (V.ptr 4 0 1)), (123, (I o22.fParent)), (124, (I x20)), (125, (Bo (decide (o22.fParent ≥ x20)))), (126, (Bo (decide (o22.fParent ≥ x20)))), (127, (Bo (decide (o22.fParent ≥ x20))))] rfl rfl <| bifE (fun hc => ?_) fun hc => ?_
                · rw [hc]
                  exact reg_end rfl
                · rw [hc]
                  refine rd 16 [(128, (V.ptr 4 0 1)), (129, (I o22.fParent)), (130, (I x20)), (131, (I (Go.IntKind.wrap .i64 (x20 - 1)))), (132, (Bo (o22.fParent != (Go.IntKind.wrap .i64 (x20 - 1))))), (133, (Bo (o22.fParent != (Go.IntKind.wrap .i64 (x20 - 1)))))] rfl rfl <| bifE (fun hc => ?_) fun hc => ?_
                  · rw [hc]
                    refine rd 21 [(134, (eBase a0)), (135, (V.ptr 4 0 1)), (136, (I o22.fParent)), (137, (I x20)), (138, (I (Go.IntKind.wrap .i64 (x20 - 1))))] rfl rfl <| rp rfl (p_call rfl rfl rfl rfl rfl (ref11_above_ok k a0 o22.fParent (Go.IntKind.wrap .i64 (x20 - 1))) (.inl rfl)) fun v34 => bd 26 [(139, (Bo v34)), (140, (Bo (!v34))), (141, (Bo (!v34))), (142, (Bo (!v34))), (143, (Bo (!v34)))] rfl rfl <| bifE (fun hc => ?_) fun hc => ?_
                    · rw [hc]
                      exact reg_end rfl
                    · rw [hc]
                      exact rd 28 [(144, (eBase a0)), (145, (I x20))] rfl rfl <| rp rfl (p_call rfl rfl rfl rfl rfl (ref11_way_ok k a0 x20) (.inl rfl)) fun v35 => bd 29 [(146, (sI v35))] rfl rfl <| rl rfl (p_len (e := I) rfl rfl rfl rfl rfl rfl underlying87) <| bind_end rfl
                  · rw [hc]
                    exact rd 28 [(134, (V.tup [])), (135, (V.tup [])), (136, (V.tup [])), (137, (V.tup [])), (138, (V.tup [])), (139, (V.tup [])), (140, (V.tup [])), (141, (Bo false)), (142, (Bo false)), (143, (Bo false)), (144, (eBase a0)), (145, (I x20))] rfl rfl <| rp rfl (p_call rfl rfl rfl rfl rfl (ref11_way_ok k a0 x20) (.inl rfl)) fun v36 => bd 29 [(146, (sI v36))] rfl rfl <| rl rfl (p_len (e := I) rfl rfl rfl rfl rfl rfl underlying87) <| bind_end rfl
            refine kcl rfl rfl (fun hc => ?_) fun hc => ?_
            · rw [hc]
              refine kr ⟨[(2, (Bo false))], [], 232⟩ rfl <| et k_lret <| et blk_ret <| et loop_ret <| et (hret _) ?_
              rfl
            · rw [hc]
              exact et k_lskip <| et blk_normal <| kl ⟨[(1, (Pt 1)), (3, (I (Go.IntKind.wrap .i64 (x20 + 1))))], [(1, vS 4 (eBase a0))], 232⟩ rfl <| et loop_normal <| ih (Go.IntKind.wrap .i64 (x20 + 1))
        · intro s; exact hret s
    · rw [hc]
      exact et k_exit <| et loop_exit <| hK0 x20
theorem ref11_Valid_L4_ok (k : Nat) (a0 : T_api_Base) (x52 : Int) (o54 : T_api_Search)  (K0 : Int → Option Bool) (Kst : X × St → Option (V × List V)) (hK0 : ∀ (y0 : Int), Kst (X.exit 6, ⟨[(1, (Pt 1)), (6, (I x52)), (7, (Pt 7)), (8, (I y0)), (220, (Bo false))], [(1, vS 4 (eBase a0)), (7, vS 4 (eSearch o54))], 232⟩) = (K0 y0).map ref11_Valid_fin) (hret : ∀ s, Kst (X.ret, s) = endK prog 232 [(eBase a0)] [] [.tmp 2] (X.ret, s)) :
    ∀ (m : Nat) (x62 : Int), (iter (exec prog (EV k) f64n k f64b2) m ⟨[(1, (Pt 1)), (6, (I x52)), (7, (Pt 7)), (8, (I x62))], [(1, vS 4 (eBase a0)), (7, vS 4 (eSearch o54))], 232⟩).bind Kst = (ref11_Valid_L4 a0 x52 o54 K0 m x62).map ref11_Valid_fin := by
  intro m
  induction m with
  | zero => intros; rfl
  | succ m ih =>
    intro x62
    unfold ref11_Valid_L4
    refine et k_round <| et k_assoc <| kra [(220, (Bo (decide (x62 < x52))))] rfl <| kc rfl rfl (fun hc => ?_) fun hc => ?_
    · rw [hc]
      refine et k_skip <| et (k_block rfl) <| kd f64a28 rfl (fun (o64 : Bool) => ⟨[(1, (Pt 1)), (6, (I x52)), (7, (Pt 7)), (8, (I x62)), (231, (Bo o64))], [(1, vS 4 (eBase a0)), (7, vS 4 (eSearch o54))], 232⟩) (et (regionE_regp (p := 9) (dk := true) (t := [(1, (Pt 1)), (6, (I x52)), (7, (Pt 7)), (8, (I x62)), (220, (Bo true))]) (σ := [(1, vS 4 (eBase a0)), (7, vS 4 (eSearch o54))]) (n := 232) rfl (by decide) (by decide) rfl) <| et (regp_adv (m := 3) (j := 3) (t' := [(1, (Pt 1)), (6, (I x52)), (7, (Pt 7)), (8, (I x62)), (220, (Bo true)), (223, (V.ptr 1 0 3)), (224, (sSearch a0.fIndexes)), (225, (I x62))]) rfl rfl rfl) <| et (regp_pure (x := (idx a0.fIndexes x62)) (w := fun v63 => (Pr (eSearch v63))) rfl rfl rfl rfl rfl (p_index (e := eSearch) rfl rfl rfl underlying23 rfl (by decide))) <| bindE fun v63 => regp_end rfl) fun o64 => kcl rfl rfl (fun hc => ?_) fun hc => ?_
      · rw [hc]
        refine kr ⟨[(2, (Bo false))], [], 232⟩ rfl <| et k_lret <| et blk_ret <| et loop_ret <| et (hret _) ?_
        rfl
      · rw [hc]
        exact et k_lskip <| et blk_normal <| kl ⟨[(1, (Pt 1)), (6, (I x52)), (7, (Pt 7)), (8, (I (Go.IntKind.wrap .i64 (x62 + 1))))], [(1, vS 4 (eBase a0)), (7, vS 4 (eSearch o54))], 232⟩ rfl <| et loop_normal <| ih (Go.IntKind.wrap .i64 (x62 + 1))
    · rw [hc]
      exact et k_exit <| et loop_exit <| hK0 x62
theorem ref11_Valid_L3_ok (k : Nat) (a0 : T_api_Base)  (K0 : Int → Option Bool) (Kst : X × St → Option (V × List V)) (hK0 : ∀ (y0 : Int), Kst (X.exit 4, ⟨[(1, (Pt 1)), (6, (I y0)), (154, (Bo false))], [(1, vS 4 (eBase a0))], 232⟩) = (K0 y0).map ref11_Valid_fin) (hret : ∀ s, Kst (X.ret, s) = endK prog 232 [(eBase a0)] [] [.tmp 2] (X.ret, s)) :
    ∀ (m : Nat) (x52 : Int), (iter (exec prog (EV k) f64n k f64b3) m ⟨[(1, (Pt 1)), (6, (I x52))], [(1, vS 4 (eBase a0))], 232⟩).bind Kst = (ref11_Valid_L3 k a0 K0 m x52).map ref11_Valid_fin := by
  intro m
  induction m with
  | zero => intros; rfl
  | succ m ih =>
    intro x52
    unfold ref11_Valid_L3
    refine et k_round <| et k_assoc <| krp f64a20 rfl ⟨[(1, (Pt 1)), (6, (I x52)), (154, (Bo (decide (x52 < (a0.fIndexes.length : Int)))))], [(1, vS 4 (eBase a0))], 232⟩ ?_ ?_
    · exact rd 3 [(150, (I x52)), (151, (V.ptr 1 0 3)), (152, (sSearch a0.fIndexes))] rfl rfl <| rl rfl (p_len (e := eSearch) rfl rfl rfl rfl rfl rfl underlying23) <| bind_end rfl
    refine kc rfl rfl (fun hc => ?_) fun hc => ?_
    · rw [hc]
      refine et k_skip <| et (k_block rfl) <| kg f64a22 rfl (fun (o54 : T_api_Search) => ⟨[(1, (Pt 1)), (6, (I x52)), (7, (Pt 7))], [(1, vS 4 (eBase a0)), (7, vS 4 (eSearch o54))], 232⟩) (rd 3 [(157, (V.ptr 1 0 3)), (158, (sSearch a0.fIndexes)), (159, (I x52))] rfl rfl <| rs rfl (p_index (e := eSearch) rfl rfl rfl underlying23 rfl (by decide)) fun v53 => bind_end rfl) fun o54 => et k_assoc <| kd f64a23 rfl (fun (o59 : Bool) => ⟨[(1, (Pt 1)), (6, (I x52)), (7, (Pt 7)), (217, (Bo o59))], [(1, vS 4 (eBase a0)), (7, vS 4 (eSearch o54))], 232⟩) ?_ fun o59 => ?_
      · refine et (regionE_regp (p := 56) (dk := true) (t := [(1, (Pt 1)), (6, (I x52)), (7, (Pt 7))]) (σ := [(1, vS 4 (eBase a0)), (7, vS 4 (eSearch o54))]) (n := 232) rfl (by decide) (by decide) rfl) <| et (regp_adv (m := 2) (j := 2) (t' := [(1, (Pt 1)), (6, (I x52)), (7, (Pt 7)), (162, (Pt 7)), (163, (Sr o54.fName))]) rfl rfl rfl) <| et (regp_pure (x := (ref11_IsName k o54.fName)) (w := fun v55 => (Bo v55)) rfl rfl rfl rfl rfl (p_call rfl rfl rfl rfl rfl (ref11_IsName_ok k o54.fName) (.inl rfl))) <| bindE fun v55 => et (putp_adv (m := 2) (j := 5) (t' := [(1, (Pt 1)), (6, (I x52)), (7, (Pt 7)), (162, (Pt 7)), (163, (Sr o54.fName)), (164, (Bo v55)), (165, (Bo (!v55))), (166, (Bo (!v55)))]) rfl rfl rfl) <| bifE (fun hc => ?_) fun hc => ?_
        · rw [hc]
          exact regp_end rfl
        · rw [hc]
          refine et (regp_adv (m := 5) (j := 10) (t' := [(1, (Pt 1)), (6, (I x52)), (7, (Pt 7)), (162, (Pt 7)), (163, (Sr o54.fName)), (164, (Bo v55)), (165, (Bo false)), (166, (Bo false)), (167, (V.ptr 7 0 1)), (168, (I o54.fType)), (169, (Bo (decide (o54.fType < 0)))), (170, (Bo (decide (o54.fType < 0)))), (171, (Bo (decide (o54.fType < 0))))]) rfl rfl rfl) <| bifE (fun hc => ?_) fun hc => ?_
          · rw [hc]
            exact regp_end rfl
          · rw [hc]
            refine et (regp_adv (m := 4) (j := 14) (t' := [(1, (Pt 1)), (6, (I x52)), (7, (Pt 7)), (162, (Pt 7)), (163, (Sr o54.fName)), (164, (Bo v55)), (165, (Bo false)), (166, (Bo false)), (167, (V.ptr 7 0 1)), (168, (I o54.fType)), (169, (Bo false)), (170, (Bo false)), (171, (Bo false)), (172, (V.ptr 7 0 1)), (173, (I o54.fType)), (174, (V.ptr 1 0 2)), (175, (sType a0.fTypes))]) rfl rfl rfl) <| et (regp_pure (x := some ()) (w := fun _ => (I (a0.fTypes.length : Int))) rfl rfl rfl rfl rfl (p_len (e := eType) rfl rfl rfl rfl rfl rfl underlying22)) <| et some_bind <| et (putp_adv (m := 3) (j := 18) (t' := [(1, (Pt 1)), (6, (I x52)), (7, (Pt 7)), (162, (Pt 7)), (163, (Sr o54.fName)), (164, (Bo v55)), (165, (Bo false)), (166, (Bo false)), (167, (V.ptr 7 0 1)), (168, (I o54.fType)), (169, (Bo false)), (170, (Bo false)), (171, (Bo false)), (172, (V.ptr 7 0 1)), (173, (I o54.fType)), (174, (V.ptr 1 0 2)), (175, (sType a0.fTypes)), (176, (I (a0.fTypes.length : Int))), (177, (Bo (decide (o54.fType ≥ (a0.fTypes.length : Int))))), (178, (Bo (decide (o54.fType ≥ (a0.fTypes.length : Int))))), (179, (Bo (decide (o54.fType ≥ (a0.fTypes.length : Int)))))]) rfl rfl rfl) <| bifE (fun hc => ?_) fun hc => ?_
            · rw [hc]
              exact regp_end rfl
            · rw [hc]
              refine et (regp_adv (m := 5) (j := 23) (t' := [(1, (Pt 1)), (6, (I x52)), (7, (Pt 7)), (162, (Pt 7)), (163, (Sr o54.fName)), (164, (Bo v55)), (165, (Bo false)), (166, (Bo false)), (167, (V.ptr 7 0 1)), (168, (I o54.fType)), (169, (Bo false)), (170, (Bo false)), (171, (Bo false)), (172, (V.ptr 7 0 1)), (173, (I o54.fType)), (174, (V.ptr 1 0 2)), (175, (sType a0.fTypes)), (176, (I (a0.fTypes.length : Int))), (177, (Bo false)), (178, (Bo false)), (179, (Bo false)), (180, (V.ptr 7 0 2)), (181, (I o54.fField)), (182, (Bo (decide (o54.fField < 0)))), (183, (Bo (decide (o54.fField < 0)))), (184, (Bo (decide (o54.fField < 0))))]) rfl rfl rfl) <| bifE (fun hc => ?_) fun hc => ?_
              · rw [hc]
                exact regp_end rfl
              · rw [hc]
                refine et (regp_adv (m := 6) (j := 29) (t' := [(1, (Pt 1)), (6, (I x52)), (7, (Pt 7)), (162, (Pt 7)), (163, (Sr o54.fName)), (164, (Bo v55)), (165, (Bo false)), (166, (Bo false)), (167, (V.ptr 7 0 1)), (168, (I o54.fType)), (169, (Bo false)), (170, (Bo false)), (171, (Bo false)), (172, (V.ptr 7 0 1)), (173, (I o54.fType)), (174, (V.ptr 1 0 2)), (175, (sType a0.fTypes)), (176, (I (a0.fTypes.length : Int))), (177, (Bo false)), (178, (Bo false)), (179, (Bo false)), (180, (V.ptr 7 0 2)), (181, (I o54.fField)), (182, (Bo false)), (183, (Bo false)), (184, (Bo false)), (185, (V.ptr 7 0 2)), (186, (I o54.fField)), (187, (V.ptr 1 0 2)), (188, (sType a0.fTypes)), (189, (V.ptr 7 0 1)), (190, (I o54.fType))]) rfl rfl rfl) <| et (regp_pure (x := (idx a0.fTypes o54.fType)) (w := fun v56 => (Pr (eType v56))) rfl rfl rfl rfl rfl (p_index (e := eType) rfl rfl rfl underlying22 rfl (by decide))) <| bindE fun v56 => et (putp_adv (m := 2) (j := 32) (t' := [(1, (Pt 1)), (6, (I x52)), (7, (Pt 7)), (162, (Pt 7)), (163, (Sr o54.fName)), (164, (Bo v55)), (165, (Bo false)), (166, (Bo false)), (167, (V.ptr 7 0 1)), (168, (I o54.fType)), (169, (Bo false)), (170, (Bo false)), (171, (Bo false)), (172, (V.ptr 7 0 1)), (173, (I o54.fType)), (174, (V.ptr 1 0 2)), (175, (sType a0.fTypes)), (176, (I (a0.fTypes.length : Int))), (177, (Bo false)), (178, (Bo false)), (179, (Bo false)), (180, (V.ptr 7 0 2)), (181, (I o54.fField)), (182, (Bo false)), (183, (Bo false)), (184, (Bo false)), (185, (V.ptr 7 0 2)), (186, (I o54.fField)), (187, (V.ptr 1 0 2)), (188, (sType a0.fTypes)), (189, (V.ptr 7 0 1)), (190, (I o54.fType)), (191, (Pr (eType v56))), (192, (Pr (sField v56.fFields))), (193, (sField v56.fFields))]) rfl rfl rfl) <| et (regp_pure (x := some ()) (w := fun _ => (I (v56.fFields.length : Int))) rfl rfl rfl rfl rfl (p_len (e := eField) rfl rfl rfl rfl rfl rfl underlying43)) <| et some_bind <| et (putp_adv (m := 3) (j := 36) (t' := [(1, (Pt 1)), (6, (I x52)), (7, (Pt 7)), (162, (Pt 7)), (163, (Sr o54.fName)), (164, (Bo v55)), (165, (Bo false)), (166, (Bo false)), (167, (V.ptr 7 0 1)), (168, (I o54.fType)), (169, (Bo false)), (170, (Bo false)), (171, (Bo false)), (172, (V.ptr 7 0 1)), (173, (I o54.fType)), (174, (V.ptr 1 0 2)), (175, (sType a0.fTypes)), (176, (I (a0.fTypes.length : Int))), (177, (Bo false)), (178, (Bo false)), (179, (Bo false)), (180, (V.ptr 7 0 2)), (181, (I o54.fField)), (182, (Bo false)), (183, (Bo false)), (184, (Bo false)), (185, (V.ptr 7 0 2)), (186, (I o54.fField)), (187, (V.ptr 1 0 2)), (188, (sType a0.fTypes)), (189, (V.ptr 7 0 1)), (190, (I o54.fType)), (191, (Pr (eType v56))), (192, (Pr (sField v56.fFields))), (193, (sField v56.fFields)), (194, (I (v56.fFields.length : Int))), (195, (Bo (decide (o54.fField ≥ (v56.fFields.length : Int))))), (196, (Bo (decide (o54.fField ≥ (v56.fFields.length : Int))))), (197, (Bo (decide (o54.fField ≥ (v56.fFields.length : Int)))))]) rfl rfl rfl) <| bifE (fun hc => ?_) fun hc => ?_
                · rw [hc]
                  exact regp_end rfl
                · rw [hc]
                  refine et (regp_adv (m := 4) (j := 40) (t' := [(1, (Pt 1)), (6, (I x52)), (7, (Pt 7)), (162, (Pt 7)), (163, (Sr o54.fName)), (164, (Bo v55)), (165, (Bo false)), (166, (Bo false)), (167, (V.ptr 7 0 1)), (168, (I o54.fType)), (169, (Bo false)), (170, (Bo false)), (171, (Bo false)), (172, (V.ptr 7 0 1)), (173, (I o54.fType)), (174, (V.ptr 1 0 2)), (175, (sType a0.fTypes)), (176, (I (a0.fTypes.length : Int))), (177, (Bo false)), (178, (Bo false)), (179, (Bo false)), (180, (V.ptr 7 0 2)), (181, (I o54.fField)), (182, (Bo false)), (183, (Bo false)), (184, (Bo false)), (185, (V.ptr 7 0 2)), (186, (I o54.fField)), (187, (V.ptr 1 0 2)), (188, (sType a0.fTypes)), (189, (V.ptr 7 0 1)), (190, (I o54.fType)), (191, (Pr (eType v56))), (192, (Pr (sField v56.fFields))), (193, (sField v56.fFields)), (194, (I (v56.fFields.length : Int))), (195, (Bo false)), (196, (Bo false)), (197, (Bo false)), (198, (V.ptr 1 0 2)), (199, (sType a0.fTypes)), (200, (V.ptr 7 0 1)), (201, (I o54.fType))]) rfl rfl rfl) <| et (regp_pure (x := (idx a0.fTypes o54.fType)) (w := fun v57 => (Pr (eType v57))) rfl rfl rfl rfl rfl (p_index (e := eType) rfl rfl rfl underlying22 rfl (by decide))) <| bindE fun v57 => et (putp_adv (m := 4) (j := 45) (t' := [(1, (Pt 1)), (6, (I x52)), (7, (Pt 7)), (162, (Pt 7)), (163, (Sr o54.fName)), (164, (Bo v55)), (165, (Bo false)), (166, (Bo false)), (167, (V.ptr 7 0 1)), (168, (I o54.fType)), (169, (Bo false)), (170, (Bo false)), (171, (Bo false)), (172, (V.ptr 7 0 1)), (173, (I o54.fType)), (174, (V.ptr 1 0 2)), (175, (sType a0.fTypes)), (176, (I (a0.fTypes.length : Int))), (177, (Bo false)), (178, (Bo false)), (179, (Bo false)), (180, (V.ptr 7 0 2)), (181, (I o54.fField)), (182, (Bo false)), (183, (Bo false)), (184, (Bo false)), (185, (V.ptr 7 0 2)), (186, (I o54.fField)), (187, (V.ptr 1 0 2)), (188, (sType a0.fTypes)), (189, (V.ptr 7 0 1)), (190, (I o54.fType)), (191, (Pr (eType v56))), (192, (Pr (sField v56.fFields))), (193, (sField v56.fFields)), (194, (I (v56.fFields.length : Int))), (195, (Bo false)), (196, (Bo false)), (197, (Bo false)), (198, (V.ptr 1 0 2)), (199, (sType a0.fTypes)), (200, (V.ptr 7 0 1)), (201, (I o54.fType)), (202, (Pr (eType v57))), (203, (Pr (sField v57.fFields))), (204, (sField v57.fFields)), (205, (V.ptr 7 0 2)), (206, (I o54.fField))]) rfl rfl rfl) <| et (regp_pure (x := (idx v57.fFields o54.fField)) (w := fun v58 => (Pr (eField v58))) rfl rfl rfl rfl rfl (p_index (e := eField) rfl rfl rfl underlying43 rfl (by decide))) <| bindE fun v58 => et (putp_adv (m := 5) (j := 51) (t' := [(1, (Pt 1)), (6, (I x52)), (7, (Pt 7)), (162, (Pt 7)), (163, (Sr o54.fName)), (164, (Bo v55)), (165, (Bo false)), (166, (Bo false)), (167, (V.ptr 7 0 1)), (168, (I o54.fType)), (169, (Bo false)), (170, (Bo false)), (171, (Bo false)), (172, (V.ptr 7 0 1)), (173, (I o54.fType)), (174, (V.ptr 1 0 2)), (175, (sType a0.fTypes)), (176, (I (a0.fTypes.length : Int))), (177, (Bo false)), (178, (Bo false)), (179, (Bo false)), (180, (V.ptr 7 0 2)), (181, (I o54.fField)), (182, (Bo false)), (183, (Bo false)), (184, (Bo false)), (185, (V.ptr 7 0 2)), (186, (I o54.fField)), (187, (V.ptr 1 0 2)), (188, (sType a0.fTypes)), (189, (V.ptr 7 0 1)), (190, (I o54.fType)), (191, (Pr (eType v56))), (192, (Pr (sField v56.fFields))), (193, (sField v56.fFields)), (194, (I (v56.fFields.length : Int))), (195, (Bo false)), (196, (Bo false)), (197, (Bo false)), (198, (V.ptr 1 0 2)), (199, (sType a0.fTypes)), (200, (V.ptr 7 0 1)), (201, (I o54.fType)), (202, (Pr (eType v57))), (203, (Pr (sField v57.fFields))), (204, (sField v57.fFields)), (205, (V.ptr 7 0 2)), (206, (I o54.fField)), (207, (Pr (eField v58))), (208, (Pr (I v58.fBytes))), (209, (I v58.fBytes)), (210, (Bo (decide (v58.fBytes > 20)))), (211, (Bo (decide (v58.fBytes > 20)))), (212, (Bo (decide (v58.fBytes > 20))))]) rfl rfl rfl) <| bifE (fun hc => ?_) fun hc => ?_
                  · rw [hc]
                    exact regp_end rfl
                  · rw [hc]
                    exact regp_end rfl
      refine kc rfl rfl (fun hc => ?_) fun hc => ?_
      · rw [hc]
        refine et k_assoc <| kr ⟨[(2, (Bo false))], [], 232⟩ rfl <| et k_ret <| et blk_ret <| et loop_ret <| et (hret _) ?_
        rfl
      · rw [hc]
        refine et k_skip <| kr ⟨[(1, (Pt 1)), (6, (I x52)), (7, (Pt 7)), (8, (I 0))], [(1, vS 4 (eBase a0)), (7, vS 4 (eSearch o54))], 232⟩ rfl <| et (k_lblock rfl) <| et k_loop ?_
        refine ref11_Valid_L4_ok k a0 x52 o54 _ _ ?h_ref11_Valid_L4_0 ?hr_ref11_Valid_L4 k 0
        · intro y65
          exact et blk_exit <| et k_lskip <| et blk_normal <| kl ⟨[(1, (Pt 1)), (6, (I (Go.IntKind.wrap .i64 (x52 + 1))))], [(1, vS 4 (eBase a0))], 232⟩ rfl <| et loop_normal <| ih (Go.IntKind.wrap .i64 (x52 + 1))
        · intro s; exact hret s
    · rw [hc]
      exact et k_exit <| et loop_exit <| hK0 x52
theorem ref11_Valid_ok (k : Nat) (a0 : T_api_Base) : EV k 64 [(eBase a0)] = (ref11_Valid k a0).map ref11_Valid_fin := by
  cases k with
  | zero => rfl
  | succ k =>
    unfold ref11_Valid
    refine et (evF_succ (c := f64c) (N := 232) (regs := f64n) rfl func64 rfl (by decide) rfl rfl rfl) <| kr ⟨[(1, (Pt 1))], [(1, vS 4 (eBase a0))], 232⟩ rfl <| et k_assoc <| kga f64a1 rfl (fun (o2 : Bool) => [(40, (Bo o2))]) ?_ fun o2 => ?_
    · refine rd 2 [(9, (Pt 1)), (10, (Sr a0.fName))] rfl rfl <| rp rfl (p_call rfl rfl rfl rfl rfl (ref11_IsName_ok k a0.fName) (.inl rfl)) fun v1 => bd 5 [(11, (Bo v1)), (12, (Bo (!v1))), (13, (Bo (!v1)))] rfl rfl <| bifE (fun hc => ?_) fun hc => ?_
      · rw [hc]
        exact reg_end rfl
      · rw [hc]
        refine rd 10 [(14, (V.ptr 1 0 1)), (15, (I a0.fKind)), (16, (Bo (decide (a0.fKind < 1)))), (17, (Bo (decide (a0.fKind < 1)))), (18, (Bo (decide (a0.fKind < 1))))] rfl rfl <| bifE (fun hc => ?_) fun hc => ?_
        · rw [hc]
          exact reg_end rfl
        · rw [hc]
          refine rd 15 [(19, (V.ptr 1 0 1)), (20, (I a0.fKind)), (21, (Bo (decide (a0.fKind > 4)))), (22, (Bo (decide (a0.fKind > 4)))), (23, (Bo (decide (a0.fKind > 4))))] rfl rfl <| bifE (fun hc => ?_) fun hc => ?_
          · rw [hc]
            exact reg_end rfl
          · rw [hc]
            refine rd 17 [(24, (V.ptr 1 0 2)), (25, (sType a0.fTypes))] rfl rfl <| rl rfl (p_len (e := eType) rfl rfl rfl rfl rfl rfl underlying22) <| bd 21 [(26, (I (a0.fTypes.length : Int))), (27, (Bo (decide ((a0.fTypes.length : Int) < 1)))), (28, (Bo (decide ((a0.fTypes.length : Int) < 1)))), (29, (Bo (decide ((a0.fTypes.length : Int) < 1))))] rfl rfl <| bifE (fun hc => ?_) fun hc => ?_
            · rw [hc]
              exact reg_end rfl
            · rw [hc]
              refine rd 23 [(30, (V.ptr 1 0 2)), (31, (sType a0.fTypes))] rfl rfl <| rl rfl (p_len (e := eType) rfl rfl rfl rfl rfl rfl underlying22) <| bd 27 [(32, (I (a0.fTypes.length : Int))), (33, (Bo (decide ((a0.fTypes.length : Int) > 8)))), (34, (Bo (decide ((a0.fTypes.length : Int) > 8)))), (35, (Bo (decide ((a0.fTypes.length : Int) > 8))))] rfl rfl <| bifE (fun hc => ?_) fun hc => ?_
              · rw [hc]
                exact reg_end rfl
              · rw [hc]
                exact rd 29 [(36, (V.ptr 1 0 3)), (37, (sSearch a0.fIndexes))] rfl rfl <| rl rfl (p_len (e := eSearch) rfl rfl rfl rfl rfl rfl underlying23) <| bind_end rfl
    refine kc rfl rfl (fun hc => ?_) fun hc => ?_
    · rw [hc]
      refine et k_assoc <| kr ⟨[(2, (Bo false))], [], 232⟩ rfl <| et k_ret ?_
      rfl
    · rw [hc]
      refine et k_skip <| et k_assoc <| kr ⟨[(1, (Pt 1)), (3, (I 0))], [(1, vS 4 (eBase a0))], 232⟩ rfl <| et (k_block rfl) <| et k_loop ?_
      refine ref11_Valid_L1_ok k a0 _ _ ?h_ref11_Valid_L1_0 ?hr_ref11_Valid_L1 k 0
      · intro y38
        refine et blk_exit <| et k_assoc <| kr ⟨[(1, (Pt 1)), (6, (I 0))], [(1, vS 4 (eBase a0))], 232⟩ rfl <| et (k_block rfl) <| et k_loop ?_
        refine ref11_Valid_L3_ok k a0 _ _ ?h_ref11_Valid_L3_0 ?hr_ref11_Valid_L3 k 0
        · intro y66
          refine et blk_exit <| kr ⟨[(2, (Bo true))], [], 232⟩ rfl <| et k_lret ?_
          rfl
        · intro s; exact rfl
      · intro s; exact rfl
def ref12_isType_fin : Int → V × List V := fun r => ((I r), [])
theorem ref12_isType_ok (k : Nat) (a0 : T_api_Base) (a1 : Int) : EV k 35 [(eBase a0), (I a1)] = (ref12_isType k a0 a1).map ref12_isType_fin := by
  cases k with
  | zero => rfl
  | succ k =>
    unfold ref12_isType
    refine et (evF_succ (c := f35c) (N := 19) (regs := f35n) rfl func35 rfl (by decide) rfl rfl rfl) <| kr ⟨[(1, (I a1)), (2, (Pt 2))], [(2, vS 4 (eBase a0))], 19⟩ rfl <| et (k_block rfl) <| kga f35a1 rfl (fun (o2 : Bool) => [(5, (Bo o2))]) (rd 1 [(6, (eBase a0))] rfl rfl <| rp rfl (p_call rfl rfl rfl rfl rfl (ref11_Valid_ok k a0) (.inl rfl)) fun v1 => bind_end rfl) fun o2 => kcl rfl rfl (fun hc => ?_) fun hc => ?_
    · rw [hc]
      refine kr ⟨[(4, (I 100))], [], 19⟩ rfl <| et k_lret <| et blk_ret ?_
      rfl
    · rw [hc]
      refine kg f35a3 rfl (fun (o3 : Bool) => ⟨[(9, (Bo o3))], [], 19⟩) ?_ fun o3 => ?_
      · refine rd 3 [(10, (I a1)), (11, (Bo (decide (a1 < 0)))), (12, (Bo (decide (a1 < 0))))] rfl rfl <| bifE (fun hc => ?_) fun hc => ?_
        · rw [hc]
          exact reg_end rfl
        · rw [hc]
          exact rd 6 [(13, (I a1)), (14, (V.ptr 2 0 2)), (15, (sType a0.fTypes))] rfl rfl <| rl rfl (p_len (e := eType) rfl rfl rfl rfl rfl rfl underlying22) <| bind_end rfl
      refine kcl rfl rfl (fun hc => ?_) fun hc => ?_
      · rw [hc]
        refine kr ⟨[(4, (I 2))], [], 19⟩ rfl <| et k_lret <| et blk_ret ?_
        rfl
      · rw [hc]
        refine et k_lskip <| et blk_normal <| kr ⟨[(4, (I 0))], [], 19⟩ rfl <| et k_lret ?_
        rfl
def ref11_isType_fin : Bool → V × List V := fun r => ((Bo r), [])
theorem ref11_isType_ok (k : Nat) (a0 : T_api_Base) (a1 : Int) : EV k 94 [(eBase a0), (I a1)] = (ref11_isType k a0 a1).map ref11_isType_fin := by
  cases k with
  | zero => rfl
  | succ k =>
    unfold ref11_isType
    refine et (evF_succ (c := f94c) (N := 14) (regs := f94n) rfl func94 rfl (by decide) rfl rfl rfl) <| kr ⟨[(1, (I a1)), (2, (Pt 2))], [(2, vS 4 (eBase a0))], 14⟩ rfl <| kg f94a1 rfl (fun (o1 : Bool) => ⟨[(4, (Bo o1))], [], 14⟩) ?_ fun o1 => ?_
    · refine rd 3 [(5, (I a1)), (6, (Bo (decide (a1 ≥ 0)))), (7, (Bo (decide (a1 ≥ 0))))] rfl rfl <| bifE (fun hc => ?_) fun hc => ?_
      · rw [hc]
        exact rd 6 [(8, (I a1)), (9, (V.ptr 2 0 2)), (10, (sType a0.fTypes))] rfl rfl <| rl rfl (p_len (e := eType) rfl rfl rfl rfl rfl rfl underlying22) <| bind_end rfl
      · rw [hc]
        exact reg_end rfl
    refine et k_lret ?_
    rfl
def ref11_asked_fin : Int → V × List V := fun r => ((I r), [])
theorem ref11_asked_L1_ok (k : Nat) (a0 : T_api_Base) (a1 : (List Int))  (K0 : Int → Option Int) (Kst : X × St → Option (V × List V)) (hK0 : ∀ (y0 : Int), Kst (X.exit 0, ⟨[(1, (sI a1)), (2, (Pt 2)), (5, (I y0)), (12, (Bo false))], [(2, vS 4 (eBase a0))], 22⟩) = (K0 y0).map ref11_asked_fin) (hret : ∀ s, Kst (X.ret, s) = endK prog 22 [(eBase a0), (sI a1)] [] [.tmp 4] (X.ret, s)) :
    ∀ (m : Nat) (x6 : Int), (iter (exec prog (EV k) f73n k f73b0) m ⟨[(1, (sI a1)), (2, (Pt 2)), (5, (I x6))], [(2, vS 4 (eBase a0))], 22⟩).bind Kst = (ref11_asked_L1 k a0 a1 K0 m x6).map ref11_asked_fin := by
  intro m
  induction m with
  | zero => intros; rfl
  | succ m ih =>
    intro x6
    unfold ref11_asked_L1
    refine et k_round <| et k_assoc <| krp f73a4 rfl ⟨[(1, (sI a1)), (2, (Pt 2)), (5, (I x6)), (12, (Bo (decide (x6 < (a1.length : Int)))))], [(2, vS 4 (eBase a0))], 22⟩ ?_ ?_
    · exact rd 2 [(9, (I x6)), (10, (sI a1))] rfl rfl <| rl rfl (p_len (e := I) rfl rfl rfl rfl rfl rfl underlying87) <| bind_end rfl
    refine kc rfl rfl (fun hc => ?_) fun hc => ?_
    · rw [hc]
      refine et k_skip <| et (k_block rfl) <| kd f73a6 rfl (fun (o9 : Bool) => ⟨[(1, (sI a1)), (2, (Pt 2)), (5, (I x6)), (21, (Bo o9))], [(2, vS 4 (eBase a0))], 22⟩) (et (regionE_regp (p := 7) (dk := true) (t := [(1, (sI a1)), (2, (Pt 2)), (5, (I x6)), (12, (Bo true))]) (σ := [(2, vS 4 (eBase a0))]) (n := 22) rfl (by decide) (by decide) rfl) <| et (regp_adv (m := 3) (j := 3) (t' := [(1, (sI a1)), (2, (Pt 2)), (5, (I x6)), (12, (Bo true)), (15, (eBase a0)), (16, (sI a1)), (17, (I x6))]) rfl rfl rfl) <| et (regp_pure (x := (idx a1 x6)) (w := fun v7 => (Pr (I v7))) rfl rfl rfl rfl rfl (p_index (e := I) rfl rfl rfl underlying87 rfl (by decide))) <| bindE fun v7 => et (putp_adv (m := 1) (j := 5) (t' := [(1, (sI a1)), (2, (Pt 2)), (5, (I x6)), (12, (Bo true)), (15, (eBase a0)), (16, (sI a1)), (17, (I x6)), (18, (Pr (I v7))), (19, (I v7))]) rfl rfl rfl) <| et (regp_pure (x := (ref11_isType k a0 v7)) (w := fun v8 => (Bo v8)) rfl rfl rfl rfl rfl (p_call rfl rfl rfl rfl rfl (ref11_isType_ok k a0 v7) (.inl rfl))) <| bindE fun v8 => regp_end rfl) fun o9 => kcl rfl rfl (fun hc => ?_) fun hc => ?_
      · rw [hc]
        refine kr ⟨[(4, (I 2))], [], 22⟩ rfl <| et k_lret <| et blk_ret <| et loop_ret <| et (hret _) ?_
        rfl
      · rw [hc]
        exact et k_lskip <| et blk_normal <| kl ⟨[(1, (sI a1)), (2, (Pt 2)), (5, (I (Go.IntKind.wrap .i64 (x6 + 1))))], [(2, vS 4 (eBase a0))], 22⟩ rfl <| et loop_normal <| ih (Go.IntKind.wrap .i64 (x6 + 1))
    · rw [hc]
      exact et k_exit <| et loop_exit <| hK0 x6
theorem ref11_asked_ok (k : Nat) (a0 : T_api_Base) (a1 : (List Int)) : EV k 73 [(eBase a0), (sI a1)] = (ref11_asked k a0 a1).map ref11_asked_fin := by
  cases k with
  | zero => rfl
  | succ k =>
    unfold ref11_asked
    refine et (evF_succ (c := f73c) (N := 22) (regs := f73n) rfl func73 rfl (by decide) rfl rfl rfl) <| kr ⟨[(1, (sI a1)), (2, (Pt 2))], [(2, vS 4 (eBase a0))], 22⟩ rfl <| et k_assoc <| kga f73a1 rfl (fun (o2 : Bool) => [(8, (Bo o2))]) (rd 1 [(6, (eBase a0))] rfl rfl <| rp rfl (p_call rfl rfl rfl rfl rfl (ref11_Valid_ok k a0) (.inl rfl)) fun v1 => bind_end rfl) fun o2 => kc rfl rfl (fun hc => ?_) fun hc => ?_
    · rw [hc]
      refine et k_assoc <| kr ⟨[(4, (I 100))], [], 22⟩ rfl <| et k_ret ?_
      rfl
    · rw [hc]
      refine et k_skip <| et k_assoc <| kr ⟨[(1, (sI a1)), (2, (Pt 2)), (5, (I 0))], [(2, vS 4 (eBase a0))], 22⟩ rfl <| et (k_block rfl) <| et k_loop ?_
      refine ref11_asked_L1_ok k a0 a1 _ _ ?h_ref11_asked_L1_0 ?hr_ref11_asked_L1 k 0
      · intro y10
        refine et blk_exit <| kr ⟨[(4, (I 0))], [], 22⟩ rfl <| et k_lret ?_
        rfl
      · intro s; exact rfl
def ref11_Field_fin : (Int × Int) → V × List V := fun r => (.tup [(I r.1), (I r.2)], [])
theorem ref11_Field_L1_ok (k : Nat) (a0 : T_api_Base) (a1 : Int) (a2 : Str)  (K0 : Int → Option (Int × Int)) (Kst : X × St → Option (V × List V)) (hK0 : ∀ (y0 : Int), Kst (X.exit 0, ⟨[(1, (I a1)), (2, (Sr a2)), (3, (Pt 3)), (9, (I y0)), (25, (Bo false))], [(3, vS 4 (eBase a0))], 41⟩) = (K0 y0).map ref11_Field_fin) (hret : ∀ s, Kst (X.ret, s) = endK prog 41 [(eBase a0), (I a1), (Sr a2)] [] [.tmp 6, .tmp 7] (X.ret, s)) :
    ∀ (m : Nat) (x8 : Int), (iter (exec prog (EV k) f53n k f53b0) m ⟨[(1, (I a1)), (2, (Sr a2)), (3, (Pt 3)), (9, (I x8))], [(3, vS 4 (eBase a0))], 41⟩).bind Kst = (ref11_Field_L1 a0 a1 a2 K0 m x8).map ref11_Field_fin := by
  intro m
  induction m with
  | zero => intros; rfl
  | succ m ih =>
    intro x8
    unfold ref11_Field_L1
    refine et k_round <| et k_assoc <| kga f53a5 rfl (fun (o10 : Bool) => [(25, (Bo o10))]) (rd 4 [(17, (I x8)), (18, (V.ptr 3 0 2)), (19, (sType a0.fTypes)), (20, (I a1))] rfl rfl <| rp rfl (p_index (e := eType) rfl rfl rfl underlying22 rfl (by decide)) fun v9 => bd 7 [(21, (Pr (eType v9))), (22, (Pr (sField v9.fFields))), (23, (sField v9.fFields))] rfl rfl <| rl rfl (p_len (e := eField) rfl rfl rfl rfl rfl rfl underlying43) <| bind_end rfl) fun o10 => kc rfl rfl (fun hc => ?_) fun hc => ?_
    · rw [hc]
      refine et k_skip <| et (k_block rfl) <| kg f53a7 rfl (fun (o13 : Bool) => ⟨[(1, (I a1)), (2, (Sr a2)), (3, (Pt 3)), (9, (I x8)), (39, (Bo o13))], [(3, vS 4 (eBase a0))], 41⟩) (rd 3 [(28, (V.ptr 3 0 2)), (29, (sType a0.fTypes)), (30, (I a1))] rfl rfl <| rp rfl (p_index (e := eType) rfl rfl rfl underlying22 rfl (by decide)) fun v11 => bd 7 [(31, (Pr (eType v11))), (32, (Pr (sField v11.fFields))), (33, (sField v11.fFields)), (34, (I x8))] rfl rfl <| rp rfl (p_index (e := eField) rfl rfl rfl underlying43 rfl (by decide)) fun v12 => bind_end rfl) fun o13 => kcl rfl rfl (fun hc => ?_) fun hc => ?_
      · rw [hc]
        refine kr ⟨[(6, (I x8)), (7, (I 0))], [], 41⟩ rfl <| et k_lret <| et blk_ret <| et loop_ret <| et (hret _) ?_
        rfl
      · rw [hc]
        exact et k_lskip <| et blk_normal <| kl ⟨[(1, (I a1)), (2, (Sr a2)), (3, (Pt 3)), (9, (I (Go.IntKind.wrap .i64 (x8 + 1))))], [(3, vS 4 (eBase a0))], 41⟩ rfl <| et loop_normal <| ih (Go.IntKind.wrap .i64 (x8 + 1))
    · rw [hc]
      exact et k_exit <| et loop_exit <| hK0 x8
theorem ref11_Field_ok (k : Nat) (a0 : T_api_Base) (a1 : Int) (a2 : Str) : EV k 53 [(eBase a0), (I a1), (Sr a2)] = (ref11_Field k a0 a1 a2).map ref11_Field_fin := by
  cases k with
  | zero => rfl
  | succ k =>
    unfold ref11_Field
    refine et (evF_succ (c := f53c) (N := 41) (regs := f53n) rfl func53 rfl (by decide) rfl rfl rfl) <| kr ⟨[(1, (I a1)), (2, (Sr a2)), (3, (Pt 3))], [(3, vS 4 (eBase a0))], 41⟩ rfl <| et k_assoc <| kga f53a1 rfl (fun (o2 : Int) => [(8, (I o2))]) (rd 3 [(10, (eBase a0)), (11, (I a1)), (12, (sI (([a1] : List Int))))] rfl rfl <| rs rfl (p_call rfl rfl rfl rfl rfl (ref11_asked_ok k a0 ([a1] : List Int)) (.inl rfl)) fun v1 => bind_end rfl) fun o2 => et k_assoc <| kra [(15, (Bo (o2 != 0)))] rfl <| kc rfl rfl (fun hc => ?_) fun hc => ?_
    · rw [hc]
      refine et k_assoc <| kr ⟨[(6, (I 0)), (7, (I o2))], [], 41⟩ rfl <| et k_ret ?_
      rfl
    · rw [hc]
      refine et k_skip <| et k_assoc <| kr ⟨[(1, (I a1)), (2, (Sr a2)), (3, (Pt 3)), (9, (I 0))], [(3, vS 4 (eBase a0))], 41⟩ rfl <| et (k_block rfl) <| et k_loop ?_
      refine ref11_Field_L1_ok k a0 a1 a2 _ _ ?h_ref11_Field_L1_0 ?hr_ref11_Field_L1 k 0
      · intro y14
        refine et blk_exit <| kr ⟨[(6, (I 0)), (7, (I 5))], [], 41⟩ rfl <| et k_lret ?_
        rfl
      · intro s; exact rfl
def ref12_isTerm_fin : Bool → V × List V := fun r => ((Bo r), [])
theorem ref12_isTerm_ok (k : Nat) (a0 : T_api_Base) (a1 : Int) (a2 : T_api_Term) : EV k 65 [(eBase a0), (I a1), (eTerm a2)] = (ref12_isTerm k a0 a1 a2).map ref12_isTerm_fin := by
  cases k with
  | zero => rfl
  | succ k =>
    unfold ref12_isTerm
    refine et (evF_succ (c := f65c) (N := 45) (regs := f65n) rfl func65 rfl (by decide) rfl rfl rfl) <| kr ⟨[(1, (I a1)), (3, (Pt 3)), (5, (Pt 5))], [(3, vS 4 (eBase a0)), (5, vS 3 (eTerm a2))], 45⟩ rfl <| kga f65a1 rfl (fun (o2 : Int × Int) => [(7, (I o2.1)), (8, (I o2.2))]) (rd 4 [(10, (eBase a0)), (11, (I a1)), (12, (Pt 5)), (13, (Sr a2.fField))] rfl rfl <| rp rfl (p_call rfl rfl rfl rfl rfl (ref11_Field_ok k a0 a1 a2.fField) (.inl rfl)) fun v1 => bind_end rfl) fun o2 => kd f65a2 rfl (fun (o5 : Bool) => ⟨[(6, (Bo o5))], [], 45⟩) ?_ fun o5 => ?_
    · refine et (regionE_regp (p := 29) (dk := true) (t := [(1, (I a1)), (3, (Pt 3)), (5, (Pt 5)), (7, (I o2.1)), (8, (I o2.2))]) (σ := [(3, vS 4 (eBase a0)), (5, vS 3 (eTerm a2))]) (n := 45) rfl (by decide) (by decide) rfl) <| et (regp_adv (m := 3) (j := 3) (t' := [(1, (I a1)), (3, (Pt 3)), (5, (Pt 5)), (7, (I o2.1)), (8, (I o2.2)), (17, (I o2.2)), (18, (Bo (o2.2 == 0))), (19, (Bo (o2.2 == 0)))]) rfl rfl rfl) <| bifE (fun hc => ?_) fun hc => ?_
      · rw [hc]
        refine et (regp_adv (m := 5) (j := 8) (t' := [(1, (I a1)), (3, (Pt 3)), (5, (Pt 5)), (7, (I o2.1)), (8, (I o2.2)), (17, (I o2.2)), (18, (Bo true)), (19, (Bo true)), (20, (V.ptr 5 0 1)), (21, (I a2.fOp)), (22, (Bo (decide (a2.fOp ≥ 1)))), (23, (Bo (decide (a2.fOp ≥ 1)))), (24, (Bo (decide (a2.fOp ≥ 1))))]) rfl rfl rfl) <| bifE (fun hc => ?_) fun hc => ?_
        · rw [hc]
          refine et (regp_adv (m := 5) (j := 13) (t' := [(1, (I a1)), (3, (Pt 3)), (5, (Pt 5)), (7, (I o2.1)), (8, (I o2.2)), (17, (I o2.2)), (18, (Bo true)), (19, (Bo true)), (20, (V.ptr 5 0 1)), (21, (I a2.fOp)), (22, (Bo true)), (23, (Bo true)), (24, (Bo true)), (25, (V.ptr 5 0 1)), (26, (I a2.fOp)), (27, (Bo (decide (a2.fOp ≤ 6)))), (28, (Bo (decide (a2.fOp ≤ 6)))), (29, (Bo (decide (a2.fOp ≤ 6))))]) rfl rfl rfl) <| bifE (fun hc => ?_) fun hc => ?_
          · rw [hc]
            exact et (regp_adv (m := 6) (j := 19) (t' := [(1, (I a1)), (3, (Pt 3)), (5, (Pt 5)), (7, (I o2.1)), (8, (I o2.2)), (17, (I o2.2)), (18, (Bo true)), (19, (Bo true)), (20, (V.ptr 5 0 1)), (21, (I a2.fOp)), (22, (Bo true)), (23, (Bo true)), (24, (Bo true)), (25, (V.ptr 5 0 1)), (26, (I a2.fOp)), (27, (Bo true)), (28, (Bo true)), (29, (Bo true)), (30, (V.ptr 5 0 2)), (31, (Sr a2.fValue)), (32, (I (a2.fValue.length : Int))), (33, (V.ptr 3 0 2)), (34, (sType a0.fTypes)), (35, (I a1))]) rfl rfl rfl) <| et (regp_pure (x := (idx a0.fTypes a1)) (w := fun v3 => (Pr (eType v3))) rfl rfl rfl rfl rfl (p_index (e := eType) rfl rfl rfl underlying22 rfl (by decide))) <| bindE fun v3 => et (putp_adv (m := 3) (j := 23) (t' := [(1, (I a1)), (3, (Pt 3)), (5, (Pt 5)), (7, (I o2.1)), (8, (I o2.2)), (17, (I o2.2)), (18, (Bo true)), (19, (Bo true)), (20, (V.ptr 5 0 1)), (21, (I a2.fOp)), (22, (Bo true)), (23, (Bo true)), (24, (Bo true)), (25, (V.ptr 5 0 1)), (26, (I a2.fOp)), (27, (Bo true)), (28, (Bo true)), (29, (Bo true)), (30, (V.ptr 5 0 2)), (31, (Sr a2.fValue)), (32, (I (a2.fValue.length : Int))), (33, (V.ptr 3 0 2)), (34, (sType a0.fTypes)), (35, (I a1)), (36, (Pr (eType v3))), (37, (Pr (sField v3.fFields))), (38, (sField v3.fFields)), (39, (I o2.1))]) rfl rfl rfl) <| et (regp_pure (x := (idx v3.fFields o2.1)) (w := fun v4 => (Pr (eField v4))) rfl rfl rfl rfl rfl (p_index (e := eField) rfl rfl rfl underlying43 rfl (by decide))) <| bindE fun v4 => regp_end rfl
          · rw [hc]
            exact regp_end rfl
        · rw [hc]
          exact regp_end rfl
      · rw [hc]
        exact regp_end rfl
    refine et k_lret ?_
    rfl
def ref12_isCondition_fin : Bool → V × List V := fun r => ((Bo r), [])
theorem ref12_isCondition_L2_ok (k : Nat) (a0 : T_api_Base) (a1 : Int) (a2 : (List (List T_api_Term))) (x18 : Int)  (K0 : Int → Option Bool) (Kst : X × St → Option (V × List V)) (hK0 : ∀ (y0 : Int), Kst (X.exit 2, ⟨[(1, (I a1)), (2, (V.sl 0 1 (List.map sTerm a2))), (3, (Pt 3)), (7, (I x18)), (8, (I y0)), (35, (Bo false))], [(3, vS 4 (eBase a0))], 52⟩) = (K0 y0).map ref12_isCondition_fin) (hret : ∀ s, Kst (X.ret, s) = endK prog 52 [(eBase a0), (I a1), (V.sl 0 1 (List.map sTerm a2))] [] [.tmp 6] (X.ret, s)) :
    ∀ (m : Nat) (x28 : Int), (iter (exec prog (EV k) f36n k f36b0) m ⟨[(1, (I a1)), (2, (V.sl 0 1 (List.map sTerm a2))), (3, (Pt 3)), (7, (I x18)), (8, (I x28))], [(3, vS 4 (eBase a0))], 52⟩).bind Kst = (ref12_isCondition_L2 k a0 a1 a2 x18 K0 m x28).map ref12_isCondition_fin := by
  intro m
  induction m with
  | zero => intros; rfl
  | succ m ih =>
    intro x28
    unfold ref12_isCondition_L2
    refine et k_round <| et k_assoc <| kga f36a7 rfl (fun (o30 : Bool) => [(35, (Bo o30))]) (rd 3 [(29, (I x28)), (30, (V.sl 0 1 (List.map sTerm a2))), (31, (I x18))] rfl rfl <| rp rfl (p_index (e := sTerm) rfl rfl rfl underlying26 rfl (by decide)) fun v29 => bd 5 [(32, (Pr (sTerm v29))), (33, (sTerm v29))] rfl rfl <| rl rfl (p_len (e := eTerm) rfl rfl rfl rfl rfl rfl underlying50) <| bind_end rfl) fun o30 => kc rfl rfl (fun hc => ?_) fun hc => ?_
    · rw [hc]
      refine et k_skip <| et (k_block rfl) <| kd f36a9 rfl (fun (o34 : Bool) => ⟨[(1, (I a1)), (2, (V.sl 0 1 (List.map sTerm a2))), (3, (Pt 3)), (7, (I x18)), (8, (I x28)), (48, (Bo o34))], [(3, vS 4 (eBase a0))], 52⟩) (et (regionE_regp (p := 11) (dk := true) (t := [(1, (I a1)), (2, (V.sl 0 1 (List.map sTerm a2))), (3, (Pt 3)), (7, (I x18)), (8, (I x28)), (35, (Bo true))]) (σ := [(3, vS 4 (eBase a0))]) (n := 52) rfl (by decide) (by decide) rfl) <| et (regp_adv (m := 4) (j := 4) (t' := [(1, (I a1)), (2, (V.sl 0 1 (List.map sTerm a2))), (3, (Pt 3)), (7, (I x18)), (8, (I x28)), (35, (Bo true)), (38, (eBase a0)), (39, (I a1)), (40, (V.sl 0 1 (List.map sTerm a2))), (41, (I x18))]) rfl rfl rfl) <| et (regp_pure (x := (idx a2 x18)) (w := fun v31 => (Pr (sTerm v31))) rfl rfl rfl rfl rfl (p_index (e := sTerm) rfl rfl rfl underlying26 rfl (by decide))) <| bindE fun v31 => et (putp_adv (m := 2) (j := 7) (t' := [(1, (I a1)), (2, (V.sl 0 1 (List.map sTerm a2))), (3, (Pt 3)), (7, (I x18)), (8, (I x28)), (35, (Bo true)), (38, (eBase a0)), (39, (I a1)), (40, (V.sl 0 1 (List.map sTerm a2))), (41, (I x18)), (42, (Pr (sTerm v31))), (43, (sTerm v31)), (44, (I x28))]) rfl rfl rfl) <| et (regp_pure (x := (idx v31 x28)) (w := fun v32 => (Pr (eTerm v32))) rfl rfl rfl rfl rfl (p_index (e := eTerm) rfl rfl rfl underlying50 rfl (by decide))) <| bindE fun v32 => et (putp_adv (m := 1) (j := 9) (t' := [(1, (I a1)), (2, (V.sl 0 1 (List.map sTerm a2))), (3, (Pt 3)), (7, (I x18)), (8, (I x28)), (35, (Bo true)), (38, (eBase a0)), (39, (I a1)), (40, (V.sl 0 1 (List.map sTerm a2))), (41, (I x18)), (42, (Pr (sTerm v31))), (43, (sTerm v31)), (44, (I x28)), (45, (Pr (eTerm v32))), (46, (eTerm v32))]) rfl rfl rfl) <| et (regp_pure (x := (ref12_isTerm k a0 a1 v32)) (w := fun v33 => (Bo v33)) rfl rfl rfl rfl rfl (p_call rfl rfl rfl rfl rfl (ref12_isTerm_ok k a0 a1 v32) (.inl rfl))) <| bindE fun v33 => regp_end rfl) fun o34 => kcl rfl rfl (fun hc => ?_) fun hc => ?_
      · rw [hc]
        refine kr ⟨[(6, (Bo false))], [], 52⟩ rfl <| et k_lret <| et blk_ret <| et loop_ret <| et (hret _) ?_
        rfl
      · rw [hc]
        exact et k_lskip <| et blk_normal <| kl ⟨[(1, (I a1)), (2, (V.sl 0 1 (List.map sTerm a2))), (3, (Pt 3)), (7, (I x18)), (8, (I (Go.IntKind.wrap .i64 (x28 + 1))))], [(3, vS 4 (eBase a0))], 52⟩ rfl <| et loop_normal <| ih (Go.IntKind.wrap .i64 (x28 + 1))
    · rw [hc]
      exact et k_exit <| et loop_exit <| hK0 x28
theorem ref12_isCondition_L1_ok (k : Nat) (a0 : T_api_Base) (a1 : Int) (a2 : (List (List T_api_Term)))  (K0 : Int → Option Bool) (Kst : X × St → Option (V × List V)) (hK0 : ∀ (y0 : Int), Kst (X.exit 0, ⟨[(1, (I a1)), (2, (V.sl 0 1 (List.map sTerm a2))), (3, (Pt 3)), (7, (I y0)), (12, (Bo false))], [(3, vS 4 (eBase a0))], 52⟩) = (K0 y0).map ref12_isCondition_fin) (hret : ∀ s, Kst (X.ret, s) = endK prog 52 [(eBase a0), (I a1), (V.sl 0 1 (List.map sTerm a2))] [] [.tmp 6] (X.ret, s)) :
    ∀ (m : Nat) (x18 : Int), (iter (exec prog (EV k) f36n k f36b1) m ⟨[(1, (I a1)), (2, (V.sl 0 1 (List.map sTerm a2))), (3, (Pt 3)), (7, (I x18))], [(3, vS 4 (eBase a0))], 52⟩).bind Kst = (ref12_isCondition_L1 k a0 a1 a2 K0 m x18).map ref12_isCondition_fin := by
  intro m
  induction m with
  | zero => intros; rfl
  | succ m ih =>
    intro x18
    unfold ref12_isCondition_L1
    refine et k_round <| et k_assoc <| krp f36a2 rfl ⟨[(1, (I a1)), (2, (V.sl 0 1 (List.map sTerm a2))), (3, (Pt 3)), (7, (I x18)), (12, (Bo (decide (x18 < (a2.length : Int)))))], [(3, vS 4 (eBase a0))], 52⟩ ?_ ?_
    · exact rd 2 [(9, (I x18)), (10, (V.sl 0 1 (List.map sTerm a2)))] rfl rfl <| rl rfl (p_len (e := sTerm) rfl rfl rfl rfl rfl rfl underlying26) <| bind_end rfl
    refine kc rfl rfl (fun hc => ?_) fun hc => ?_
    · rw [hc]
      refine et k_skip <| et (k_block rfl) <| et k_assoc <| kg f36a4 rfl (fun (o21 : Bool) => ⟨[(1, (I a1)), (2, (V.sl 0 1 (List.map sTerm a2))), (3, (Pt 3)), (7, (I x18)), (28, (Bo o21))], [(3, vS 4 (eBase a0))], 52⟩) ?_ fun o21 => ?_
      · refine rd 2 [(15, (V.sl 0 1 (List.map sTerm a2))), (16, (I x18))] rfl rfl <| rp rfl (p_index (e := sTerm) rfl rfl rfl underlying26 rfl (by decide)) fun v19 => bd 4 [(17, (Pr (sTerm v19))), (18, (sTerm v19))] rfl rfl <| rl rfl (p_len (e := eTerm) rfl rfl rfl rfl rfl rfl underlying50) <| bd 7 [(19, (I (v19.length : Int))), (20, (Bo (decide ((v19.length : Int) < 1)))), (21, (Bo (decide ((v19.length : Int) < 1))))] rfl rfl <| bifE (fun hc => ?_) fun hc => ?_
        · rw [hc]
          exact reg_end rfl
        · rw [hc]
          exact rd 9 [(22, (V.sl 0 1 (List.map sTerm a2))), (23, (I x18))] rfl rfl <| rp rfl (p_index (e := sTerm) rfl rfl rfl underlying26 rfl (by decide)) fun v20 => bd 11 [(24, (Pr (sTerm v20))), (25, (sTerm v20))] rfl rfl <| rl rfl (p_len (e := eTerm) rfl rfl rfl rfl rfl rfl underlying50) <| bind_end rfl
      refine kc rfl rfl (fun hc => ?_) fun hc => ?_
      · rw [hc]
        refine et k_assoc <| kr ⟨[(6, (Bo false))], [], 52⟩ rfl <| et k_ret <| et blk_ret <| et loop_ret <| et (hret _) ?_
        rfl
      · rw [hc]
        refine et k_skip <| kr ⟨[(1, (I a1)), (2, (V.sl 0 1 (List.map sTerm a2))), (3, (Pt 3)), (7, (I x18)), (8, (I 0))], [(3, vS 4 (eBase a0))], 52⟩ rfl <| et (k_lblock rfl) <| et k_loop ?_
        refine ref12_isCondition_L2_ok k a0 a1 a2 x18 _ _ ?h_ref12_isCondition_L2_0 ?hr_ref12_isCondition_L2 k 0
        · intro y35
          exact et blk_exit <| et k_lskip <| et blk_normal <| kl ⟨[(1, (I a1)), (2, (V.sl 0 1 (List.map sTerm a2))), (3, (Pt 3)), (7, (I (Go.IntKind.wrap .i64 (x18 + 1))))], [(3, vS 4 (eBase a0))], 52⟩ rfl <| et loop_normal <| ih (Go.IntKind.wrap .i64 (x18 + 1))
        · intro s; exact hret s
    · rw [hc]
      exact et k_exit <| et loop_exit <| hK0 x18
theorem ref12_isCondition_ok (k : Nat) (a0 : T_api_Base) (a1 : Int) (a2 : (List (List T_api_Term))) : EV k 36 [(eBase a0), (I a1), (V.sl 0 1 (List.map sTerm a2))] = (ref12_isCondition k a0 a1 a2).map ref12_isCondition_fin := by
  cases k with
  | zero => rfl
  | succ k =>
    unfold ref12_isCondition
    refine et (evF_succ (c := f36c) (N := 52) (regs := f36n) rfl func36 rfl (by decide) rfl rfl rfl) <| kr ⟨[(1, (I a1)), (2, (V.sl 0 1 (List.map sTerm a2))), (3, (Pt 3))], [(3, vS 4 (eBase a0))], 52⟩ rfl <| et k_assoc <| kra [(7, (I 0))] rfl <| et (k_block rfl) <| et k_loop ?_
    refine ref12_isCondition_L1_ok k a0 a1 a2 _ _ ?h_ref12_isCondition_L1_0 ?hr_ref12_isCondition_L1 k 0
    · intro y36
      refine et blk_exit <| krp f36a11 rfl ⟨[(6, (Bo (decide ((a2.length : Int) ≤ 4))))], [], 52⟩ ?_ ?_
      · exact rd 1 [(49, (V.sl 0 1 (List.map sTerm a2)))] rfl rfl <| rl rfl (p_len (e := sTerm) rfl rfl rfl rfl rfl rfl underlying26) <| bind_end rfl
      refine et k_lret ?_
      rfl
    · intro s; exact rfl
def ref12_asked_fin : Int → V × List V := fun r => ((I r), [])
theorem ref12_asked_ok (k : Nat) (a0 : T_api_Base) (a1 : Int) (a2 : (List (List T_api_Term))) (a3 : (List (List T_api_Term))) : EV k 31 [(eBase a0), (I a1), (V.sl 0 1 (List.map sTerm a2)), (V.sl 0 1 (List.map sTerm a3))] = (ref12_asked k a0 a1 a2 a3).map ref12_asked_fin := by
  cases k with
  | zero => rfl
  | succ k =>
    unfold ref12_asked
    refine et (evF_succ (c := f31c) (N := 30) (regs := f31n) rfl func31 rfl (by decide) rfl rfl rfl) <| kr ⟨[(1, (I a1)), (2, (V.sl 0 1 (List.map sTerm a2))), (3, (V.sl 0 1 (List.map sTerm a3))), (4, (Pt 4))], [(4, vS 4 (eBase a0))], 30⟩ rfl <| kga f31a1 rfl (fun (o2 : Int) => [(9, (I o2))]) (rd 2 [(10, (eBase a0)), (11, (I a1))] rfl rfl <| rs rfl (p_call rfl rfl rfl rfl rfl (ref12_isType_ok k a0 a1) (.inl rfl)) fun v1 => bind_end rfl) fun o2 => et k_assoc <| kg f31a2 rfl (fun (o5 : Bool) => ⟨[(9, (I o2)), (28, (Bo o5))], [], 30⟩) ?_ fun o5 => ?_
    · refine rd 3 [(13, (I o2)), (14, (Bo (o2 == 0))), (15, (Bo (o2 == 0)))] rfl rfl <| bifE (fun hc => ?_) fun hc => ?_
      · rw [hc]
        refine rd 6 [(16, (eBase a0)), (17, (I a1)), (18, (V.sl 0 1 (List.map sTerm a2)))] rfl rfl <| rp rfl (p_call rfl rfl rfl rfl rfl (ref12_isCondition_ok k a0 a1 a2) (.inl rfl)) fun v3 => bd 9 [(19, (Bo v3)), (20, (Bo (!v3))), (21, (Bo (!v3)))] rfl rfl <| bifE (fun hc => ?_) fun hc => ?_
        · rw [hc]
          exact reg_end rfl
        · rw [hc]
          exact rd 12 [(22, (eBase a0)), (23, (I a1)), (24, (V.sl 0 1 (List.map sTerm a3)))] rfl rfl <| rp rfl (p_call rfl rfl rfl rfl rfl (ref12_isCondition_ok k a0 a1 a3) (.inl rfl)) fun v4 => bind_end rfl
      · rw [hc]
        exact reg_end rfl
    refine kc rfl rfl (fun hc => ?_) fun hc => ?_
    · rw [hc]
      refine kr ⟨[(9, (I 110))], [], 30⟩ rfl <| kr ⟨[(8, (I 110))], [], 30⟩ rfl <| et k_lret ?_
      rfl
    · rw [hc]
      refine et k_skip <| kr ⟨[(8, (I o2))], [], 30⟩ rfl <| et k_lret ?_
      rfl
def ref12_And_fin : ((List (List T_api_Term)) × Int) → V × List V := fun r => (.tup [(V.sl 0 1 (List.map sTerm r.1)), (I r.2)], [])
theorem ref12_And_L2_ok (k : Nat) (a0 : T_api_Base) (a1 : Int) (a2 : (List (List T_api_Term))) (a3 : (List (List T_api_Term))) (x23 : Int)  (K0 : Int → (List (List T_api_Term)) → Option ((List (List T_api_Term)) × Int)) (Kst : X × St → Option (V × List V)) (hK0 : ∀ (y0 : Int) (y1 : (List (List T_api_Term))), Kst (X.exit 2, ⟨[(1, (I a1)), (2, (V.sl 0 1 (List.map sTerm a2))), (3, (V.sl 0 1 (List.map sTerm a3))), (4, (Pt 4)), (11, (aL 11 sTerm y1)), (12, (I x23)), (13, (I y0)), (44, (Bo false))], [(4, vS 4 (eBase a0)), (11, ⟨true, 1, List.map sTerm y1⟩)], 67⟩) = (K0 y0 y1).map ref12_And_fin) (hret : ∀ s, Kst (X.ret, s) = endK prog 67 [(eBase a0), (I a1), (V.sl 0 1 (List.map sTerm a2)), (V.sl 0 1 (List.map sTerm a3))] [] [.tmp 8, .tmp 9] (X.ret, s)) :
    ∀ (m : Nat) (x31 : Int) (x32 : (List (List T_api_Term))), (iter (exec prog (EV k) f21n k f21b0) m ⟨[(1, (I a1)), (2, (V.sl 0 1 (List.map sTerm a2))), (3, (V.sl 0 1 (List.map sTerm a3))), (4, (Pt 4)), (11, (aL 11 sTerm x32)), (12, (I x23)), (13, (I x31))], [(4, vS 4 (eBase a0)), (11, ⟨true, 1, List.map sTerm x32⟩)], 67⟩).bind Kst = (ref12_And_L2 a2 a3 x23 K0 m x31 x32).map ref12_And_fin := by
  intro m
  induction m with
  | zero => intros; rfl
  | succ m ih =>
    intro x31 x32
    unfold ref12_And_L2
    refine et k_round <| et k_assoc <| krp f21a11 rfl ⟨[(1, (I a1)), (2, (V.sl 0 1 (List.map sTerm a2))), (3, (V.sl 0 1 (List.map sTerm a3))), (4, (Pt 4)), (11, (aL 11 sTerm x32)), (12, (I x23)), (13, (I x31)), (44, (Bo (decide (x31 < (a3.length : Int)))))], [(4, vS 4 (eBase a0)), (11, ⟨true, 1, List.map sTerm x32⟩)], 67⟩ ?_ ?_
    · exact rd 2 [(41, (I x31)), (42, (V.sl 0 1 (List.map sTerm a3)))] rfl rfl <| rl rfl (p_len (e := sTerm) rfl rfl rfl rfl rfl rfl underlying26) <| bind_end rfl
    refine kc rfl rfl (fun hc => ?_) fun hc => ?_
    · rw [hc]
      exact et k_skip <| et (k_block rfl) <| kdl f21a13 rfl (fun (o38 : (List (List T_api_Term))) => ⟨[(1, (I a1)), (2, (V.sl 0 1 (List.map sTerm a2))), (3, (V.sl 0 1 (List.map sTerm a3))), (4, (Pt 4)), (11, (aL 11 sTerm o38)), (12, (I x23)), (13, (I x31))], [(4, vS 4 (eBase a0)), (11, ⟨true, 1, List.map sTerm o38⟩)], 67⟩) (et (regionE_regA (by decide)) <| rd 4 [(47, (aL 11 sTerm x32)), (48, (V.sl 1 3 (List.map eTerm ([] : List T_api_Term)))), (49, (V.sl 0 1 (List.map sTerm a2))), (50, (I x23))] rfl rfl <| rp rfl (p_index (e := sTerm) rfl rfl rfl underlying26 rfl (by decide)) fun v33 => bd 6 [(51, (Pr (sTerm v33))), (52, (sTerm v33))] rfl rfl <| et (reg_eff (x := (app ([] : List T_api_Term) v33)) (w := fun v34 => ((V.sl 1 3 (List.map eTerm v34)), _)) rfl rfl rfl rfl (p_app (e := eTerm) rfl rfl rfl rfl rfl rfl rfl rfl rfl rfl (by decide))) <| bindE fun v34 => ba 2 9 ⟨[(1, (I a1)), (2, (V.sl 0 1 (List.map sTerm a2))), (3, (V.sl 0 1 (List.map sTerm a3))), (4, (Pt 4)), (11, (aL 11 sTerm x32)), (12, (I x23)), (13, (I x31)), (44, (Bo true)), (47, (aL 11 sTerm x32)), (48, (sTerm (([] : List T_api_Term)))), (49, (V.sl 0 1 (List.map sTerm a2))), (50, (I x23)), (51, (Pr (sTerm v33))), (52, (sTerm v33)), (53, (V.sl 1 3 (List.map eTerm v34))), (54, (V.sl 0 1 (List.map sTerm a3))), (55, (I x31))], [(4, vS 4 (eBase a0)), (11, ⟨true, 1, List.map sTerm x32⟩)], 67⟩ rfl rfl rfl <| rp rfl (p_index (e := sTerm) rfl rfl rfl underlying26 rfl (by decide)) fun v35 => bd 11 [(56, (Pr (sTerm v35))), (57, (sTerm v35))] rfl rfl <| et (reg_eff (x := (app v34 v35)) (w := fun v36 => ((V.sl 1 3 (List.map eTerm v36)), _)) rfl rfl rfl rfl (p_app (e := eTerm) rfl rfl rfl rfl rfl rfl rfl rfl rfl rfl (by decide))) <| bindE fun v36 => ba 1 13 ⟨[(1, (I a1)), (2, (V.sl 0 1 (List.map sTerm a2))), (3, (V.sl 0 1 (List.map sTerm a3))), (4, (Pt 4)), (11, (aL 11 sTerm x32)), (12, (I x23)), (13, (I x31)), (44, (Bo true)), (47, (aL 11 sTerm x32)), (48, (sTerm (([] : List T_api_Term)))), (49, (V.sl 0 1 (List.map sTerm a2))), (50, (I x23)), (51, (Pr (sTerm v33))), (52, (sTerm v33)), (53, (sTerm v34)), (54, (V.sl 0 1 (List.map sTerm a3))), (55, (I x31)), (56, (Pr (sTerm v35))), (57, (sTerm v35)), (58, (sTerm v36)), (59, (V.sl 0 1 (List.map sTerm ([v36] : List (List T_api_Term)))))], [(4, vS 4 (eBase a0)), (11, ⟨true, 1, List.map sTerm x32⟩)], 67⟩ rfl rfl rfl <| et (reg_eff (x := (app x32 ([v36] : List (List T_api_Term)))) (w := fun v37 => ((aL 11 sTerm v37), _)) rfl rfl rfl rfl (p_appF (e := sTerm) (l := x32) rfl rfl rfl rfl rfl rfl rfl rfl rfl rfl rfl (of_decide_eq_true rfl))) <| bind_self fun v37 => bind_end rfl) fun o38 => et blk_normal <| kl ⟨[(1, (I a1)), (2, (V.sl 0 1 (List.map sTerm a2))), (3, (V.sl 0 1 (List.map sTerm a3))), (4, (Pt 4)), (11, (aL 11 sTerm o38)), (12, (I x23)), (13, (I (Go.IntKind.wrap .i64 (x31 + 1))))], [(4, vS 4 (eBase a0)), (11, ⟨true, 1, List.map sTerm o38⟩)], 67⟩ rfl <| et loop_normal <| ih (Go.IntKind.wrap .i64 (x31 + 1)) o38
    · rw [hc]
      exact et k_exit <| et loop_exit <| hK0 x31 x32
theorem ref12_And_L1_ok (k : Nat) (a0 : T_api_Base) (a1 : Int) (a2 : (List (List T_api_Term))) (a3 : (List (List T_api_Term)))  (K0 : Int → (List (List T_api_Term)) → Option ((List (List T_api_Term)) × Int)) (Kst : X × St → Option (V × List V)) (hK0 : ∀ (y0 : Int) (y1 : (List (List T_api_Term))), Kst (X.exit 0, ⟨[(1, (I a1)), (2, (V.sl 0 1 (List.map sTerm a2))), (3, (V.sl 0 1 (List.map sTerm a3))), (4, (Pt 4)), (11, (aL 11 sTerm y1)), (12, (I y0)), (38, (Bo false))], [(4, vS 4 (eBase a0)), (11, ⟨true, 1, List.map sTerm y1⟩)], 67⟩) = (K0 y0 y1).map ref12_And_fin) (hret : ∀ s, Kst (X.ret, s) = endK prog 67 [(eBase a0), (I a1), (V.sl 0 1 (List.map sTerm a2)), (V.sl 0 1 (List.map sTerm a3))] [] [.tmp 8, .tmp 9] (X.ret, s)) :
    ∀ (m : Nat) (x23 : Int) (x24 : (List (List T_api_Term))), (iter (exec prog (EV k) f21n k f21b1) m ⟨[(1, (I a1)), (2, (V.sl 0 1 (List.map sTerm a2))), (3, (V.sl 0 1 (List.map sTerm a3))), (4, (Pt 4)), (11, (aL 11 sTerm x24)), (12, (I x23))], [(4, vS 4 (eBase a0)), (11, ⟨true, 1, List.map sTerm x24⟩)], 67⟩).bind Kst = (ref12_And_L1 k a2 a3 K0 m x23 x24).map ref12_And_fin := by
  intro m
  induction m with
  | zero => intros; rfl
  | succ m ih =>
    intro x23 x24
    unfold ref12_And_L1
    refine et k_round <| et k_assoc <| krp f21a8 rfl ⟨[(1, (I a1)), (2, (V.sl 0 1 (List.map sTerm a2))), (3, (V.sl 0 1 (List.map sTerm a3))), (4, (Pt 4)), (11, (aL 11 sTerm x24)), (12, (I x23)), (38, (Bo (decide (x23 < (a2.length : Int)))))], [(4, vS 4 (eBase a0)), (11, ⟨true, 1, List.map sTerm x24⟩)], 67⟩ ?_ ?_
    · exact rd 2 [(35, (I x23)), (36, (V.sl 0 1 (List.map sTerm a2)))] rfl rfl <| rl rfl (p_len (e := sTerm) rfl rfl rfl rfl rfl rfl underlying26) <| bind_end rfl
    refine kc rfl rfl (fun hc => ?_) fun hc => ?_
    · rw [hc]
      refine et k_skip <| et (k_block rfl) <| kr ⟨[(1, (I a1)), (2, (V.sl 0 1 (List.map sTerm a2))), (3, (V.sl 0 1 (List.map sTerm a3))), (4, (Pt 4)), (11, (aL 11 sTerm x24)), (12, (I x23)), (13, (I 0))], [(4, vS 4 (eBase a0)), (11, ⟨true, 1, List.map sTerm x24⟩)], 67⟩ rfl <| et (k_lblock rfl) <| et k_loop ?_
      refine ref12_And_L2_ok k a0 a1 a2 a3 x23 _ _ ?h_ref12_And_L2_0 ?hr_ref12_And_L2 k 0 x24
      · intro y39 y40
        exact et blk_exit <| et k_lskip <| et blk_normal <| kl ⟨[(1, (I a1)), (2, (V.sl 0 1 (List.map sTerm a2))), (3, (V.sl 0 1 (List.map sTerm a3))), (4, (Pt 4)), (11, (aL 11 sTerm y40)), (12, (I (Go.IntKind.wrap .i64 (x23 + 1))))], [(4, vS 4 (eBase a0)), (11, ⟨true, 1, List.map sTerm y40⟩)], 67⟩ rfl <| et loop_normal <| ih (Go.IntKind.wrap .i64 (x23 + 1)) y40
      · intro s; exact hret s
    · rw [hc]
      exact et k_exit <| et loop_exit <| hK0 x23 x24
theorem ref12_And_ok (k : Nat) (a0 : T_api_Base) (a1 : Int) (a2 : (List (List T_api_Term))) (a3 : (List (List T_api_Term))) : EV k 21 [(eBase a0), (I a1), (V.sl 0 1 (List.map sTerm a2)), (V.sl 0 1 (List.map sTerm a3))] = (ref12_And k a0 a1 a2 a3).map ref12_And_fin := by
  cases k with
  | zero => rfl
  | succ k =>
    unfold ref12_And
    refine et (evF_succ (c := f21c) (N := 67) (regs := f21n) rfl func21 rfl (by decide) rfl rfl rfl) <| kr ⟨[(1, (I a1)), (2, (V.sl 0 1 (List.map sTerm a2))), (3, (V.sl 0 1 (List.map sTerm a3))), (4, (Pt 4))], [(4, vS 4 (eBase a0))], 67⟩ rfl <| et k_assoc <| kga f21a1 rfl (fun (o2 : Int) => [(10, (I o2))]) (rd 4 [(14, (eBase a0)), (15, (I a1)), (16, (V.sl 0 1 (List.map sTerm a2))), (17, (V.sl 0 1 (List.map sTerm a3)))] rfl rfl <| rs rfl (p_call rfl rfl rfl rfl rfl (ref12_asked_ok k a0 a1 a2 a3) (.inl rfl)) fun v1 => bind_end rfl) fun o2 => et k_assoc <| kra [(20, (Bo (o2 != 0)))] rfl <| kc rfl rfl (fun hc => ?_) fun hc => ?_
    · rw [hc]
      refine et k_assoc <| kr ⟨[(8, (V.sl 0 1 (List.map sTerm ([] : List (List T_api_Term))))), (9, (I o2))], [], 67⟩ rfl <| et k_ret ?_
      rfl
    · rw [hc]
      refine et k_skip <| et k_assoc <| kg f21a4 rfl (fun (o3 : Bool) => ⟨[(1, (I a1)), (2, (V.sl 0 1 (List.map sTerm a2))), (3, (V.sl 0 1 (List.map sTerm a3))), (4, (Pt 4)), (29, (Bo o3))], [(4, vS 4 (eBase a0))], 67⟩) ?_ fun o3 => ?_
      · refine rd 1 [(22, (V.sl 0 1 (List.map sTerm a2)))] rfl rfl <| rl rfl (p_len (e := sTerm) rfl rfl rfl rfl rfl rfl underlying26) <| bd 4 [(23, (I (a2.length : Int))), (24, (Bo ((a2.length : Int) == 0))), (25, (Bo ((a2.length : Int) == 0)))] rfl rfl <| bifE (fun hc => ?_) fun hc => ?_
        · rw [hc]
          exact reg_end rfl
        · rw [hc]
          exact rd 5 [(26, (V.sl 0 1 (List.map sTerm a3)))] rfl rfl <| rl rfl (p_len (e := sTerm) rfl rfl rfl rfl rfl rfl underlying26) <| bind_end rfl
      refine kc rfl rfl (fun hc => ?_) fun hc => ?_
      · rw [hc]
        refine et k_assoc <| kg f21a5 rfl (fun (o6 : (List (List T_api_Term)) × Int) => ⟨[(8, (V.sl 0 1 (List.map sTerm o6.1))), (9, (I o6.2))], [], 67⟩) (rd 2 [(30, (V.sl 1 1 (List.map sTerm ([] : List (List T_api_Term))))), (31, (V.sl 0 1 (List.map sTerm a2)))] rfl rfl <| et (reg_eff (x := (app ([] : List (List T_api_Term)) a2)) (w := fun v4 => ((V.sl 1 1 (List.map sTerm v4)), _)) rfl rfl rfl rfl (p_app (e := sTerm) rfl rfl rfl rfl rfl rfl rfl rfl rfl rfl (by decide))) <| bindE fun v4 => ba 1 4 ⟨[(1, (I a1)), (2, (V.sl 0 1 (List.map sTerm a2))), (3, (V.sl 0 1 (List.map sTerm a3))), (4, (Pt 4)), (29, (Bo true)), (30, (V.sl 0 1 (List.map sTerm ([] : List (List T_api_Term))))), (31, (V.sl 0 1 (List.map sTerm a2))), (32, (V.sl 1 1 (List.map sTerm v4))), (33, (V.sl 0 1 (List.map sTerm a3)))], [(4, vS 4 (eBase a0))], 67⟩ rfl rfl rfl <| et (reg_eff (x := (app v4 a3)) (w := fun v5 => ((V.sl 1 1 (List.map sTerm v5)), _)) rfl rfl rfl rfl (p_app (e := sTerm) rfl rfl rfl rfl rfl rfl rfl rfl rfl rfl (by decide))) <| bindE fun v5 => bind_end rfl) fun o6 => et k_ret ?_
        rfl
      · rw [hc]
        refine et k_skip <| kr ⟨[(1, (I a1)), (2, (V.sl 0 1 (List.map sTerm a2))), (3, (V.sl 0 1 (List.map sTerm a3))), (4, (Pt 4)), (11, (V.aref 11 0 (List.map sTerm ([] : List (List T_api_Term))).length))], [(4, vS 4 (eBase a0)), (11, ⟨true, 1, List.map sTerm ([] : List (List T_api_Term))⟩)], 67⟩ rfl <| et k_assoc <| kra [(12, (I 0))] rfl <| et (k_block rfl) <| et k_loop ?_
        refine ref12_And_L1_ok k a0 a1 a2 a3 _ _ ?h_ref12_And_L1_0 ?hr_ref12_And_L1 k 0 ([] : List (List T_api_Term))
        · intro y41 y42
          refine et blk_exit <| et k_assoc <| kg f21a14 rfl (fun (o44 : Bool) => ⟨[(11, (aL 11 sTerm y42)), (65, (Bo o44))], [(11, ⟨true, 1, List.map sTerm y42⟩)], 67⟩) (rd 3 [(61, (eBase a0)), (62, (I a1)), (63, (aL 11 sTerm y42))] rfl rfl <| rp rfl (p_call rfl rfl rfl rfl (argsL rfl (by intro s i q h; cases h) (argsL rfl (by intro s i q h; cases h) (argsL (lendA (e := sTerm) rfl) (by intro s i q h; cases h) rfl))) (ref12_isCondition_ok k a0 a1 y42) (.inr (fun _ => rfl))) fun v43 => bind_end rfl) fun o44 => kc rfl rfl (fun hc => ?_) fun hc => ?_
          · rw [hc]
            refine et k_assoc <| kr ⟨[(8, (V.sl 0 1 (List.map sTerm ([] : List (List T_api_Term))))), (9, (I 4))], [], 67⟩ rfl <| et k_ret ?_
            rfl
          · rw [hc]
            refine et k_skip <| krp f21a16 rfl ⟨[(8, (V.sl 0 1 (List.map sTerm y42))), (9, (I 0))], [], 67⟩ ?_ ?_
            · exact rd 1 [(66, (aL 11 sTerm y42))] rfl rfl <| et (reg_eff (x := some ()) (w := fun _ => ((V.sl 2 1 (List.map sTerm y42)), _)) rfl rfl rfl rfl (p_close (e := sTerm) rfl rfl rfl rfl rfl (of_decide_eq_true rfl))) <| et some_bind <| bind_end rfl
            refine et k_lret ?_
            rfl
        · intro s; exact rfl
def ref12_Same_fin : Bool → V × List V := fun r => ((Bo r), [])
theorem ref12_Same_L2_ok (k : Nat) (a0 : (List (List T_api_Term))) (a1 : (List (List T_api_Term))) (x20 : Int)  (K0 : Int → Option Bool) (Kst : X × St → Option (V × List V)) (hK0 : ∀ (y0 : Int), Kst (X.exit 2, ⟨[(0, (V.sl 0 1 (List.map sTerm a0))), (1, (V.sl 0 1 (List.map sTerm a1))), (5, (I x20)), (6, (I y0)), (35, (Bo false))], [], 53⟩) = (K0 y0).map ref12_Same_fin) (hret : ∀ s, Kst (X.ret, s) = endK prog 53 [(V.sl 0 1 (List.map sTerm a0)), (V.sl 0 1 (List.map sTerm a1))] [] [.tmp 4] (X.ret, s)) :
    ∀ (m : Nat) (x31 : Int), (iter (exec prog (EV k) f22n k f22b0) m ⟨[(0, (V.sl 0 1 (List.map sTerm a0))), (1, (V.sl 0 1 (List.map sTerm a1))), (5, (I x20)), (6, (I x31))], [], 53⟩).bind Kst = (ref12_Same_L2 a0 a1 x20 K0 m x31).map ref12_Same_fin := by
  intro m
  induction m with
  | zero => intros; rfl
  | succ m ih =>
    intro x31
    unfold ref12_Same_L2
    refine et k_round <| et k_assoc <| kga f22a9 rfl (fun (o33 : Bool) => [(35, (Bo o33))]) (rd 3 [(29, (I x31)), (30, (V.sl 0 1 (List.map sTerm a0))), (31, (I x20))] rfl rfl <| rp rfl (p_index (e := sTerm) rfl rfl rfl underlying26 rfl (by decide)) fun v32 => bd 5 [(32, (Pr (sTerm v32))), (33, (sTerm v32))] rfl rfl <| rl rfl (p_len (e := eTerm) rfl rfl rfl rfl rfl rfl underlying50) <| bind_end rfl) fun o33 => kc rfl rfl (fun hc => ?_) fun hc => ?_
    · rw [hc]
      refine et k_skip <| et (k_block rfl) <| kd f22a11 rfl (fun (o38 : Bool) => ⟨[(0, (V.sl 0 1 (List.map sTerm a0))), (1, (V.sl 0 1 (List.map sTerm a1))), (5, (I x20)), (6, (I x31)), (52, (Bo o38))], [], 53⟩) (et (regionE_regp (p := 15) (dk := true) (t := [(0, (V.sl 0 1 (List.map sTerm a0))), (1, (V.sl 0 1 (List.map sTerm a1))), (5, (I x20)), (6, (I x31)), (35, (Bo true))]) (σ := []) (n := 53) rfl (by decide) (by decide) rfl) <| et (regp_adv (m := 2) (j := 2) (t' := [(0, (V.sl 0 1 (List.map sTerm a0))), (1, (V.sl 0 1 (List.map sTerm a1))), (5, (I x20)), (6, (I x31)), (35, (Bo true)), (38, (V.sl 0 1 (List.map sTerm a0))), (39, (I x20))]) rfl rfl rfl) <| et (regp_pure (x := (idx a0 x20)) (w := fun v34 => (Pr (sTerm v34))) rfl rfl rfl rfl rfl (p_index (e := sTerm) rfl rfl rfl underlying26 rfl (by decide))) <| bindE fun v34 => et (putp_adv (m := 2) (j := 5) (t' := [(0, (V.sl 0 1 (List.map sTerm a0))), (1, (V.sl 0 1 (List.map sTerm a1))), (5, (I x20)), (6, (I x31)), (35, (Bo true)), (38, (V.sl 0 1 (List.map sTerm a0))), (39, (I x20)), (40, (Pr (sTerm v34))), (41, (sTerm v34)), (42, (I x31))]) rfl rfl rfl) <| et (regp_pure (x := (idx v34 x31)) (w := fun v35 => (Pr (eTerm v35))) rfl rfl rfl rfl rfl (p_index (e := eTerm) rfl rfl rfl underlying50 rfl (by decide))) <| bindE fun v35 => et (putp_adv (m := 3) (j := 9) (t' := [(0, (V.sl 0 1 (List.map sTerm a0))), (1, (V.sl 0 1 (List.map sTerm a1))), (5, (I x20)), (6, (I x31)), (35, (Bo true)), (38, (V.sl 0 1 (List.map sTerm a0))), (39, (I x20)), (40, (Pr (sTerm v34))), (41, (sTerm v34)), (42, (I x31)), (43, (Pr (eTerm v35))), (44, (eTerm v35)), (45, (V.sl 0 1 (List.map sTerm a1))), (46, (I x20))]) rfl rfl rfl) <| et (regp_pure (x := (idx a1 x20)) (w := fun v36 => (Pr (sTerm v36))) rfl rfl rfl rfl rfl (p_index (e := sTerm) rfl rfl rfl underlying26 rfl (by decide))) <| bindE fun v36 => et (putp_adv (m := 2) (j := 12) (t' := [(0, (V.sl 0 1 (List.map sTerm a0))), (1, (V.sl 0 1 (List.map sTerm a1))), (5, (I x20)), (6, (I x31)), (35, (Bo true)), (38, (V.sl 0 1 (List.map sTerm a0))), (39, (I x20)), (40, (Pr (sTerm v34))), (41, (sTerm v34)), (42, (I x31)), (43, (Pr (eTerm v35))), (44, (eTerm v35)), (45, (V.sl 0 1 (List.map sTerm a1))), (46, (I x20)), (47, (Pr (sTerm v36))), (48, (sTerm v36)), (49, (I x31))]) rfl rfl rfl) <| et (regp_pure (x := (idx v36 x31)) (w := fun v37 => (Pr (eTerm v37))) rfl rfl rfl rfl rfl (p_index (e := eTerm) rfl rfl rfl underlying50 rfl (by decide))) <| bindE fun v37 => et (putp_adv (m := 1) (j := 14) (t' := [(0, (V.sl 0 1 (List.map sTerm a0))), (1, (V.sl 0 1 (List.map sTerm a1))), (5, (I x20)), (6, (I x31)), (35, (Bo true)), (38, (V.sl 0 1 (List.map sTerm a0))), (39, (I x20)), (40, (Pr (sTerm v34))), (41, (sTerm v34)), (42, (I x31)), (43, (Pr (eTerm v35))), (44, (eTerm v35)), (45, (V.sl 0 1 (List.map sTerm a1))), (46, (I x20)), (47, (Pr (sTerm v36))), (48, (sTerm v36)), (49, (I x31)), (50, (Pr (eTerm v37))), (51, (eTerm v37))]) rfl rfl rfl) <| et (regp_pure (x := some ()) (w := fun _ => (Bo (!(v35.fField == v37.fField && (v35.fOp == v37.fOp && (v35.fValue == v37.fValue && true)))))) rfl rfl rfl rfl rfl (p_neS rfl rfl rfl underlying49 sih49 eqg49 rfl)) <| et some_bind <| regp_end rfl) fun o38 => kcl rfl rfl (fun hc => ?_) fun hc => ?_
      · rw [hc]
        refine kr ⟨[(4, (Bo false))], [], 53⟩ rfl <| et k_lret <| et blk_ret <| et loop_ret <| et (hret _) ?_
        rfl
      · rw [hc]
        exact et k_lskip <| et blk_normal <| kl ⟨[(0, (V.sl 0 1 (List.map sTerm a0))), (1, (V.sl 0 1 (List.map sTerm a1))), (5, (I x20)), (6, (I (Go.IntKind.wrap .i64 (x31 + 1))))], [], 53⟩ rfl <| et loop_normal <| ih (Go.IntKind.wrap .i64 (x31 + 1))
    · rw [hc]
      exact et k_exit <| et loop_exit <| hK0 x31
theorem ref12_Same_L1_ok (k : Nat) (a0 : (List (List T_api_Term))) (a1 : (List (List T_api_Term)))  (K0 : Int → Option Bool) (Kst : X × St → Option (V × List V)) (hK0 : ∀ (y0 : Int), Kst (X.exit 0, ⟨[(0, (V.sl 0 1 (List.map sTerm a0))), (1, (V.sl 0 1 (List.map sTerm a1))), (5, (I y0)), (15, (Bo false))], [], 53⟩) = (K0 y0).map ref12_Same_fin) (hret : ∀ s, Kst (X.ret, s) = endK prog 53 [(V.sl 0 1 (List.map sTerm a0)), (V.sl 0 1 (List.map sTerm a1))] [] [.tmp 4] (X.ret, s)) :
    ∀ (m : Nat) (x20 : Int), (iter (exec prog (EV k) f22n k f22b1) m ⟨[(0, (V.sl 0 1 (List.map sTerm a0))), (1, (V.sl 0 1 (List.map sTerm a1))), (5, (I x20))], [], 53⟩).bind Kst = (ref12_Same_L1 k a0 a1 K0 m x20).map ref12_Same_fin := by
  intro m
  induction m with
  | zero => intros; rfl
  | succ m ih =>
    intro x20
    unfold ref12_Same_L1
    refine et k_round <| et k_assoc <| krp f22a4 rfl ⟨[(0, (V.sl 0 1 (List.map sTerm a0))), (1, (V.sl 0 1 (List.map sTerm a1))), (5, (I x20)), (15, (Bo (decide (x20 < (a0.length : Int)))))], [], 53⟩ ?_ ?_
    · exact rd 2 [(12, (I x20)), (13, (V.sl 0 1 (List.map sTerm a0)))] rfl rfl <| rl rfl (p_len (e := sTerm) rfl rfl rfl rfl rfl rfl underlying26) <| bind_end rfl
    refine kc rfl rfl (fun hc => ?_) fun hc => ?_
    · rw [hc]
      refine et k_skip <| et (k_block rfl) <| et k_assoc <| kd f22a6 rfl (fun (o23 : Bool) => ⟨[(0, (V.sl 0 1 (List.map sTerm a0))), (1, (V.sl 0 1 (List.map sTerm a1))), (5, (I x20)), (28, (Bo o23))], [], 53⟩) (et (regionE_regp (p := 11) (dk := true) (t := [(0, (V.sl 0 1 (List.map sTerm a0))), (1, (V.sl 0 1 (List.map sTerm a1))), (5, (I x20)), (15, (Bo true))]) (σ := []) (n := 53) rfl (by decide) (by decide) rfl) <| et (regp_adv (m := 2) (j := 2) (t' := [(0, (V.sl 0 1 (List.map sTerm a0))), (1, (V.sl 0 1 (List.map sTerm a1))), (5, (I x20)), (15, (Bo true)), (18, (V.sl 0 1 (List.map sTerm a0))), (19, (I x20))]) rfl rfl rfl) <| et (regp_pure (x := (idx a0 x20)) (w := fun v21 => (Pr (sTerm v21))) rfl rfl rfl rfl rfl (p_index (e := sTerm) rfl rfl rfl underlying26 rfl (by decide))) <| bindE fun v21 => et (putp_adv (m := 1) (j := 4) (t' := [(0, (V.sl 0 1 (List.map sTerm a0))), (1, (V.sl 0 1 (List.map sTerm a1))), (5, (I x20)), (15, (Bo true)), (18, (V.sl 0 1 (List.map sTerm a0))), (19, (I x20)), (20, (Pr (sTerm v21))), (21, (sTerm v21))]) rfl rfl rfl) <| et (regp_pure (x := some ()) (w := fun _ => (I (v21.length : Int))) rfl rfl rfl rfl rfl (p_len (e := eTerm) rfl rfl rfl rfl rfl rfl underlying50)) <| et some_bind <| et (putp_adv (m := 2) (j := 7) (t' := [(0, (V.sl 0 1 (List.map sTerm a0))), (1, (V.sl 0 1 (List.map sTerm a1))), (5, (I x20)), (15, (Bo true)), (18, (V.sl 0 1 (List.map sTerm a0))), (19, (I x20)), (20, (Pr (sTerm v21))), (21, (sTerm v21)), (22, (I (v21.length : Int))), (23, (V.sl 0 1 (List.map sTerm a1))), (24, (I x20))]) rfl rfl rfl) <| et (regp_pure (x := (idx a1 x20)) (w := fun v22 => (Pr (sTerm v22))) rfl rfl rfl rfl rfl (p_index (e := sTerm) rfl rfl rfl underlying26 rfl (by decide))) <| bindE fun v22 => et (putp_adv (m := 1) (j := 9) (t' := [(0, (V.sl 0 1 (List.map sTerm a0))), (1, (V.sl 0 1 (List.map sTerm a1))), (5, (I x20)), (15, (Bo true)), (18, (V.sl 0 1 (List.map sTerm a0))), (19, (I x20)), (20, (Pr (sTerm v21))), (21, (sTerm v21)), (22, (I (v21.length : Int))), (23, (V.sl 0 1 (List.map sTerm a1))), (24, (I x20)), (25, (Pr (sTerm v22))), (26, (sTerm v22))]) rfl rfl rfl) <| et (regp_pure (x := some ()) (w := fun _ => (I (v22.length : Int))) rfl rfl rfl rfl rfl (p_len (e := eTerm) rfl rfl rfl rfl rfl rfl underlying50)) <| et some_bind <| regp_end rfl) fun o23 => kc rfl rfl (fun hc => ?_) fun hc => ?_
      · rw [hc]
        refine et k_assoc <| kr ⟨[(4, (Bo false))], [], 53⟩ rfl <| et k_ret <| et blk_ret <| et loop_ret <| et (hret _) ?_
        rfl
      · rw [hc]
        refine et k_skip <| kr ⟨[(0, (V.sl 0 1 (List.map sTerm a0))), (1, (V.sl 0 1 (List.map sTerm a1))), (5, (I x20)), (6, (I 0))], [], 53⟩ rfl <| et (k_lblock rfl) <| et k_loop ?_
        refine ref12_Same_L2_ok k a0 a1 x20 _ _ ?h_ref12_Same_L2_0 ?hr_ref12_Same_L2 k 0
        · intro y39
          exact et blk_exit <| et k_lskip <| et blk_normal <| kl ⟨[(0, (V.sl 0 1 (List.map sTerm a0))), (1, (V.sl 0 1 (List.map sTerm a1))), (5, (I (Go.IntKind.wrap .i64 (x20 + 1))))], [], 53⟩ rfl <| et loop_normal <| ih (Go.IntKind.wrap .i64 (x20 + 1))
        · intro s; exact hret s
    · rw [hc]
      exact et k_exit <| et loop_exit <| hK0 x20
theorem ref12_Same_ok (k : Nat) (a0 : (List (List T_api_Term))) (a1 : (List (List T_api_Term))) : EV k 22 [(V.sl 0 1 (List.map sTerm a0)), (V.sl 0 1 (List.map sTerm a1))] = (ref12_Same k a0 a1).map ref12_Same_fin := by
  cases k with
  | zero => rfl
  | succ k =>
    unfold ref12_Same
    refine et (evF_succ (c := f22c) (N := 53) (regs := f22n) rfl func22 rfl (by decide) rfl rfl rfl) <| kra [] rfl <| et k_assoc <| krp f22a1 rfl ⟨[(0, (V.sl 0 1 (List.map sTerm a0))), (1, (V.sl 0 1 (List.map sTerm a1))), (11, (Bo ((a0.length : Int) != (a1.length : Int))))], [], 53⟩ ?_ ?_
    · exact rd 1 [(7, (V.sl 0 1 (List.map sTerm a0)))] rfl rfl <| rl rfl (p_len (e := sTerm) rfl rfl rfl rfl rfl rfl underlying26) <| bd 3 [(8, (I (a0.length : Int))), (9, (V.sl 0 1 (List.map sTerm a1)))] rfl rfl <| rl rfl (p_len (e := sTerm) rfl rfl rfl rfl rfl rfl underlying26) <| bind_end rfl
    refine kc rfl rfl (fun hc => ?_) fun hc => ?_
    · rw [hc]
      refine et k_assoc <| kr ⟨[(4, (Bo false))], [], 53⟩ rfl <| et k_ret ?_
      rfl
    · rw [hc]
      refine et k_skip <| et k_assoc <| kr ⟨[(0, (V.sl 0 1 (List.map sTerm a0))), (1, (V.sl 0 1 (List.map sTerm a1))), (5, (I 0))], [], 53⟩ rfl <| et (k_block rfl) <| et k_loop ?_
      refine ref12_Same_L1_ok k a0 a1 _ _ ?h_ref12_Same_L1_0 ?hr_ref12_Same_L1 k 0
      · intro y40
        refine et blk_exit <| kr ⟨[(4, (Bo true))], [], 53⟩ rfl <| et k_lret ?_
        rfl
      · intro s; exact rfl
def slices_Concat_TermL_fin : (List (List T_api_Term)) → V × List V := fun r => ((V.sl 0 1 (List.map sTerm r)), [])
theorem slices_Concat_TermL_ok (k : Nat) (s : List (List (List T_api_Term))) : EV k 50 [(V.sl 0 1 (List.map (fun x => (V.sl 0 1 (List.map sTerm x))) s))] = (slices_Concat_TermL k s).map slices_Concat_TermL_fin := by
  cases k with
  | zero => rfl
  | succ k => exact (evF_ext (ext := ext) (f := 50) rfl).trans (extCat_map (e := sTerm) (sz := 1) s)
def match_Or_fin : ((List (List T_api_Term)) × Int) → V × List V := fun r => (.tup [(V.sl 0 1 (List.map sTerm r.1)), (I r.2)], [])
theorem match_Or_ok (k : Nat) (a0 : T_api_Base) (a1 : Int) (a2 : (List (List T_api_Term))) (a3 : (List (List T_api_Term))) : EV k 23 [(eBase a0), (I a1), (V.sl 0 1 (List.map sTerm a2)), (V.sl 0 1 (List.map sTerm a3))] = (match_Or k a0 a1 a2 a3).map match_Or_fin := by
  cases k with
  | zero => rfl
  | succ k =>
    unfold match_Or
    refine et (evF_succ (c := f23c) (N := 43) (regs := f23n) rfl func23 rfl (by decide) rfl rfl rfl) <| kr ⟨[(1, (I a1)), (2, (V.sl 0 1 (List.map sTerm a2))), (3, (V.sl 0 1 (List.map sTerm a3))), (4, (Pt 4))], [(4, vS 4 (eBase a0))], 43⟩ rfl <| kg f23a1 rfl (fun (o2 : Int × T_api_Type) => ⟨[(2, (V.sl 0 1 (List.map sTerm a2))), (3, (V.sl 0 1 (List.map sTerm a3))), (10, (Pt 10)), (11, (I o2.1))], [(10, vS 8 (eType o2.2))], 43⟩) (rd 5 [(13, (eBase a0)), (14, (I a1)), (15, (V.sl 0 1 (List.map sTerm a2))), (16, (V.sl 0 1 (List.map sTerm a3))), (17, (V.sl 0 1 (List.map (fun x => (V.sl 0 1 (List.map sTerm x))) ([a2, a3] : List (List (List T_api_Term))))))] rfl rfl <| rp rfl (p_call rfl rfl rfl rfl rfl (match_conditions_ok k a0 a1 ([a2, a3] : List (List (List T_api_Term)))) (.inl rfl)) fun v1 => bind_end rfl) fun o2 => et (k_block rfl) <| kra [(21, (Bo (o2.1 != 0)))] rfl <| kcl rfl rfl (fun hc => ?_) fun hc => ?_
    · rw [hc]
      refine kr ⟨[(8, (V.sl 0 1 (List.map sTerm ([] : List (List T_api_Term))))), (9, (I o2.1))], [], 43⟩ rfl <| et k_lret <| et blk_ret ?_
      rfl
    · rw [hc]
      refine kg f23a4 rfl (fun (o3 : Bool) => ⟨[(2, (V.sl 0 1 (List.map sTerm a2))), (3, (V.sl 0 1 (List.map sTerm a3))), (10, (Pt 10)), (25, (Bo o3))], [(10, vS 8 (eType o2.2))], 43⟩) ?_ fun o3 => ?_
      · refine rd 1 [(26, (V.sl 0 1 (List.map sTerm a2)))] rfl rfl <| rl rfl (p_len (e := sTerm) rfl rfl rfl rfl rfl rfl underlying26) <| bd 4 [(27, (I (a2.length : Int))), (28, (Bo ((a2.length : Int) == 0))), (29, (Bo ((a2.length : Int) == 0)))] rfl rfl <| bifE (fun hc => ?_) fun hc => ?_
        · rw [hc]
          exact reg_end rfl
        · rw [hc]
          exact rd 5 [(30, (V.sl 0 1 (List.map sTerm a3)))] rfl rfl <| rl rfl (p_len (e := sTerm) rfl rfl rfl rfl rfl rfl underlying26) <| bind_end rfl
      refine kcl rfl rfl (fun hc => ?_) fun hc => ?_
      · rw [hc]
        refine kr ⟨[(8, (V.sl 0 1 (List.map sTerm ([] : List (List T_api_Term))))), (9, (I 0))], [], 43⟩ rfl <| et k_lret <| et blk_ret ?_
        rfl
      · rw [hc]
        refine et k_lskip <| et blk_normal <| kd f23a6 rfl (fun (o7 : (List (List T_api_Term)) × Int) => ⟨[(8, (V.sl 0 1 (List.map sTerm o7.1))), (9, (I o7.2))], [], 43⟩) (et (regionE_regp (p := 11) (dk := true) (t := [(2, (V.sl 0 1 (List.map sTerm a2))), (3, (V.sl 0 1 (List.map sTerm a3))), (10, (Pt 10)), (25, (Bo false))]) (σ := [(10, vS 8 (eType o2.2))]) (n := 43) rfl (by decide) (by decide) rfl) <| et (regp_adv (m := 4) (j := 4) (t' := [(2, (V.sl 0 1 (List.map sTerm a2))), (3, (V.sl 0 1 (List.map sTerm a3))), (10, (Pt 10)), (25, (Bo false)), (34, (eType o2.2)), (35, (V.sl 0 1 (List.map sTerm a2))), (36, (V.sl 0 1 (List.map sTerm a3))), (37, (V.sl 0 1 (List.map (fun x => (V.sl 0 1 (List.map sTerm x))) ([a2, a3] : List (List (List T_api_Term))))))]) rfl rfl rfl) <| et (regp_pure (x := (slices_Concat_TermL k ([a2, a3] : List (List (List T_api_Term))))) (w := fun v4 => (V.sl 0 1 (List.map sTerm v4))) rfl rfl rfl rfl rfl (p_call rfl rfl rfl rfl rfl (slices_Concat_TermL_ok k ([a2, a3] : List (List (List T_api_Term)))) (.inl rfl))) <| bindE fun v4 => et (putp_adv (m := 0) (j := 5) (t' := [(2, (V.sl 0 1 (List.map sTerm a2))), (3, (V.sl 0 1 (List.map sTerm a3))), (10, (Pt 10)), (25, (Bo false)), (34, (eType o2.2)), (35, (V.sl 0 1 (List.map sTerm a2))), (36, (V.sl 0 1 (List.map sTerm a3))), (37, (V.sl 0 1 (List.map (fun x => (V.sl 0 1 (List.map sTerm x))) ([a2, a3] : List (List (List T_api_Term)))))), (38, (V.sl 0 1 (List.map sTerm v4)))]) rfl rfl rfl) <| et (regp_pure (x := (match_copied k v4)) (w := fun v5 => (V.sl 0 1 (List.map sTerm v5))) rfl rfl rfl rfl rfl (p_call rfl rfl rfl rfl rfl (match_copied_ok k v4) (.inl rfl))) <| bindE fun v5 => et (putp_adv (m := 0) (j := 6) (t' := [(2, (V.sl 0 1 (List.map sTerm a2))), (3, (V.sl 0 1 (List.map sTerm a3))), (10, (Pt 10)), (25, (Bo false)), (34, (eType o2.2)), (35, (V.sl 0 1 (List.map sTerm a2))), (36, (V.sl 0 1 (List.map sTerm a3))), (37, (V.sl 0 1 (List.map (fun x => (V.sl 0 1 (List.map sTerm x))) ([a2, a3] : List (List (List T_api_Term)))))), (38, (V.sl 0 1 (List.map sTerm v4))), (39, (V.sl 0 1 (List.map sTerm v5)))]) rfl rfl rfl) <| et (regp_pure (x := (match_limited k o2.2 v5)) (w := fun v6 => (V.tup [(V.sl 0 1 (List.map sTerm v6.1)), (I v6.2)])) rfl rfl rfl rfl rfl (p_call rfl rfl rfl rfl rfl (match_limited_ok k o2.2 v5) (.inl rfl))) <| bindE fun v6 => regp_end rfl) fun o7 => et k_lret ?_
        rfl
def ref12_Or_fin : ((List (List T_api_Term)) × Int) → V × List V := fun r => (.tup [(V.sl 0 1 (List.map sTerm r.1)), (I r.2)], [])
theorem ref12_Or_ok (k : Nat) (a0 : T_api_Base) (a1 : Int) (a2 : (List (List T_api_Term))) (a3 : (List (List T_api_Term))) : EV k 24 [(eBase a0), (I a1), (V.sl 0 1 (List.map sTerm a2)), (V.sl 0 1 (List.map sTerm a3))] = (ref12_Or k a0 a1 a2 a3).map ref12_Or_fin := by
  cases k with
  | zero => rfl
  | succ k =>
    unfold ref12_Or
    refine et (evF_succ (c := f24c) (N := 39) (regs := f24n) rfl func24 rfl (by decide) rfl rfl rfl) <| kr ⟨[(1, (I a1)), (2, (V.sl 0 1 (List.map sTerm a2))), (3, (V.sl 0 1 (List.map sTerm a3))), (4, (Pt 4))], [(4, vS 4 (eBase a0))], 39⟩ rfl <| et k_assoc <| kga f24a1 rfl (fun (o2 : Int) => [(10, (I o2))]) (rd 4 [(12, (eBase a0)), (13, (I a1)), (14, (V.sl 0 1 (List.map sTerm a2))), (15, (V.sl 0 1 (List.map sTerm a3)))] rfl rfl <| rs rfl (p_call rfl rfl rfl rfl rfl (ref12_asked_ok k a0 a1 a2 a3) (.inl rfl)) fun v1 => bind_end rfl) fun o2 => et k_assoc <| kra [(18, (Bo (o2 != 0)))] rfl <| kc rfl rfl (fun hc => ?_) fun hc => ?_
    · rw [hc]
      refine et k_assoc <| kr ⟨[(8, (V.sl 0 1 (List.map sTerm ([] : List (List T_api_Term))))), (9, (I o2))], [], 39⟩ rfl <| et k_ret ?_
      rfl
    · rw [hc]
      refine et k_skip <| et k_assoc <| kg f24a4 rfl (fun (o3 : Bool) => ⟨[(1, (I a1)), (2, (V.sl 0 1 (List.map sTerm a2))), (3, (V.sl 0 1 (List.map sTerm a3))), (4, (Pt 4)), (27, (Bo o3))], [(4, vS 4 (eBase a0))], 39⟩) ?_ fun o3 => ?_
      · refine rd 1 [(20, (V.sl 0 1 (List.map sTerm a2)))] rfl rfl <| rl rfl (p_len (e := sTerm) rfl rfl rfl rfl rfl rfl underlying26) <| bd 4 [(21, (I (a2.length : Int))), (22, (Bo ((a2.length : Int) == 0))), (23, (Bo ((a2.length : Int) == 0)))] rfl rfl <| bifE (fun hc => ?_) fun hc => ?_
        · rw [hc]
          exact reg_end rfl
        · rw [hc]
          exact rd 5 [(24, (V.sl 0 1 (List.map sTerm a3)))] rfl rfl <| rl rfl (p_len (e := sTerm) rfl rfl rfl rfl rfl rfl underlying26) <| bind_end rfl
      refine kc rfl rfl (fun hc => ?_) fun hc => ?_
      · rw [hc]
        refine et k_assoc <| kr ⟨[(8, (V.sl 0 1 (List.map sTerm ([] : List (List T_api_Term))))), (9, (I 0))], [], 39⟩ rfl <| et k_ret ?_
        rfl
      · rw [hc]
        refine et k_skip <| kg f24a6 rfl (fun (o6 : (List (List T_api_Term))) => ⟨[(1, (I a1)), (4, (Pt 4)), (11, (V.sl 0 1 (List.map sTerm o6)))], [(4, vS 4 (eBase a0))], 39⟩) (rd 2 [(28, (V.sl 1 1 (List.map sTerm ([] : List (List T_api_Term))))), (29, (V.sl 0 1 (List.map sTerm a2)))] rfl rfl <| et (reg_eff (x := (app ([] : List (List T_api_Term)) a2)) (w := fun v4 => ((V.sl 1 1 (List.map sTerm v4)), _)) rfl rfl rfl rfl (p_app (e := sTerm) rfl rfl rfl rfl rfl rfl rfl rfl rfl rfl (by decide))) <| bindE fun v4 => ba 1 4 ⟨[(1, (I a1)), (2, (V.sl 0 1 (List.map sTerm a2))), (3, (V.sl 0 1 (List.map sTerm a3))), (4, (Pt 4)), (27, (Bo false)), (28, (V.sl 0 1 (List.map sTerm ([] : List (List T_api_Term))))), (29, (V.sl 0 1 (List.map sTerm a2))), (30, (V.sl 1 1 (List.map sTerm v4))), (31, (V.sl 0 1 (List.map sTerm a3)))], [(4, vS 4 (eBase a0))], 39⟩ rfl rfl rfl <| et (reg_eff (x := (app v4 a3)) (w := fun v5 => ((V.sl 1 1 (List.map sTerm v5)), _)) rfl rfl rfl rfl (p_app (e := sTerm) rfl rfl rfl rfl rfl rfl rfl rfl rfl rfl (by decide))) <| bind_self fun v5 => bind_end rfl) fun o6 => et k_assoc <| kg f24a7 rfl (fun (o8 : Bool) => ⟨[(11, (V.sl 0 1 (List.map sTerm o6))), (37, (Bo o8))], [], 39⟩) (rd 3 [(33, (eBase a0)), (34, (I a1)), (35, (V.sl 0 1 (List.map sTerm o6)))] rfl rfl <| rp rfl (p_call rfl rfl rfl rfl rfl (ref12_isCondition_ok k a0 a1 o6) (.inl rfl)) fun v7 => bind_end rfl) fun o8 => kc rfl rfl (fun hc => ?_) fun hc => ?_
        · rw [hc]
          refine et k_assoc <| kr ⟨[(8, (V.sl 0 1 (List.map sTerm ([] : List (List T_api_Term))))), (9, (I 4))], [], 39⟩ rfl <| et k_ret ?_
          rfl
        · rw [hc]
          refine et k_skip <| kr ⟨[(8, (V.sl 0 1 (List.map sTerm o6))), (9, (I 0))], [], 39⟩ rfl <| et k_lret ?_
          rfl
def slices_EqualFunc_TermL_v20_fin : Bool → V × List V := fun r => ((Bo r), [])
theorem slices_EqualFunc_TermL_v20_L1_ok (k : Nat) (a0 : (List (List T_api_Term))) (a1 : (List (List T_api_Term))) (a2 : Nat → (List T_api_Term) → (List T_api_Term) → Option Bool) (a2_fid : Go.FuncId)  (a2_hok : ∀ j x0 x1, EV j a2_fid [(sTerm x0), (sTerm x1)] = (a2 j x0 x1).map fun b => ((Bo b), [])) (K0 : Int → Option Bool) (Kst : X × St → Option (V × List V)) (hK0 : ∀ (y0 : Int), Kst (X.exit 0, ⟨[(1, (V.sl 0 1 (List.map sTerm a1))), (2, (V.fn a2_fid [] [])), (15, (V.sl 0 1 (List.map sTerm a0))), (16, (I (a0.length : Int))), (17, (I y0)), (18, (Bo false))], [], 32⟩) = (K0 y0).map slices_EqualFunc_TermL_v20_fin) (hret : ∀ s, Kst (X.ret, s) = endK prog 32 [(V.sl 0 1 (List.map sTerm a0)), (V.sl 0 1 (List.map sTerm a1)), (V.fn a2_fid [] [])] [] [.tmp 6] (X.ret, s)) :
    ∀ (m : Nat) (x7 : Int), (iter (exec prog (EV k) f51v20n k f51v20b0) m ⟨[(1, (V.sl 0 1 (List.map sTerm a1))), (2, (V.fn a2_fid [] [])), (15, (V.sl 0 1 (List.map sTerm a0))), (16, (I (a0.length : Int))), (17, (I x7))], [], 32⟩).bind Kst = (slices_EqualFunc_TermL_v20_L1 k a0 a1 a2 K0 m x7).map slices_EqualFunc_TermL_v20_fin := by
  intro m
  induction m with
  | zero => intros; rfl
  | succ m ih =>
    intro x7
    unfold slices_EqualFunc_TermL_v20_L1
    refine et k_round <| kra [(18, (Bo (decide (x7 < (a0.length : Int)))))] rfl <| kc rfl rfl (fun hc => ?_) fun hc => ?_
    · rw [hc]
      refine et k_skip <| et (k_block rfl) <| kg f51v20a5 rfl (fun (o9 : Int × (List T_api_Term)) => ⟨[(1, (V.sl 0 1 (List.map sTerm a1))), (2, (V.fn a2_fid [] [])), (7, (I o9.1)), (8, (sTerm o9.2)), (15, (V.sl 0 1 (List.map sTerm a0))), (16, (I (a0.length : Int))), (17, (I x7))], [], 32⟩) (rd 1 [(19, (I x7))] rfl rfl <| rp rfl (p_index (e := sTerm) rfl rfl rfl underlying26 rfl (by decide)) fun v8 => bind_end rfl) fun o9 => kg f51v20a6 rfl (fun (o11 : (List T_api_Term)) => ⟨[(1, (V.sl 0 1 (List.map sTerm a1))), (2, (V.fn a2_fid [] [])), (8, (sTerm o9.2)), (9, (sTerm o11)), (15, (V.sl 0 1 (List.map sTerm a0))), (16, (I (a0.length : Int))), (17, (I x7))], [], 32⟩) (rd 2 [(22, (V.sl 0 1 (List.map sTerm a1))), (23, (I o9.1))] rfl rfl <| rs rfl (p_index (e := sTerm) rfl rfl rfl underlying26 rfl (by decide)) fun v10 => bind_end rfl) fun o11 => kg f51v20a7 rfl (fun (o13 : Bool) => ⟨[(1, (V.sl 0 1 (List.map sTerm a1))), (2, (V.fn a2_fid [] [])), (15, (V.sl 0 1 (List.map sTerm a0))), (16, (I (a0.length : Int))), (17, (I x7)), (30, (Bo o13))], [], 32⟩) (rd 3 [(26, (V.fn a2_fid [] [])), (27, (sTerm o9.2)), (28, (sTerm o11))] rfl rfl <| rp rfl (p_call rfl rfl rfl rfl rfl (a2_hok k o9.2 o11) (.inl rfl)) fun v12 => bind_end rfl) fun o13 => kcl rfl rfl (fun hc => ?_) fun hc => ?_
      · rw [hc]
        refine kr ⟨[(6, (Bo false))], [], 32⟩ rfl <| et k_lret <| et blk_ret <| et loop_ret <| et (hret _) ?_
        rfl
      · rw [hc]
        exact et k_lskip <| et blk_normal <| kl ⟨[(1, (V.sl 0 1 (List.map sTerm a1))), (2, (V.fn a2_fid [] [])), (15, (V.sl 0 1 (List.map sTerm a0))), (16, (I (a0.length : Int))), (17, (I (Go.IntKind.wrap .i64 (x7 + 1))))], [], 32⟩ rfl <| et loop_normal <| ih (Go.IntKind.wrap .i64 (x7 + 1))
    · rw [hc]
      exact et k_exit <| et loop_exit <| hK0 x7
theorem slices_EqualFunc_TermL_v20_ok (k : Nat) (a0 : (List (List T_api_Term))) (a1 : (List (List T_api_Term))) (a2 : Nat → (List T_api_Term) → (List T_api_Term) → Option Bool) (a2_fid : Go.FuncId)  (a2_hok : ∀ j x0 x1, EV j a2_fid [(sTerm x0), (sTerm x1)] = (a2 j x0 x1).map fun b => ((Bo b), [])) : EV k 51 [(V.sl 0 1 (List.map sTerm a0)), (V.sl 0 1 (List.map sTerm a1)), (V.fn a2_fid [] [])] = (slices_EqualFunc_TermL_v20 k a0 a1 a2).map slices_EqualFunc_TermL_v20_fin := by
  cases k with
  | zero => rfl
  | succ k =>
    unfold slices_EqualFunc_TermL_v20
    refine et (evF_succ (c := f51v20c) (N := 32) (regs := f51v20n) rfl func51 rfl (by decide) rfl rfl rfl) <| kra [] rfl <| et k_assoc <| krp f51v20a1 rfl ⟨[(0, (V.sl 0 1 (List.map sTerm a0))), (1, (V.sl 0 1 (List.map sTerm a1))), (2, (V.fn a2_fid [] [])), (14, (Bo ((a0.length : Int) != (a1.length : Int))))], [], 32⟩ ?_ ?_
    · exact rd 1 [(10, (V.sl 0 1 (List.map sTerm a0)))] rfl rfl <| rl rfl (p_len (e := sTerm) rfl rfl rfl rfl rfl rfl underlying26) <| bd 3 [(11, (I (a0.length : Int))), (12, (V.sl 0 1 (List.map sTerm a1)))] rfl rfl <| rl rfl (p_len (e := sTerm) rfl rfl rfl rfl rfl rfl underlying26) <| bind_end rfl
    refine kc rfl rfl (fun hc => ?_) fun hc => ?_
    · rw [hc]
      refine et k_assoc <| kr ⟨[(6, (Bo false))], [], 32⟩ rfl <| et k_ret ?_
      rfl
    · rw [hc]
      refine et k_skip <| et k_assoc <| krp f51v20a3 rfl ⟨[(1, (V.sl 0 1 (List.map sTerm a1))), (2, (V.fn a2_fid [] [])), (15, (V.sl 0 1 (List.map sTerm a0))), (16, (I (a0.length : Int))), (17, (I 0))], [], 32⟩ ?_ ?_
      · exact rd 1 [(15, (V.sl 0 1 (List.map sTerm a0)))] rfl rfl <| rl rfl (p_len (e := sTerm) rfl rfl rfl rfl rfl rfl underlying26) <| bind_end rfl
      refine et (k_block rfl) <| et k_loop ?_
      refine slices_EqualFunc_TermL_v20_L1_ok k a0 a1 a2 a2_fid a2_hok _ _ ?h_slices_EqualFunc_TermL_v20_L1_0 ?hr_slices_EqualFunc_TermL_v20_L1 k 0
      · intro y14
        refine et blk_exit <| kr ⟨[(6, (Bo true))], [], 32⟩ rfl <| et k_lret ?_
        rfl
      · intro s; exact rfl
def slices_Equal_Term_fin : Bool → V × List V := fun r => ((Bo r), [])
theorem slices_Equal_Term_L1_ok (k : Nat) (a0 : (List T_api_Term)) (a1 : (List T_api_Term))  (K0 : Int → Option Bool) (Kst : X × St → Option (V × List V)) (hK0 : ∀ (y0 : Int), Kst (X.exit 0, ⟨[(0, (sTerm a0)), (1, (sTerm a1)), (12, (I (a0.length : Int))), (13, (I y0)), (14, (Bo false))], [], 26⟩) = (K0 y0).map slices_Equal_Term_fin) (hret : ∀ s, Kst (X.ret, s) = endK prog 26 [(sTerm a0), (sTerm a1)] [] [.tmp 4] (X.ret, s)) :
    ∀ (m : Nat) (x4 : Int), (iter (exec prog (EV k) f52n k f52b0) m ⟨[(0, (sTerm a0)), (1, (sTerm a1)), (12, (I (a0.length : Int))), (13, (I x4))], [], 26⟩).bind Kst = (slices_Equal_Term_L1 a0 a1 K0 m x4).map slices_Equal_Term_fin := by
  intro m
  induction m with
  | zero => intros; rfl
  | succ m ih =>
    intro x4
    unfold slices_Equal_Term_L1
    refine et k_round <| kra [(14, (Bo (decide (x4 < (a0.length : Int)))))] rfl <| kc rfl rfl (fun hc => ?_) fun hc => ?_
    · rw [hc]
      refine et k_skip <| et (k_block rfl) <| kr ⟨[(0, (sTerm a0)), (1, (sTerm a1)), (5, (I x4)), (12, (I (a0.length : Int))), (13, (I x4))], [], 26⟩ rfl <| kd f52a6 rfl (fun (o7 : Bool) => ⟨[(0, (sTerm a0)), (1, (sTerm a1)), (12, (I (a0.length : Int))), (13, (I x4)), (24, (Bo o7))], [], 26⟩) (et (regionE_regp (p := 9) (dk := true) (t := [(0, (sTerm a0)), (1, (sTerm a1)), (5, (I x4)), (12, (I (a0.length : Int))), (13, (I x4))]) (σ := []) (n := 26) rfl (by decide) (by decide) rfl) <| et (regp_adv (m := 2) (j := 2) (t' := [(0, (sTerm a0)), (1, (sTerm a1)), (5, (I x4)), (12, (I (a0.length : Int))), (13, (I x4)), (16, (sTerm a0)), (17, (I x4))]) rfl rfl rfl) <| et (regp_pure (x := (idx a0 x4)) (w := fun v5 => (Pr (eTerm v5))) rfl rfl rfl rfl rfl (p_index (e := eTerm) rfl rfl rfl underlying50 rfl (by decide))) <| bindE fun v5 => et (putp_adv (m := 3) (j := 6) (t' := [(0, (sTerm a0)), (1, (sTerm a1)), (5, (I x4)), (12, (I (a0.length : Int))), (13, (I x4)), (16, (sTerm a0)), (17, (I x4)), (18, (Pr (eTerm v5))), (19, (eTerm v5)), (20, (sTerm a1)), (21, (I x4))]) rfl rfl rfl) <| et (regp_pure (x := (idx a1 x4)) (w := fun v6 => (Pr (eTerm v6))) rfl rfl rfl rfl rfl (p_index (e := eTerm) rfl rfl rfl underlying50 rfl (by decide))) <| bindE fun v6 => et (putp_adv (m := 1) (j := 8) (t' := [(0, (sTerm a0)), (1, (sTerm a1)), (5, (I x4)), (12, (I (a0.length : Int))), (13, (I x4)), (16, (sTerm a0)), (17, (I x4)), (18, (Pr (eTerm v5))), (19, (eTerm v5)), (20, (sTerm a1)), (21, (I x4)), (22, (Pr (eTerm v6))), (23, (eTerm v6))]) rfl rfl rfl) <| et (regp_pure (x := some ()) (w := fun _ => (Bo (!(v5.fField == v6.fField && (v5.fOp == v6.fOp && (v5.fValue == v6.fValue && true)))))) rfl rfl rfl rfl rfl (p_neS rfl rfl rfl underlying49 sih49 eqg49 rfl)) <| et some_bind <| regp_end rfl) fun o7 => kcl rfl rfl (fun hc => ?_) fun hc => ?_
      · rw [hc]
        refine kr ⟨[(4, (Bo false))], [], 26⟩ rfl <| et k_lret <| et blk_ret <| et loop_ret <| et (hret _) ?_
        rfl
      · rw [hc]
        exact et k_lskip <| et blk_normal <| kl ⟨[(0, (sTerm a0)), (1, (sTerm a1)), (12, (I (a0.length : Int))), (13, (I (Go.IntKind.wrap .i64 (x4 + 1))))], [], 26⟩ rfl <| et loop_normal <| ih (Go.IntKind.wrap .i64 (x4 + 1))
    · rw [hc]
      exact et k_exit <| et loop_exit <| hK0 x4
theorem slices_Equal_Term_ok (k : Nat) (a0 : (List T_api_Term)) (a1 : (List T_api_Term)) : EV k 52 [(sTerm a0), (sTerm a1)] = (slices_Equal_Term k a0 a1).map slices_Equal_Term_fin := by
  cases k with
  | zero => rfl
  | succ k =>
    unfold slices_Equal_Term
    refine et (evF_succ (c := f52c) (N := 26) (regs := f52n) rfl func52 rfl (by decide) rfl rfl rfl) <| kra [] rfl <| et k_assoc <| krp f52a1 rfl ⟨[(0, (sTerm a0)), (1, (sTerm a1)), (10, (Bo ((a0.length : Int) != (a1.length : Int))))], [], 26⟩ ?_ ?_
    · exact rd 1 [(6, (sTerm a0))] rfl rfl <| rl rfl (p_len (e := eTerm) rfl rfl rfl rfl rfl rfl underlying50) <| bd 3 [(7, (I (a0.length : Int))), (8, (sTerm a1))] rfl rfl <| rl rfl (p_len (e := eTerm) rfl rfl rfl rfl rfl rfl underlying50) <| bind_end rfl
    refine kc rfl rfl (fun hc => ?_) fun hc => ?_
    · rw [hc]
      refine et k_assoc <| kr ⟨[(4, (Bo false))], [], 26⟩ rfl <| et k_ret ?_
      rfl
    · rw [hc]
      refine et k_skip <| et k_assoc <| krp f52a3 rfl ⟨[(0, (sTerm a0)), (1, (sTerm a1)), (12, (I (a0.length : Int))), (13, (I 0))], [], 26⟩ ?_ ?_
      · exact rd 1 [(11, (sTerm a0))] rfl rfl <| rl rfl (p_len (e := eTerm) rfl rfl rfl rfl rfl rfl underlying50) <| bind_end rfl
      refine et (k_block rfl) <| et k_loop ?_
      refine slices_Equal_Term_L1_ok k a0 a1 _ _ ?h_slices_Equal_Term_L1_0 ?hr_slices_Equal_Term_L1 k 0
      · intro y8
        refine et blk_exit <| kr ⟨[(4, (Bo true))], [], 26⟩ rfl <| et k_lret ?_
        rfl
      · intro s; exact rfl
def match_Same_fin : Bool → V × List V := fun r => ((Bo r), [])
theorem match_Same_ok (k : Nat) (a0 : (List (List T_api_Term))) (a1 : (List (List T_api_Term))) : EV k 25 [(V.sl 0 1 (List.map sTerm a0)), (V.sl 0 1 (List.map sTerm a1))] = (match_Same k a0 a1).map match_Same_fin := by
  cases k with
  | zero => rfl
  | succ k =>
    unfold match_Same
    refine et (evF_succ (c := f25c) (N := 8) (regs := f25n) rfl func25 rfl (by decide) rfl rfl rfl) <| kra [] rfl <| kg f25a1 rfl (fun (o2 : Bool) => ⟨[(4, (Bo o2))], [], 8⟩) (rd 2 [(5, (V.sl 0 1 (List.map sTerm a0))), (6, (V.sl 0 1 (List.map sTerm a1)))] rfl rfl <| rs rfl (p_call rfl rfl rfl rfl rfl (slices_EqualFunc_TermL_v20_ok k a0 a1 (fun j x0 x1 => (slices_Equal_Term j x0 x1)) 52 (fun j x0 x1 => (slices_Equal_Term_ok j x0 x1))) (.inl rfl)) fun v1 => bind_end rfl) fun o2 => et k_lret ?_
    rfl
def law12_MatchJoins_fin : Bool → V × List V := fun r => ((Bo r), [])
theorem law12_MatchJoins_ok (k : Nat) (a0 : T_progenylaw12_Case) (a1 : (List (List T_api_Term))) : EV k 6 [(eCase a0), (V.sl 0 1 (List.map sTerm a1))] = (law12_MatchJoins k a0 a1).map law12_MatchJoins_fin := by
  cases k with
  | zero => rfl
  | succ k =>
    unfold law12_MatchJoins
    refine et (evF_succ (c := f6c) (N := 102) (regs := f6n) rfl func6 rfl (by decide) rfl rfl rfl) <| kr ⟨[(1, (V.sl 0 1 (List.map sTerm a1))), (2, (Pt 2))], [(2, vS 6 (eCase a0))], 102⟩ rfl <| et k_assoc <| kga f6a1 rfl (fun (o4 : Bool) => [(20, (Bo o4))]) ?_ fun o4 => ?_
    · refine rd 2 [(9, (Pt 2)), (10, (eBase a0.fBase))] rfl rfl <| rp rfl (p_call rfl rfl rfl rfl rfl (law12_Large_ok k a0.fBase) (.inl rfl)) fun v1 => bd 4 [(11, (Bo v1)), (12, (Bo v1))] rfl rfl <| bifE (fun hc => ?_) fun hc => ?_
      · rw [hc]
        exact reg_end rfl
      · rw [hc]
        refine rd 6 [(13, (V.ptr 2 0 5)), (14, (V.sl 0 1 (List.map sTerm a0.fWhen)))] rfl rfl <| rp rfl (p_call rfl rfl rfl rfl rfl (law12_Long_ok k a0.fWhen) (.inl rfl)) fun v2 => bd 9 [(15, (Bo v2)), (16, (Bo v2)), (17, (Bo v2))] rfl rfl <| bifE (fun hc => ?_) fun hc => ?_
        · rw [hc]
          exact reg_end rfl
        · rw [hc]
          exact rd 10 [(18, (V.sl 0 1 (List.map sTerm a1)))] rfl rfl <| rs rfl (p_call rfl rfl rfl rfl rfl (law12_Long_ok k a1) (.inl rfl)) fun v3 => bind_end rfl
    refine kc rfl rfl (fun hc => ?_) fun hc => ?_
    · rw [hc]
      refine et k_assoc <| kg f6a2 rfl (fun (o6 : Bool) => ⟨[(4, (Bo o6))], [], 102⟩) (rs rfl (p_call rfl rfl rfl rfl rfl (law12_Awake_ok k) (.inl rfl)) fun v5 => bind_end rfl) fun o6 => et k_ret ?_
      rfl
    · rw [hc]
      refine et k_skip <| kg f6a3 rfl (fun (o8 : (List (List T_api_Term)) × Int) => ⟨[(1, (V.sl 0 1 (List.map sTerm a1))), (2, (Pt 2)), (5, (V.sl 0 1 (List.map sTerm o8.1))), (6, (I o8.2))], [(2, vS 6 (eCase a0))], 102⟩) (rd 7 [(23, (Pt 2)), (24, (eBase a0.fBase)), (25, (V.ptr 2 0 4)), (26, (I a0.fType)), (27, (V.ptr 2 0 5)), (28, (V.sl 0 1 (List.map sTerm a0.fWhen))), (29, (V.sl 0 1 (List.map sTerm a1)))] rfl rfl <| rp rfl (p_call rfl rfl rfl rfl rfl (match_And_ok k a0.fBase a0.fType a0.fWhen a1) (.inl rfl)) fun v7 => bind_end rfl) fun o8 => kga f6a4 rfl (fun (o10 : (List (List T_api_Term)) × Int) => [(7, (V.sl 0 1 (List.map sTerm o10.1))), (8, (I o10.2))]) (rd 7 [(34, (Pt 2)), (35, (eBase a0.fBase)), (36, (V.ptr 2 0 4)), (37, (I a0.fType)), (38, (V.ptr 2 0 5)), (39, (V.sl 0 1 (List.map sTerm a0.fWhen))), (40, (V.sl 0 1 (List.map sTerm a1)))] rfl rfl <| rp rfl (p_call rfl rfl rfl rfl rfl (ref12_And_ok k a0.fBase a0.fType a0.fWhen a1) (.inl rfl)) fun v9 => bind_end rfl) fun o10 => et k_assoc <| kg f6a5 rfl (fun (o12 : Bool) => ⟨[(1, (V.sl 0 1 (List.map sTerm a1))), (2, (Pt 2)), (52, (Bo o12))], [(2, vS 6 (eCase a0))], 102⟩) ?_ fun o12 => ?_
      · refine rd 2 [(44, (V.sl 0 1 (List.map sTerm o8.1))), (45, (V.sl 0 1 (List.map sTerm o10.1)))] rfl rfl <| rp rfl (p_call rfl rfl rfl rfl rfl (ref12_Same_ok k o8.1 o10.1) (.inl rfl)) fun v11 => bd 5 [(46, (Bo v11)), (47, (Bo (!v11))), (48, (Bo (!v11)))] rfl rfl <| bifE (fun hc => ?_) fun hc => ?_
        · rw [hc]
          exact reg_end rfl
        · rw [hc]
          exact reg_end rfl
      refine kc rfl rfl (fun hc => ?_) fun hc => ?_
      · rw [hc]
        refine et k_assoc <| kr ⟨[(4, (Bo false))], [], 102⟩ rfl <| et k_ret ?_
        rfl
      · rw [hc]
        refine et k_skip <| kg f6a7 rfl (fun (o14 : (List (List T_api_Term)) × Int) => ⟨[(1, (V.sl 0 1 (List.map sTerm a1))), (2, (Pt 2)), (5, (V.sl 0 1 (List.map sTerm o14.1))), (6, (I o14.2))], [(2, vS 6 (eCase a0))], 102⟩) (rd 7 [(54, (Pt 2)), (55, (eBase a0.fBase)), (56, (V.ptr 2 0 4)), (57, (I a0.fType)), (58, (V.ptr 2 0 5)), (59, (V.sl 0 1 (List.map sTerm a0.fWhen))), (60, (V.sl 0 1 (List.map sTerm a1)))] rfl rfl <| rp rfl (p_call rfl rfl rfl rfl rfl (match_Or_ok k a0.fBase a0.fType a0.fWhen a1) (.inl rfl)) fun v13 => bind_end rfl) fun o14 => kga f6a8 rfl (fun (o16 : (List (List T_api_Term)) × Int) => [(7, (V.sl 0 1 (List.map sTerm o16.1))), (8, (I o16.2))]) (rd 7 [(65, (Pt 2)), (66, (eBase a0.fBase)), (67, (V.ptr 2 0 4)), (68, (I a0.fType)), (69, (V.ptr 2 0 5)), (70, (V.sl 0 1 (List.map sTerm a0.fWhen))), (71, (V.sl 0 1 (List.map sTerm a1)))] rfl rfl <| rp rfl (p_call rfl rfl rfl rfl rfl (ref12_Or_ok k a0.fBase a0.fType a0.fWhen a1) (.inl rfl)) fun v15 => bind_end rfl) fun o16 => kd f6a9 rfl (fun (o22 : Bool) => ⟨[(4, (Bo o22))], [], 102⟩) ?_ fun o22 => ?_
        · refine et (regionE_regp (p := 28) (dk := true) (t := [(1, (V.sl 0 1 (List.map sTerm a1))), (2, (Pt 2)), (5, (V.sl 0 1 (List.map sTerm o14.1))), (6, (I o14.2)), (7, (V.sl 0 1 (List.map sTerm o16.1))), (8, (I o16.2))]) (σ := [(2, vS 6 (eCase a0))]) (n := 102) rfl (by decide) (by decide) rfl) <| et (regp_adv (m := 2) (j := 2) (t' := [(1, (V.sl 0 1 (List.map sTerm a1))), (2, (Pt 2)), (5, (V.sl 0 1 (List.map sTerm o14.1))), (6, (I o14.2)), (7, (V.sl 0 1 (List.map sTerm o16.1))), (8, (I o16.2)), (75, (V.sl 0 1 (List.map sTerm o14.1))), (76, (V.sl 0 1 (List.map sTerm o16.1)))]) rfl rfl rfl) <| et (regp_pure (x := (ref12_Same k o14.1 o16.1)) (w := fun v17 => (Bo v17)) rfl rfl rfl rfl rfl (p_call rfl rfl rfl rfl rfl (ref12_Same_ok k o14.1 o16.1) (.inl rfl))) <| bindE fun v17 => et (putp_adv (m := 1) (j := 4) (t' := [(1, (V.sl 0 1 (List.map sTerm a1))), (2, (Pt 2)), (5, (V.sl 0 1 (List.map sTerm o14.1))), (6, (I o14.2)), (7, (V.sl 0 1 (List.map sTerm o16.1))), (8, (I o16.2)), (75, (V.sl 0 1 (List.map sTerm o14.1))), (76, (V.sl 0 1 (List.map sTerm o16.1))), (77, (Bo v17)), (78, (Bo v17))]) rfl rfl rfl) <| bifE (fun hc => ?_) fun hc => ?_
          · rw [hc]
            refine et (regp_adv (m := 5) (j := 9) (t' := [(1, (V.sl 0 1 (List.map sTerm a1))), (2, (Pt 2)), (5, (V.sl 0 1 (List.map sTerm o14.1))), (6, (I o14.2)), (7, (V.sl 0 1 (List.map sTerm o16.1))), (8, (I o16.2)), (75, (V.sl 0 1 (List.map sTerm o14.1))), (76, (V.sl 0 1 (List.map sTerm o16.1))), (77, (Bo true)), (78, (Bo true)), (79, (I o14.2)), (80, (I o16.2)), (81, (Bo (o14.2 == o16.2))), (82, (Bo (o14.2 == o16.2))), (83, (Bo (o14.2 == o16.2)))]) rfl rfl rfl) <| bifE (fun hc => ?_) fun hc => ?_
            · rw [hc]
              refine et (regp_adv (m := 3) (j := 12) (t' := [(1, (V.sl 0 1 (List.map sTerm a1))), (2, (Pt 2)), (5, (V.sl 0 1 (List.map sTerm o14.1))), (6, (I o14.2)), (7, (V.sl 0 1 (List.map sTerm o16.1))), (8, (I o16.2)), (75, (V.sl 0 1 (List.map sTerm o14.1))), (76, (V.sl 0 1 (List.map sTerm o16.1))), (77, (Bo true)), (78, (Bo true)), (79, (I o14.2)), (80, (I o16.2)), (81, (Bo true)), (82, (Bo true)), (83, (Bo true)), (84, (V.ptr 2 0 5)), (85, (V.sl 0 1 (List.map sTerm a0.fWhen))), (86, (V.sl 0 1 (List.map sTerm a1)))]) rfl rfl rfl) <| et (regp_pure (x := (match_Same k a0.fWhen a1)) (w := fun v18 => (Bo v18)) rfl rfl rfl rfl rfl (p_call rfl rfl rfl rfl rfl (match_Same_ok k a0.fWhen a1) (.inl rfl))) <| bindE fun v18 => et (putp_adv (m := 3) (j := 16) (t' := [(1, (V.sl 0 1 (List.map sTerm a1))), (2, (Pt 2)), (5, (V.sl 0 1 (List.map sTerm o14.1))), (6, (I o14.2)), (7, (V.sl 0 1 (List.map sTerm o16.1))), (8, (I o16.2)), (75, (V.sl 0 1 (List.map sTerm o14.1))), (76, (V.sl 0 1 (List.map sTerm o16.1))), (77, (Bo true)), (78, (Bo true)), (79, (I o14.2)), (80, (I o16.2)), (81, (Bo true)), (82, (Bo true)), (83, (Bo true)), (84, (V.ptr 2 0 5)), (85, (V.sl 0 1 (List.map sTerm a0.fWhen))), (86, (V.sl 0 1 (List.map sTerm a1))), (87, (Bo v18)), (88, (V.ptr 2 0 5)), (89, (V.sl 0 1 (List.map sTerm a0.fWhen))), (90, (V.sl 0 1 (List.map sTerm a1)))]) rfl rfl rfl) <| et (regp_pure (x := (ref12_Same k a0.fWhen a1)) (w := fun v19 => (Bo v19)) rfl rfl rfl rfl rfl (p_call rfl rfl rfl rfl rfl (ref12_Same_ok k a0.fWhen a1) (.inl rfl))) <| bindE fun v19 => et (putp_adv (m := 3) (j := 20) (t' := [(1, (V.sl 0 1 (List.map sTerm a1))), (2, (Pt 2)), (5, (V.sl 0 1 (List.map sTerm o14.1))), (6, (I o14.2)), (7, (V.sl 0 1 (List.map sTerm o16.1))), (8, (I o16.2)), (75, (V.sl 0 1 (List.map sTerm o14.1))), (76, (V.sl 0 1 (List.map sTerm o16.1))), (77, (Bo true)), (78, (Bo true)), (79, (I o14.2)), (80, (I o16.2)), (81, (Bo true)), (82, (Bo true)), (83, (Bo true)), (84, (V.ptr 2 0 5)), (85, (V.sl 0 1 (List.map sTerm a0.fWhen))), (86, (V.sl 0 1 (List.map sTerm a1))), (87, (Bo v18)), (88, (V.ptr 2 0 5)), (89, (V.sl 0 1 (List.map sTerm a0.fWhen))), (90, (V.sl 0 1 (List.map sTerm a1))), (91, (Bo v19)), (92, (Bo (v18 == v19))), (93, (Bo (v18 == v19))), (94, (Bo (v18 == v19)))]) rfl rfl rfl) <| bifE (fun hc => ?_) fun hc => ?_
              · rw [hc]
                refine et (regp_adv (m := 2) (j := 22) (t' := [(1, (V.sl 0 1 (List.map sTerm a1))), (2, (Pt 2)), (5, (V.sl 0 1 (List.map sTerm o14.1))), (6, (I o14.2)), (7, (V.sl 0 1 (List.map sTerm o16.1))), (8, (I o16.2)), (75, (V.sl 0 1 (List.map sTerm o14.1))), (76, (V.sl 0 1 (List.map sTerm o16.1))), (77, (Bo true)), (78, (Bo true)), (79, (I o14.2)), (80, (I o16.2)), (81, (Bo true)), (82, (Bo true)), (83, (Bo true)), (84, (V.ptr 2 0 5)), (85, (V.sl 0 1 (List.map sTerm a0.fWhen))), (86, (V.sl 0 1 (List.map sTerm a1))), (87, (Bo v18)), (88, (V.ptr 2 0 5)), (89, (V.sl 0 1 (List.map sTerm a0.fWhen))), (90, (V.sl 0 1 (List.map sTerm a1))), (91, (Bo v19)), (92, (Bo true)), (93, (Bo true)), (94, (Bo true)), (95, (V.sl 0 1 (List.map sTerm a1))), (96, (V.sl 0 1 (List.map sTerm a1)))]) rfl rfl rfl) <| et (regp_pure (x := (match_Same k a1 a1)) (w := fun v20 => (Bo v20)) rfl rfl rfl rfl rfl (p_call rfl rfl rfl rfl rfl (match_Same_ok k a1 a1) (.inl rfl))) <| bindE fun v20 => et (putp_adv (m := 2) (j := 25) (t' := [(1, (V.sl 0 1 (List.map sTerm a1))), (2, (Pt 2)), (5, (V.sl 0 1 (List.map sTerm o14.1))), (6, (I o14.2)), (7, (V.sl 0 1 (List.map sTerm o16.1))), (8, (I o16.2)), (75, (V.sl 0 1 (List.map sTerm o14.1))), (76, (V.sl 0 1 (List.map sTerm o16.1))), (77, (Bo true)), (78, (Bo true)), (79, (I o14.2)), (80, (I o16.2)), (81, (Bo true)), (82, (Bo true)), (83, (Bo true)), (84, (V.ptr 2 0 5)), (85, (V.sl 0 1 (List.map sTerm a0.fWhen))), (86, (V.sl 0 1 (List.map sTerm a1))), (87, (Bo v18)), (88, (V.ptr 2 0 5)), (89, (V.sl 0 1 (List.map sTerm a0.fWhen))), (90, (V.sl 0 1 (List.map sTerm a1))), (91, (Bo v19)), (92, (Bo true)), (93, (Bo true)), (94, (Bo true)), (95, (V.sl 0 1 (List.map sTerm a1))), (96, (V.sl 0 1 (List.map sTerm a1))), (97, (Bo v20)), (98, (Bo v20)), (99, (Bo v20))]) rfl rfl rfl) <| bifE (fun hc => ?_) fun hc => ?_
                · rw [hc]
                  exact et (regp_pure (x := (law12_Awake k)) (w := fun v21 => (Bo v21)) rfl rfl rfl rfl rfl (p_call rfl rfl rfl rfl rfl (law12_Awake_ok k) (.inl rfl))) <| bind_self fun v21 => regp_end rfl
                · rw [hc]
                  exact regp_end rfl
              · rw [hc]
                exact regp_end rfl
            · rw [hc]
              exact regp_end rfl
          · rw [hc]
            exact regp_end rfl
        refine et k_lret ?_
        rfl
end
end Go.AE
