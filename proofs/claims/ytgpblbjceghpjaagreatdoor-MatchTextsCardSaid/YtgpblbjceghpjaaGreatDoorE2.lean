/- The program, function by function: the evaluator comes to the typed functions. Conditions: none. -/
import Derived.Test.YtgpblbjceghpjaaGreatDoorA3
import Derived.KernelRfl
import Derived.Test.YtgpblbjceghpjaaGreatDoorProg
import Derived.Test.YtgpblbjceghpjaaGreatDoorB1
import Derived.Test.YtgpblbjceghpjaaGreatDoorE1
namespace Go.AE
open Go.Proofs.Tryz Go.Sh
set_option linter.unusedSimpArgs false
set_option linter.unusedVariables false
set_option maxRecDepth 100000
set_option maxHeartbeats 4000000
noncomputable section
theorem ref11_Valid_L2_ok (k : Nat) (a0 : T_api_Base) (x20 : Int) (o22 : T_api_Type)  (K0 : Int → Option Bool) (Kst : X × St → Option (V × List V)) (hK0 : ∀ (y0 : Int), Kst (X.exit 2, ⟨[(1, (Pt 1)), (3, (I x20)), (4, (Pt 4)), (5, (I y0)), (81, (Bo false))], [(1, vS 4 (eBase a0)), (4, vS 8 (eType o22))], 232⟩) = (K0 y0).map ref11_Valid_fin) (hret : ∀ s, Kst (X.ret, s) = endK prog 232 [(eBase a0)] [] [.tmp 2] (X.ret, s)) :
    ∀ (m : Nat) (x28 : Int), (iter (exec prog (EV k) f48n k f48b0) m ⟨[(1, (Pt 1)), (3, (I x20)), (4, (Pt 4)), (5, (I x28))], [(1, vS 4 (eBase a0)), (4, vS 8 (eType o22))], 232⟩).bind Kst = (ref11_Valid_L2 a0 x20 o22 K0 m x28).map ref11_Valid_fin := by
  intro m
  induction m with
  | zero => intros; rfl
  | succ m ih =>
    intro x28
    unfold ref11_Valid_L2
    refine et k_round <| et k_assoc <| kra [(81, (Bo (decide (x28 < x20))))] rfl <| kc rfl rfl (fun hc => ?_) fun hc => ?_
    · rw [hc]
      refine et k_skip <| et (k_block rfl) <| kd f48a12 rfl (fun (o30 : Bool) => ⟨[(1, (Pt 1)), (3, (I x20)), (4, (Pt 4)), (5, (I x28)), (92, (Bo o30))], [(1, vS 4 (eBase a0)), (4, vS 8 (eType o22))], 232⟩) (et (regionE_regp (p := 9) (dk := true) (t := [(1, (Pt 1)), (3, (I x20)), (4, (Pt 4)), (5, (I x28)), (81, (Bo true))]) (σ := [(1, vS 4 (eBase a0)), (4, vS 8 (eType o22))]) (n := 232) rfl (by decide) (by decide) rfl) <| et (regp_adv (m := 3) (j := 3) (t' := [(1, (Pt 1)), (3, (I x20)), (4, (Pt 4)), (5, (I x28)), (81, (Bo true)), (84, (V.ptr 1 0 2)), (85, (sType a0.fTypes)), (86, (I x28))]) rfl rfl rfl) <| et (regp_pure (x := (idx a0.fTypes x28)) (w := fun v29 => (Pr (eType v29))) rfl rfl rfl rfl rfl (p_index (e := eType) rfl rfl rfl underlying22 rfl (by decide))) <| bindE fun v29 => regp_end rfl) fun o30 => kcl rfl rfl (fun hc => ?_) fun hc => ?_
      · rw [hc]
        refine kr ⟨[(2, (Bo false))], [], 232⟩ rfl <| et k_lret <| et blk_ret <| et loop_ret <| et (hret _) ?_
        rfl
      · rw [hc]
        exact et k_lskip <| et blk_normal <| kl ⟨[(1, (Pt 1)), (3, (I x20)), (4, (Pt 4)), (5, (I (Go.IntKind.wrap .i64 (x28 + 1))))], [(1, vS 4 (eBase a0)), (4, vS 8 (eType o22))], 232⟩ rfl <| et loop_normal <| ih (Go.IntKind.wrap .i64 (x28 + 1))
    · rw [hc]
      exact et k_exit <| et loop_exit <| hK0 x28
theorem ref11_Valid_L1_ok (k : Nat) (a0 : T_api_Base)  (K0 : Int → Option Bool) (Kst : X × St → Option (V × List V)) (hK0 : ∀ (y0 : Int), Kst (X.exit 0, ⟨[(1, (Pt 1)), (3, (I y0)), (45, (Bo false))], [(1, vS 4 (eBase a0))], 232⟩) = (K0 y0).map ref11_Valid_fin) (hret : ∀ s, Kst (X.ret, s) = endK prog 232 [(eBase a0)] [] [.tmp 2] (X.ret, s)) :
    ∀ (m : Nat) (x20 : Int), (iter (exec prog (EV k) f48n k f48b1) m ⟨[(1, (Pt 1)), (3, (I x20))], [(1, vS 4 (eBase a0))], 232⟩).bind Kst = (ref11_Valid_L1 k a0 K0 m x20).map ref11_Valid_fin := by
  intro m
  induction m with
  | zero => intros; rfl
  | succ m ih =>
    intro x20
    unfold ref11_Valid_L1
    refine et k_round <| et k_assoc <| krp f48a4 rfl ⟨[(1, (Pt 1)), (3, (I x20)), (45, (Bo (decide (x20 < (a0.fTypes.length : Int)))))], [(1, vS 4 (eBase a0))], 232⟩ ?_ ?_
    · exact rd 3 [(41, (I x20)), (42, (V.ptr 1 0 2)), (43, (sType a0.fTypes))] rfl rfl <| rl rfl (p_len (e := eType) rfl rfl rfl rfl rfl rfl underlying22) <| bind_end rfl
    refine kc rfl rfl (fun hc => ?_) fun hc => ?_
    · rw [hc]
      refine et k_skip <| et (k_block rfl) <| kg f48a6 rfl (fun (o22 : T_api_Type) => ⟨[(1, (Pt 1)), (3, (I x20)), (4, (Pt 4))], [(1, vS 4 (eBase a0)), (4, vS 8 (eType o22))], 232⟩) (rd 3 [(48, (V.ptr 1 0 2)), (49, (sType a0.fTypes)), (50, (I x20))] rfl rfl <| rs rfl (p_index (e := eType) rfl rfl rfl underlying22 rfl (by decide)) fun v21 => bind_end rfl) fun o22 => et k_assoc <| kga f48a7 rfl (fun (o25 : Bool) => [(78, (Bo o25))]) ?_ fun o25 => ?_
      · refine rd 2 [(53, (Pt 4)), (54, (Sr o22.fName))] rfl rfl <| rp rfl (p_call rfl rfl rfl rfl rfl (ref11_IsName_ok k o22.fName) (.inl rfl)) fun v23 => bd 5 [(55, (Bo v23)), (56, (Bo (!v23))), (57, (Bo (!v23)))] rfl rfl <| bifE (fun hc => ?_) fun hc => ?_
        · rw [hc]
          exact reg_end rfl
        · rw [hc]
          refine rd 10 [(58, (V.ptr 4 0 2)), (59, (I o22.fMin)), (60, (Bo (decide (o22.fMin < 1)))), (61, (Bo (decide (o22.fMin < 1)))), (62, (Bo (decide (o22.fMin < 1))))] rfl rfl <| bifE (fun hc => ?_) fun hc => ?_
          · rw [hc]
            exact reg_end rfl
          · rw [hc]
            refine rd 17 [(63, (V.ptr 4 0 2)), (64, (I o22.fMin)), (65, (V.ptr 4 0 3)), (66, (I o22.fSize)), (67, (Bo (decide (o22.fMin > o22.fSize)))), (68, (Bo (decide (o22.fMin > o22.fSize)))), (69, (Bo (decide (o22.fMin > o22.fSize))))] rfl rfl <| bifE (fun hc => ?_) fun hc => ?_
            · rw [hc]
              exact reg_end rfl
            · rw [hc]
              refine rd 22 [(70, (V.ptr 4 0 3)), (71, (I o22.fSize)), (72, (Bo (decide (o22.fSize > 40)))), (73, (Bo (decide (o22.fSize > 40)))), (74, (Bo (decide (o22.fSize > 40))))] rfl rfl <| bifE (fun hc => ?_) fun hc => ?_
              · rw [hc]
                exact reg_end rfl
              · rw [hc]
                exact rd 23 [(75, (eType o22))] rfl rfl <| rp rfl (p_call rfl rfl rfl rfl rfl (ref11_fields_ok k o22) (.inl rfl)) fun v24 => bind_end rfl
      refine kc rfl rfl (fun hc => ?_) fun hc => ?_
      · rw [hc]
        refine et k_assoc <| kr ⟨[(2, (Bo false))], [], 232⟩ rfl <| et k_ret <| et blk_ret <| et loop_ret <| et (hret _) ?_
        rfl
      · rw [hc]
        refine et k_skip <| et k_assoc <| kr ⟨[(1, (Pt 1)), (3, (I x20)), (4, (Pt 4)), (5, (I 0))], [(1, vS 4 (eBase a0)), (4, vS 8 (eType o22))], 232⟩ rfl <| et (k_block rfl) <| et k_loop ?_
        refine ref11_Valid_L2_ok k a0 x20 o22 _ _ ?h_ref11_Valid_L2_0 ?hr_ref11_Valid_L2 k 0
        · intro y31
          refine et blk_exit <| et k_assoc <| kr ⟨[(1, (Pt 1)), (3, (I x20)), (4, (Pt 4)), (94, (Bo (x20 == 0)))], [(1, vS 4 (eBase a0)), (4, vS 8 (eType o22))], 232⟩ rfl <| kc rfl rfl (fun hc => ?_) fun hc => ?_
          · rw [hc]
            refine et k_assoc <| et k_assoc <| kg f48a15 rfl (fun (o33 : Bool) => ⟨[(1, (Pt 1)), (3, (I x20)), (117, (Bo o33))], [(1, vS 4 (eBase a0))], 232⟩) ?_ fun o33 => ?_
            · refine rd 4 [(95, (V.ptr 4 0 1)), (96, (I o22.fParent)), (97, (Bo (o22.fParent != (-1)))), (98, (Bo (o22.fParent != (-1))))] rfl rfl <| bifE (fun hc => ?_) fun hc => ?_
              · rw [hc]
                exact reg_end rfl
              · rw [hc]
                refine rd 9 [(99, (V.ptr 4 0 5)), (100, (I o22.fKey)), (101, (Bo (decide (o22.fKey < 0)))), (102, (Bo (decide (o22.fKey < 0)))), (103, (Bo (decide (o22.fKey < 0))))] rfl rfl <| bifE (fun hc => ?_) fun hc => ?_
                · rw [hc]
                  exact reg_end rfl
                · rw [hc]
                  refine rd 14 [(104, (V.ptr 4 0 6)), (105, (Bo o22.fUnique)), (106, (Bo (!o22.fUnique))), (107, (Bo (!o22.fUnique))), (108, (Bo (!o22.fUnique)))] rfl rfl <| bifE (fun hc => ?_) fun hc => ?_
                  · rw [hc]
                    exact reg_end rfl
                  · rw [hc]
                    exact rd 18 [(109, (V.ptr 4 0 4)), (110, (sField o22.fFields)), (111, (V.ptr 4 0 5)), (112, (I o22.fKey))] rfl rfl <| rp rfl (p_index (e := eField) rfl rfl rfl underlying39 rfl (by decide)) fun v32 => bind_end rfl
            refine kc rfl rfl (fun hc => ?_) fun hc => ?_
            · rw [hc]
              refine et k_assoc <| kr ⟨[(2, (Bo false))], [], 232⟩ rfl <| et k_ret <| et blk_ret <| et loop_ret <| et (hret _) ?_
              rfl
            · rw [hc]
              exact et k_skip <| et k_exit <| et blk_exit <| kl ⟨[(1, (Pt 1)), (3, (I (Go.IntKind.wrap .i64 (x20 + 1))))], [(1, vS 4 (eBase a0))], 232⟩ rfl <| et loop_normal <| ih (Go.IntKind.wrap .i64 (x20 + 1))
          · rw [hc]
            refine et k_skip <| kg f48a17 rfl (fun (o37 : Bool) => ⟨[(1, (Pt 1)), (3, (I x20)), (149, (Bo o37))], [(1, vS 4 (eBase a0))], 232⟩) ?_ fun o37 => ?_
            · refine rd 4 [(118, (V.ptr 4 0 1)), (119, (I o22.fParent)), (120, (Bo (decide (o22.fParent < 0)))), (121, (Bo (decide (o22.fParent < 0))))] rfl rfl <| bifE (fun hc => ?_) fun hc => ?_
              · rw [hc]
                exact reg_end rfl
              · rw [hc]
                refine rd 10 [(122, (V.ptr 4 0 1)), (123, (I o22.fParent)), (124, (I x20)), (125, (Bo (decide (o22.fParent ≥ x20)))), (126, (Bo (decide (o22.fParent ≥ x20)))), (127, (Bo (decide (o22.fParent ≥ x20))))] rfl rfl <| bifE (fun hc => ?_) fun hc => ?_
                · rw [hc]
                  exact reg_end rfl
                · rw [hc]
                  refine rd 16 [(128, (V.ptr 4 0 1)), (129, (I o22.fParent)), (130, (I x20)), (131, (I (Go.IntKind.wrap .i64 (x20 - 1)))), (132, (Bo (o22.fParent != (Go.IntKind.wrap .i64 (x20 - 1))))), (133, (Bo (o22.fParent != (Go.IntKind.wrap .i64 (x20 - 1)))))] rfl rfl <| bifE (fun hc => ?_) fun hc => ?_
                  · rw [hc]
                    refine rd 21 [(134, (eBase a0)), (135, (V.ptr 4 0 1)), (136, (I o22.fParent)), (137, (I x20)), (138, (I (Go.IntKind.wrap .i64 (x20 - 1))))] rfl rfl <| rp rfl (p_call rfl rfl rfl rfl rfl (ref11_above_ok k a0 o22.fParent (Go.IntKind.wrap .i64 (x20 - 1))) (.inl rfl)) fun v34 => bd 26 [(139, (Bo v34)), (140, (Bo (!v34))), (141, (Bo (!v34))), (142, (Bo (!v34))), (143, (Bo (!v34)))] rfl rfl <| bifE (fun hc => ?_) fun hc => ?_
                    · rw [hc]
                      exact reg_end rfl
                    · rw [hc]
                      exact rd 28 [(144, (eBase a0)), (145, (I x20))] rfl rfl <| rp rfl (p_call rfl rfl rfl rfl rfl (ref11_way_ok k a0 x20) (.inl rfl)) fun v35 => bd 29 [(146, (sI v35))] rfl rfl <| rl rfl (p_len (e := I) rfl rfl rfl rfl rfl rfl underlying110) <| bind_end rfl
                  · rw [hc]
                    exact rd 28 [(134, (V.tup [])), (135, (V.tup [])), (136, (V.tup [])), (137, (V.tup [])), (138, (V.tup [])), (139, (V.tup [])), (140, (V.tup [])), (141, (Bo false)), (142, (Bo false)), (143, (Bo false)), (144, (eBase a0)), (145, (I x20))] rfl rfl <| rp rfl (p_call rfl rfl rfl rfl rfl (ref11_way_ok k a0 x20) (.inl rfl)) fun v36 => bd 29 [(146, (sI v36))] rfl rfl <| rl rfl (p_len (e := I) rfl rfl rfl rfl rfl rfl underlying110) <| bind_end rfl
            refine kcl rfl rfl (fun hc => ?_) fun hc => ?_
            · rw [hc]
              refine kr ⟨[(2, (Bo false))], [], 232⟩ rfl <| et k_lret <| et blk_ret <| et loop_ret <| et (hret _) ?_
              rfl
            · rw [hc]
              exact et k_lskip <| et blk_normal <| kl ⟨[(1, (Pt 1)), (3, (I (Go.IntKind.wrap .i64 (x20 + 1))))], [(1, vS 4 (eBase a0))], 232⟩ rfl <| et loop_normal <| ih (Go.IntKind.wrap .i64 (x20 + 1))
        · intro s; exact hret s
    · rw [hc]
      exact et k_exit <| et loop_exit <| hK0 x20
theorem ref11_Valid_L4_ok (k : Nat) (a0 : T_api_Base) (x52 : Int) (o54 : T_api_Search)  (K0 : Int → Option Bool) (Kst : X × St → Option (V × List V)) (hK0 : ∀ (y0 : Int), Kst (X.exit 6, ⟨[(1, (Pt 1)), (6, (I x52)), (7, (Pt 7)), (8, (I y0)), (220, (Bo false))], [(1, vS 4 (eBase a0)), (7, vS 4 (eSearch o54))], 232⟩) = (K0 y0).map ref11_Valid_fin) (hret : ∀ s, Kst (X.ret, s) = endK prog 232 [(eBase a0)] [] [.tmp 2] (X.ret, s)) :
    ∀ (m : Nat) (x62 : Int), (iter (exec prog (EV k) f48n k f48b2) m ⟨[(1, (Pt 1)), (6, (I x52)), (7, (Pt 7)), (8, (I x62))], [(1, vS 4 (eBase a0)), (7, vS 4 (eSearch o54))], 232⟩).bind Kst = (ref11_Valid_L4 a0 x52 o54 K0 m x62).map ref11_Valid_fin := by
  intro m
  induction m with
  | zero => intros; rfl
  | succ m ih =>
    intro x62
    unfold ref11_Valid_L4
    refine et k_round <| et k_assoc <| kra [(220, (Bo (decide (x62 < x52))))] rfl <| kc rfl rfl (fun hc => ?_) fun hc => ?_
    · rw [hc]
      refine et k_skip <| et (k_block rfl) <| kd f48a28 rfl (fun (o64 : Bool) => ⟨[(1, (Pt 1)), (6, (I x52)), (7, (Pt 7)), (8, (I x62)), (231, (Bo o64))], [(1, vS 4 (eBase a0)), (7, vS 4 (eSearch o54))], 232⟩) (et (regionE_regp (p := 9) (dk := true) (t := [(1, (Pt 1)), (6, (I x52)), (7, (Pt 7)), (8, (I x62)), (220, (Bo true))]) (σ := [(1, vS 4 (eBase a0)), (7, vS 4 (eSearch o54))]) (n := 232) rfl (by decide) (by decide) rfl) <| et (regp_adv (m := 3) (j := 3) (t' := [(1, (Pt 1)), (6, (I x52)), (7, (Pt 7)), (8, (I x62)), (220, (Bo true)), (223, (V.ptr 1 0 3)), (224, (sSearch a0.fIndexes)), (225, (I x62))]) rfl rfl rfl) <| et (regp_pure (x := (idx a0.fIndexes x62)) (w := fun v63 => (Pr (eSearch v63))) rfl rfl rfl rfl rfl (p_index (e := eSearch) rfl rfl rfl underlying23 rfl (by decide))) <| bindE fun v63 => regp_end rfl) fun o64 => kcl rfl rfl (fun hc => ?_) fun hc => ?_
      · rw [hc]
        refine kr ⟨[(2, (Bo false))], [], 232⟩ rfl <| et k_lret <| et blk_ret <| et loop_ret <| et (hret _) ?_
        rfl
      · rw [hc]
        exact et k_lskip <| et blk_normal <| kl ⟨[(1, (Pt 1)), (6, (I x52)), (7, (Pt 7)), (8, (I (Go.IntKind.wrap .i64 (x62 + 1))))], [(1, vS 4 (eBase a0)), (7, vS 4 (eSearch o54))], 232⟩ rfl <| et loop_normal <| ih (Go.IntKind.wrap .i64 (x62 + 1))
    · rw [hc]
      exact et k_exit <| et loop_exit <| hK0 x62
theorem ref11_Valid_L3_ok (k : Nat) (a0 : T_api_Base)  (K0 : Int → Option Bool) (Kst : X × St → Option (V × List V)) (hK0 : ∀ (y0 : Int), Kst (X.exit 4, ⟨[(1, (Pt 1)), (6, (I y0)), (154, (Bo false))], [(1, vS 4 (eBase a0))], 232⟩) = (K0 y0).map ref11_Valid_fin) (hret : ∀ s, Kst (X.ret, s) = endK prog 232 [(eBase a0)] [] [.tmp 2] (X.ret, s)) :
    ∀ (m : Nat) (x52 : Int), (iter (exec prog (EV k) f48n k f48b3) m ⟨[(1, (Pt 1)), (6, (I x52))], [(1, vS 4 (eBase a0))], 232⟩).bind Kst = (ref11_Valid_L3 k a0 K0 m x52).map ref11_Valid_fin := by
  intro m
  induction m with
  | zero => intros; rfl
  | succ m ih =>
    intro x52
    unfold ref11_Valid_L3
    refine et k_round <| et k_assoc <| krp f48a20 rfl ⟨[(1, (Pt 1)), (6, (I x52)), (154, (Bo (decide (x52 < (a0.fIndexes.length : Int)))))], [(1, vS 4 (eBase a0))], 232⟩ ?_ ?_
    · exact rd 3 [(150, (I x52)), (151, (V.ptr 1 0 3)), (152, (sSearch a0.fIndexes))] rfl rfl <| rl rfl (p_len (e := eSearch) rfl rfl rfl rfl rfl rfl underlying23) <| bind_end rfl
    refine kc rfl rfl (fun hc => ?_) fun hc => ?_
    · rw [hc]
      refine et k_skip <| et (k_block rfl) <| kg f48a22 rfl (fun (o54 : T_api_Search) => ⟨[(1, (Pt 1)), (6, (I x52)), (7, (Pt 7))], [(1, vS 4 (eBase a0)), (7, vS 4 (eSearch o54))], 232⟩) (rd 3 [(157, (V.ptr 1 0 3)), (158, (sSearch a0.fIndexes)), (159, (I x52))] rfl rfl <| rs rfl (p_index (e := eSearch) rfl rfl rfl underlying23 rfl (by decide)) fun v53 => bind_end rfl) fun o54 => et k_assoc <| kd f48a23 rfl (fun (o59 : Bool) => ⟨[(1, (Pt 1)), (6, (I x52)), (7, (Pt 7)), (217, (Bo o59))], [(1, vS 4 (eBase a0)), (7, vS 4 (eSearch o54))], 232⟩) ?_ fun o59 => ?_
      · refine et (regionE_regp (p := 56) (dk := true) (t := [(1, (Pt 1)), (6, (I x52)), (7, (Pt 7))]) (σ := [(1, vS 4 (eBase a0)), (7, vS 4 (eSearch o54))]) (n := 232) rfl (by decide) (by decide) rfl) <| et (regp_adv (m := 2) (j := 2) (t' := [(1, (Pt 1)), (6, (I x52)), (7, (Pt 7)), (162, (Pt 7)), (163, (Sr o54.fName))]) rfl rfl rfl) <| et (regp_pure (x := (ref11_IsName k o54.fName)) (w := fun v55 => (Bo v55)) rfl rfl rfl rfl rfl (p_call rfl rfl rfl rfl rfl (ref11_IsName_ok k o54.fName) (.inl rfl))) <| bindE fun v55 => et (putp_adv (m := 2) (j := 5) (t' := [(1, (Pt 1)), (6, (I x52)), (7, (Pt 7)), (162, (Pt 7)), (163, (Sr o54.fName)), (164, (Bo v55)), (165, (Bo (!v55))), (166, (Bo (!v55)))]) rfl rfl rfl) <| bifE (fun hc => ?_) fun hc => ?_
        · rw [hc]
          exact regp_end rfl
        · rw [hc]
          refine et (regp_adv (m := 5) (j := 10) (t' := [(1, (Pt 1)), (6, (I x52)), (7, (Pt 7)), (162, (Pt 7)), (163, (Sr o54.fName)), (164, (Bo v55)), (165, (Bo false)), (166, (Bo false)), (167, (V.ptr 7 0 1)), (168, (I o54.fType)), (169, (Bo (decide (o54.fType < 0)))), (170, (Bo (decide (o54.fType < 0)))), (171, (Bo (decide (o54.fType < 0))))]) rfl rfl rfl) <| bifE (fun hc => ?_) fun hc => ?_
          · rw [hc]
            exact regp_end rfl
          · rw [hc]
            refine et (regp_adv (m := 4) (j := 14) (t' := [(1, (Pt 1)), (6, (I x52)), (7, (Pt 7)), (162, (Pt 7)), (163, (Sr o54.fName)), (164, (Bo v55)), (165, (Bo false)), (166, (Bo false)), (167, (V.ptr 7 0 1)), (168, (I o54.fType)), (169, (Bo false)), (170, (Bo false)), (171, (Bo false)), (172, (V.ptr 7 0 1)), (173, (I o54.fType)), (174, (V.ptr 1 0 2)), (175, (sType a0.fTypes))]) rfl rfl rfl) <| et (regp_pure (x := some ()) (w := fun _ => (I (a0.fTypes.length : Int))) rfl rfl rfl rfl rfl (p_len (e := eType) rfl rfl rfl rfl rfl rfl underlying22)) <| et some_bind <| et (putp_adv (m := 3) (j := 18) (t' := [(1, (Pt 1)), (6, (I x52)), (7, (Pt 7)), (162, (Pt 7)), (163, (Sr o54.fName)), (164, (Bo v55)), (165, (Bo false)), (166, (Bo false)), (167, (V.ptr 7 0 1)), (168, (I o54.fType)), (169, (Bo false)), (170, (Bo false)), (171, (Bo false)), (172, (V.ptr 7 0 1)), (173, (I o54.fType)), (174, (V.ptr 1 0 2)), (175, (sType a0.fTypes)), (176, (I (a0.fTypes.length : Int))), (177, (Bo (decide (o54.fType ≥ (a0.fTypes.length : Int))))), (178, (Bo (decide (o54.fType ≥ (a0.fTypes.length : Int))))), (179, (Bo (decide (o54.fType ≥ (a0.fTypes.length : Int)))))]) rfl rfl rfl) <| bifE (fun hc => ?_) fun hc => ?_
            · rw [hc]
              exact regp_end rfl
            · rw [hc]
              refine et (regp_adv (m := 5) (j := 23) (t' := [(1, (Pt 1)), (6, (I x52)), (7, (Pt 7)), (162, (Pt 7)), (163, (Sr o54.fName)), (164, (Bo v55)), (165, (Bo false)), (166, (Bo false)), (167, (V.ptr 7 0 1)), (168, (I o54.fType)), (169, (Bo false)), (170, (Bo false)), (171, (Bo false)), (172, (V.ptr 7 0 1)), (173, (I o54.fType)), (174, (V.ptr 1 0 2)), (175, (sType a0.fTypes)), (176, (I (a0.fTypes.length : Int))), (177, (Bo false)), (178, (Bo false)), (179, (Bo false)), (180, (V.ptr 7 0 2)), (181, (I o54.fField)), (182, (Bo (decide (o54.fField < 0)))), (183, (Bo (decide (o54.fField < 0)))), (184, (Bo (decide (o54.fField < 0))))]) rfl rfl rfl) <| bifE (fun hc => ?_) fun hc => ?_
              · rw [hc]
                exact regp_end rfl
              · rw [hc]
                refine et (regp_adv (m := 6) (j := 29) (t' := [(1, (Pt 1)), (6, (I x52)), (7, (Pt 7)), (162, (Pt 7)), (163, (Sr o54.fName)), (164, (Bo v55)), (165, (Bo false)), (166, (Bo false)), (167, (V.ptr 7 0 1)), (168, (I o54.fType)), (169, (Bo false)), (170, (Bo false)), (171, (Bo false)), (172, (V.ptr 7 0 1)), (173, (I o54.fType)), (174, (V.ptr 1 0 2)), (175, (sType a0.fTypes)), (176, (I (a0.fTypes.length : Int))), (177, (Bo false)), (178, (Bo false)), (179, (Bo false)), (180, (V.ptr 7 0 2)), (181, (I o54.fField)), (182, (Bo false)), (183, (Bo false)), (184, (Bo false)), (185, (V.ptr 7 0 2)), (186, (I o54.fField)), (187, (V.ptr 1 0 2)), (188, (sType a0.fTypes)), (189, (V.ptr 7 0 1)), (190, (I o54.fType))]) rfl rfl rfl) <| et (regp_pure (x := (idx a0.fTypes o54.fType)) (w := fun v56 => (Pr (eType v56))) rfl rfl rfl rfl rfl (p_index (e := eType) rfl rfl rfl underlying22 rfl (by decide))) <| bindE fun v56 => et (putp_adv (m := 2) (j := 32) (t' := [(1, (Pt 1)), (6, (I x52)), (7, (Pt 7)), (162, (Pt 7)), (163, (Sr o54.fName)), (164, (Bo v55)), (165, (Bo false)), (166, (Bo false)), (167, (V.ptr 7 0 1)), (168, (I o54.fType)), (169, (Bo false)), (170, (Bo false)), (171, (Bo false)), (172, (V.ptr 7 0 1)), (173, (I o54.fType)), (174, (V.ptr 1 0 2)), (175, (sType a0.fTypes)), (176, (I (a0.fTypes.length : Int))), (177, (Bo false)), (178, (Bo false)), (179, (Bo false)), (180, (V.ptr 7 0 2)), (181, (I o54.fField)), (182, (Bo false)), (183, (Bo false)), (184, (Bo false)), (185, (V.ptr 7 0 2)), (186, (I o54.fField)), (187, (V.ptr 1 0 2)), (188, (sType a0.fTypes)), (189, (V.ptr 7 0 1)), (190, (I o54.fType)), (191, (Pr (eType v56))), (192, (Pr (sField v56.fFields))), (193, (sField v56.fFields))]) rfl rfl rfl) <| et (regp_pure (x := some ()) (w := fun _ => (I (v56.fFields.length : Int))) rfl rfl rfl rfl rfl (p_len (e := eField) rfl rfl rfl rfl rfl rfl underlying39)) <| et some_bind <| et (putp_adv (m := 3) (j := 36) (t' := [(1, (Pt 1)), (6, (I x52)), (7, (Pt 7)), (162, (Pt 7)), (163, (Sr o54.fName)), (164, (Bo v55)), (165, (Bo false)), (166, (Bo false)), (167, (V.ptr 7 0 1)), (168, (I o54.fType)), (169, (Bo false)), (170, (Bo false)), (171, (Bo false)), (172, (V.ptr 7 0 1)), (173, (I o54.fType)), (174, (V.ptr 1 0 2)), (175, (sType a0.fTypes)), (176, (I (a0.fTypes.length : Int))), (177, (Bo false)), (178, (Bo false)), (179, (Bo false)), (180, (V.ptr 7 0 2)), (181, (I o54.fField)), (182, (Bo false)), (183, (Bo false)), (184, (Bo false)), (185, (V.ptr 7 0 2)), (186, (I o54.fField)), (187, (V.ptr 1 0 2)), (188, (sType a0.fTypes)), (189, (V.ptr 7 0 1)), (190, (I o54.fType)), (191, (Pr (eType v56))), (192, (Pr (sField v56.fFields))), (193, (sField v56.fFields)), (194, (I (v56.fFields.length : Int))), (195, (Bo (decide (o54.fField ≥ (v56.fFields.length : Int))))), (196, (Bo (decide (o54.fField ≥ (v56.fFields.length : Int))))), (197, (Bo (decide (o54.fField ≥ (v56.fFields.length : Int)))))]) rfl rfl rfl) <| bifE (fun hc => ?_) fun hc => ?_
                · rw [hc]
                  exact regp_end rfl
                · rw [hc]
                  refine et (regp_adv (m := 4) (j := 40) (t' := [(1, (Pt 1)), (6, (I x52)), (7, (Pt 7)), (162, (Pt 7)), (163, (Sr o54.fName)), (164, (Bo v55)), (165, (Bo false)), (166, (Bo false)), (167, (V.ptr 7 0 1)), (168, (I o54.fType)), (169, (Bo false)), (170, (Bo false)), (171, (Bo false)), (172, (V.ptr 7 0 1)), (173, (I o54.fType)), (174, (V.ptr 1 0 2)), (175, (sType a0.fTypes)), (176, (I (a0.fTypes.length : Int))), (177, (Bo false)), (178, (Bo false)), (179, (Bo false)), (180, (V.ptr 7 0 2)), (181, (I o54.fField)), (182, (Bo false)), (183, (Bo false)), (184, (Bo false)), (185, (V.ptr 7 0 2)), (186, (I o54.fField)), (187, (V.ptr 1 0 2)), (188, (sType a0.fTypes)), (189, (V.ptr 7 0 1)), (190, (I o54.fType)), (191, (Pr (eType v56))), (192, (Pr (sField v56.fFields))), (193, (sField v56.fFields)), (194, (I (v56.fFields.length : Int))), (195, (Bo false)), (196, (Bo false)), (197, (Bo false)), (198, (V.ptr 1 0 2)), (199, (sType a0.fTypes)), (200, (V.ptr 7 0 1)), (201, (I o54.fType))]) rfl rfl rfl) <| et (regp_pure (x := (idx a0.fTypes o54.fType)) (w := fun v57 => (Pr (eType v57))) rfl rfl rfl rfl rfl (p_index (e := eType) rfl rfl rfl underlying22 rfl (by decide))) <| bindE fun v57 => et (putp_adv (m := 4) (j := 45) (t' := [(1, (Pt 1)), (6, (I x52)), (7, (Pt 7)), (162, (Pt 7)), (163, (Sr o54.fName)), (164, (Bo v55)), (165, (Bo false)), (166, (Bo false)), (167, (V.ptr 7 0 1)), (168, (I o54.fType)), (169, (Bo false)), (170, (Bo false)), (171, (Bo false)), (172, (V.ptr 7 0 1)), (173, (I o54.fType)), (174, (V.ptr 1 0 2)), (175, (sType a0.fTypes)), (176, (I (a0.fTypes.length : Int))), (177, (Bo false)), (178, (Bo false)), (179, (Bo false)), (180, (V.ptr 7 0 2)), (181, (I o54.fField)), (182, (Bo false)), (183, (Bo false)), (184, (Bo false)), (185, (V.ptr 7 0 2)), (186, (I o54.fField)), (187, (V.ptr 1 0 2)), (188, (sType a0.fTypes)), (189, (V.ptr 7 0 1)), (190, (I o54.fType)), (191, (Pr (eType v56))), (192, (Pr (sField v56.fFields))), (193, (sField v56.fFields)), (194, (I (v56.fFields.length : Int))), (195, (Bo false)), (196, (Bo false)), (197, (Bo false)), (198, (V.ptr 1 0 2)), (199, (sType a0.fTypes)), (200, (V.ptr 7 0 1)), (201, (I o54.fType)), (202, (Pr (eType v57))), (203, (Pr (sField v57.fFields))), (204, (sField v57.fFields)), (205, (V.ptr 7 0 2)), (206, (I o54.fField))]) rfl rfl rfl) <| et (regp_pure (x := (idx v57.fFields o54.fField)) (w := fun v58 => (Pr (eField v58))) rfl rfl rfl rfl rfl (p_index (e := eField) rfl rfl rfl underlying39 rfl (by decide))) <| bindE fun v58 => et (putp_adv (m := 5) (j := 51) (t' := [(1, (Pt 1)), (6, (I x52)), (7, (Pt 7)), (162, (Pt 7)), (163, (Sr o54.fName)), (164, (Bo v55)), (165, (Bo false)), (166, (Bo false)), (167, (V.ptr 7 0 1)), (168, (I o54.fType)), (169, (Bo false)), (170, (Bo false)), (171, (Bo false)), (172, (V.ptr 7 0 1)), (173, (I o54.fType)), (174, (V.ptr 1 0 2)), (175, (sType a0.fTypes)), (176, (I (a0.fTypes.length : Int))), (177, (Bo false)), (178, (Bo false)), (179, (Bo false)), (180, (V.ptr 7 0 2)), (181, (I o54.fField)), (182, (Bo false)), (183, (Bo false)), (184, (Bo false)), (185, (V.ptr 7 0 2)), (186, (I o54.fField)), (187, (V.ptr 1 0 2)), (188, (sType a0.fTypes)), (189, (V.ptr 7 0 1)), (190, (I o54.fType)), (191, (Pr (eType v56))), (192, (Pr (sField v56.fFields))), (193, (sField v56.fFields)), (194, (I (v56.fFields.length : Int))), (195, (Bo false)), (196, (Bo false)), (197, (Bo false)), (198, (V.ptr 1 0 2)), (199, (sType a0.fTypes)), (200, (V.ptr 7 0 1)), (201, (I o54.fType)), (202, (Pr (eType v57))), (203, (Pr (sField v57.fFields))), (204, (sField v57.fFields)), (205, (V.ptr 7 0 2)), (206, (I o54.fField)), (207, (Pr (eField v58))), (208, (Pr (I v58.fBytes))), (209, (I v58.fBytes)), (210, (Bo (decide (v58.fBytes > 20)))), (211, (Bo (decide (v58.fBytes > 20)))), (212, (Bo (decide (v58.fBytes > 20))))]) rfl rfl rfl) <| bifE (fun hc => ?_) fun hc => ?_
                  · rw [hc]
                    exact regp_end rfl
                  · rw [hc]
                    exact regp_end rfl
      refine kc rfl rfl (fun hc => ?_) fun hc => ?_
      · rw [hc]
        refine et k_assoc <| kr ⟨[(2, (Bo false))], [], 232⟩ rfl <| et k_ret <| et blk_ret <| et loop_ret <| et (hret _) ?_
        rfl
      · rw [hc]
        refine et k_skip <| kr ⟨[(1, (Pt 1)), (6, (I x52)), (7, (Pt 7)), (8, (I 0))], [(1, vS 4 (eBase a0)), (7, vS 4 (eSearch o54))], 232⟩ rfl <| et (k_lblock rfl) <| et k_loop ?_
        refine ref11_Valid_L4_ok k a0 x52 o54 _ _ ?h_ref11_Valid_L4_0 ?hr_ref11_Valid_L4 k 0
        · intro y65
          exact et blk_exit <| et k_lskip <| et blk_normal <| kl ⟨[(1, (Pt 1)), (6, (I (Go.IntKind.wrap .i64 (x52 + 1))))], [(1, vS 4 (eBase a0))], 232⟩ rfl <| et loop_normal <| ih (Go.IntKind.wrap .i64 (x52 + 1))
        · intro s; exact hret s
    · rw [hc]
      exact et k_exit <| et loop_exit <| hK0 x52
theorem ref11_Valid_ok (k : Nat) (a0 : T_api_Base) : EV k 48 [(eBase a0)] = (ref11_Valid k a0).map ref11_Valid_fin := by
  cases k with
  | zero => rfl
  | succ k =>
    unfold ref11_Valid
    refine et (evF_succ (c := f48c) (N := 232) (regs := f48n) rfl func48 rfl (by decide) rfl rfl rfl) <| kr ⟨[(1, (Pt 1))], [(1, vS 4 (eBase a0))], 232⟩ rfl <| et k_assoc <| kga f48a1 rfl (fun (o2 : Bool) => [(40, (Bo o2))]) ?_ fun o2 => ?_
    · refine rd 2 [(9, (Pt 1)), (10, (Sr a0.fName))] rfl rfl <| rp rfl (p_call rfl rfl rfl rfl rfl (ref11_IsName_ok k a0.fName) (.inl rfl)) fun v1 => bd 5 [(11, (Bo v1)), (12, (Bo (!v1))), (13, (Bo (!v1)))] rfl rfl <| bifE (fun hc => ?_) fun hc => ?_
      · rw [hc]
        exact reg_end rfl
      · rw [hc]
        refine rd 10 [(14, (V.ptr 1 0 1)), (15, (I a0.fKind)), (16, (Bo (decide (a0.fKind < 1)))), (17, (Bo (decide (a0.fKind < 1)))), (18, (Bo (decide (a0.fKind < 1))))] rfl rfl <| bifE (fun hc => ?_) fun hc => ?_
        · rw [hc]
          exact reg_end rfl
        · rw [hc]
          refine rd 15 [(19, (V.ptr 1 0 1)), (20, (I a0.fKind)), (21, (Bo (decide (a0.fKind > 4)))), (22, (Bo (decide (a0.fKind > 4)))), (23, (Bo (decide (a0.fKind > 4))))] rfl rfl <| bifE (fun hc => ?_) fun hc => ?_
          · rw [hc]
            exact reg_end rfl
          · rw [hc]
            refine rd 17 [(24, (V.ptr 1 0 2)), (25, (sType a0.fTypes))] rfl rfl <| rl rfl (p_len (e := eType) rfl rfl rfl rfl rfl rfl underlying22) <| bd 21 [(26, (I (a0.fTypes.length : Int))), (27, (Bo (decide ((a0.fTypes.length : Int) < 1)))), (28, (Bo (decide ((a0.fTypes.length : Int) < 1)))), (29, (Bo (decide ((a0.fTypes.length : Int) < 1))))] rfl rfl <| bifE (fun hc => ?_) fun hc => ?_
            · rw [hc]
              exact reg_end rfl
            · rw [hc]
              refine rd 23 [(30, (V.ptr 1 0 2)), (31, (sType a0.fTypes))] rfl rfl <| rl rfl (p_len (e := eType) rfl rfl rfl rfl rfl rfl underlying22) <| bd 27 [(32, (I (a0.fTypes.length : Int))), (33, (Bo (decide ((a0.fTypes.length : Int) > 8)))), (34, (Bo (decide ((a0.fTypes.length : Int) > 8)))), (35, (Bo (decide ((a0.fTypes.length : Int) > 8))))] rfl rfl <| bifE (fun hc => ?_) fun hc => ?_
              · rw [hc]
                exact reg_end rfl
              · rw [hc]
                exact rd 29 [(36, (V.ptr 1 0 3)), (37, (sSearch a0.fIndexes))] rfl rfl <| rl rfl (p_len (e := eSearch) rfl rfl rfl rfl rfl rfl underlying23) <| bind_end rfl
    refine kc rfl rfl (fun hc => ?_) fun hc => ?_
    · rw [hc]
      refine et k_assoc <| kr ⟨[(2, (Bo false))], [], 232⟩ rfl <| et k_ret ?_
      rfl
    · rw [hc]
      refine et k_skip <| et k_assoc <| kr ⟨[(1, (Pt 1)), (3, (I 0))], [(1, vS 4 (eBase a0))], 232⟩ rfl <| et (k_block rfl) <| et k_loop ?_
      refine ref11_Valid_L1_ok k a0 _ _ ?h_ref11_Valid_L1_0 ?hr_ref11_Valid_L1 k 0
      · intro y38
        refine et blk_exit <| et k_assoc <| kr ⟨[(1, (Pt 1)), (6, (I 0))], [(1, vS 4 (eBase a0))], 232⟩ rfl <| et (k_block rfl) <| et k_loop ?_
        refine ref11_Valid_L3_ok k a0 _ _ ?h_ref11_Valid_L3_0 ?hr_ref11_Valid_L3 k 0
        · intro y66
          refine et blk_exit <| kr ⟨[(2, (Bo true))], [], 232⟩ rfl <| et k_lret ?_
          rfl
        · intro s; exact rfl
      · intro s; exact rfl
def ref12_isType_fin : Int → V × List V := fun r => ((I r), [])
theorem ref12_isType_ok (k : Nat) (a0 : T_api_Base) (a1 : Int) : EV k 24 [(eBase a0), (I a1)] = (ref12_isType k a0 a1).map ref12_isType_fin := by
  cases k with
  | zero => rfl
  | succ k =>
    unfold ref12_isType
    refine et (evF_succ (c := f24c) (N := 19) (regs := f24n) rfl func24 rfl (by decide) rfl rfl rfl) <| kr ⟨[(1, (I a1)), (2, (Pt 2))], [(2, vS 4 (eBase a0))], 19⟩ rfl <| et (k_block rfl) <| kga f24a1 rfl (fun (o2 : Bool) => [(5, (Bo o2))]) (rd 1 [(6, (eBase a0))] rfl rfl <| rp rfl (p_call rfl rfl rfl rfl rfl (ref11_Valid_ok k a0) (.inl rfl)) fun v1 => bind_end rfl) fun o2 => kcl rfl rfl (fun hc => ?_) fun hc => ?_
    · rw [hc]
      refine kr ⟨[(4, (I 100))], [], 19⟩ rfl <| et k_lret <| et blk_ret ?_
      rfl
    · rw [hc]
      refine kg f24a3 rfl (fun (o3 : Bool) => ⟨[(9, (Bo o3))], [], 19⟩) ?_ fun o3 => ?_
      · refine rd 3 [(10, (I a1)), (11, (Bo (decide (a1 < 0)))), (12, (Bo (decide (a1 < 0))))] rfl rfl <| bifE (fun hc => ?_) fun hc => ?_
        · rw [hc]
          exact reg_end rfl
        · rw [hc]
          exact rd 6 [(13, (I a1)), (14, (V.ptr 2 0 2)), (15, (sType a0.fTypes))] rfl rfl <| rl rfl (p_len (e := eType) rfl rfl rfl rfl rfl rfl underlying22) <| bind_end rfl
      refine kcl rfl rfl (fun hc => ?_) fun hc => ?_
      · rw [hc]
        refine kr ⟨[(4, (I 2))], [], 19⟩ rfl <| et k_lret <| et blk_ret ?_
        rfl
      · rw [hc]
        refine et k_lskip <| et blk_normal <| kr ⟨[(4, (I 0))], [], 19⟩ rfl <| et k_lret ?_
        rfl
def ref11_isType_fin : Bool → V × List V := fun r => ((Bo r), [])
theorem ref11_isType_ok (k : Nat) (a0 : T_api_Base) (a1 : Int) : EV k 86 [(eBase a0), (I a1)] = (ref11_isType k a0 a1).map ref11_isType_fin := by
  cases k with
  | zero => rfl
  | succ k =>
    unfold ref11_isType
    refine et (evF_succ (c := f86c) (N := 14) (regs := f86n) rfl func86 rfl (by decide) rfl rfl rfl) <| kr ⟨[(1, (I a1)), (2, (Pt 2))], [(2, vS 4 (eBase a0))], 14⟩ rfl <| kg f86a1 rfl (fun (o1 : Bool) => ⟨[(4, (Bo o1))], [], 14⟩) ?_ fun o1 => ?_
    · refine rd 3 [(5, (I a1)), (6, (Bo (decide (a1 ≥ 0)))), (7, (Bo (decide (a1 ≥ 0))))] rfl rfl <| bifE (fun hc => ?_) fun hc => ?_
      · rw [hc]
        exact rd 6 [(8, (I a1)), (9, (V.ptr 2 0 2)), (10, (sType a0.fTypes))] rfl rfl <| rl rfl (p_len (e := eType) rfl rfl rfl rfl rfl rfl underlying22) <| bind_end rfl
      · rw [hc]
        exact reg_end rfl
    refine et k_lret ?_
    rfl
def ref11_asked_fin : Int → V × List V := fun r => ((I r), [])
theorem ref11_asked_L1_ok (k : Nat) (a0 : T_api_Base) (a1 : (List Int))  (K0 : Int → Option Int) (Kst : X × St → Option (V × List V)) (hK0 : ∀ (y0 : Int), Kst (X.exit 0, ⟨[(1, (sI a1)), (2, (Pt 2)), (5, (I y0)), (12, (Bo false))], [(2, vS 4 (eBase a0))], 22⟩) = (K0 y0).map ref11_asked_fin) (hret : ∀ s, Kst (X.ret, s) = endK prog 22 [(eBase a0), (sI a1)] [] [.tmp 4] (X.ret, s)) :
    ∀ (m : Nat) (x6 : Int), (iter (exec prog (EV k) f78n k f78b0) m ⟨[(1, (sI a1)), (2, (Pt 2)), (5, (I x6))], [(2, vS 4 (eBase a0))], 22⟩).bind Kst = (ref11_asked_L1 k a0 a1 K0 m x6).map ref11_asked_fin := by
  intro m
  induction m with
  | zero => intros; rfl
  | succ m ih =>
    intro x6
    unfold ref11_asked_L1
    refine et k_round <| et k_assoc <| krp f78a4 rfl ⟨[(1, (sI a1)), (2, (Pt 2)), (5, (I x6)), (12, (Bo (decide (x6 < (a1.length : Int)))))], [(2, vS 4 (eBase a0))], 22⟩ ?_ ?_
    · exact rd 2 [(9, (I x6)), (10, (sI a1))] rfl rfl <| rl rfl (p_len (e := I) rfl rfl rfl rfl rfl rfl underlying110) <| bind_end rfl
    refine kc rfl rfl (fun hc => ?_) fun hc => ?_
    · rw [hc]
      refine et k_skip <| et (k_block rfl) <| kd f78a6 rfl (fun (o9 : Bool) => ⟨[(1, (sI a1)), (2, (Pt 2)), (5, (I x6)), (21, (Bo o9))], [(2, vS 4 (eBase a0))], 22⟩) (et (regionE_regp (p := 7) (dk := true) (t := [(1, (sI a1)), (2, (Pt 2)), (5, (I x6)), (12, (Bo true))]) (σ := [(2, vS 4 (eBase a0))]) (n := 22) rfl (by decide) (by decide) rfl) <| et (regp_adv (m := 3) (j := 3) (t' := [(1, (sI a1)), (2, (Pt 2)), (5, (I x6)), (12, (Bo true)), (15, (eBase a0)), (16, (sI a1)), (17, (I x6))]) rfl rfl rfl) <| et (regp_pure (x := (idx a1 x6)) (w := fun v7 => (Pr (I v7))) rfl rfl rfl rfl rfl (p_index (e := I) rfl rfl rfl underlying110 rfl (by decide))) <| bindE fun v7 => et (putp_adv (m := 1) (j := 5) (t' := [(1, (sI a1)), (2, (Pt 2)), (5, (I x6)), (12, (Bo true)), (15, (eBase a0)), (16, (sI a1)), (17, (I x6)), (18, (Pr (I v7))), (19, (I v7))]) rfl rfl rfl) <| et (regp_pure (x := (ref11_isType k a0 v7)) (w := fun v8 => (Bo v8)) rfl rfl rfl rfl rfl (p_call rfl rfl rfl rfl rfl (ref11_isType_ok k a0 v7) (.inl rfl))) <| bindE fun v8 => regp_end rfl) fun o9 => kcl rfl rfl (fun hc => ?_) fun hc => ?_
      · rw [hc]
        refine kr ⟨[(4, (I 2))], [], 22⟩ rfl <| et k_lret <| et blk_ret <| et loop_ret <| et (hret _) ?_
        rfl
      · rw [hc]
        exact et k_lskip <| et blk_normal <| kl ⟨[(1, (sI a1)), (2, (Pt 2)), (5, (I (Go.IntKind.wrap .i64 (x6 + 1))))], [(2, vS 4 (eBase a0))], 22⟩ rfl <| et loop_normal <| ih (Go.IntKind.wrap .i64 (x6 + 1))
    · rw [hc]
      exact et k_exit <| et loop_exit <| hK0 x6
theorem ref11_asked_ok (k : Nat) (a0 : T_api_Base) (a1 : (List Int)) : EV k 78 [(eBase a0), (sI a1)] = (ref11_asked k a0 a1).map ref11_asked_fin := by
  cases k with
  | zero => rfl
  | succ k =>
    unfold ref11_asked
    refine et (evF_succ (c := f78c) (N := 22) (regs := f78n) rfl func78 rfl (by decide) rfl rfl rfl) <| kr ⟨[(1, (sI a1)), (2, (Pt 2))], [(2, vS 4 (eBase a0))], 22⟩ rfl <| et k_assoc <| kga f78a1 rfl (fun (o2 : Bool) => [(8, (Bo o2))]) (rd 1 [(6, (eBase a0))] rfl rfl <| rp rfl (p_call rfl rfl rfl rfl rfl (ref11_Valid_ok k a0) (.inl rfl)) fun v1 => bind_end rfl) fun o2 => kc rfl rfl (fun hc => ?_) fun hc => ?_
    · rw [hc]
      refine et k_assoc <| kr ⟨[(4, (I 100))], [], 22⟩ rfl <| et k_ret ?_
      rfl
    · rw [hc]
      refine et k_skip <| et k_assoc <| kr ⟨[(1, (sI a1)), (2, (Pt 2)), (5, (I 0))], [(2, vS 4 (eBase a0))], 22⟩ rfl <| et (k_block rfl) <| et k_loop ?_
      refine ref11_asked_L1_ok k a0 a1 _ _ ?h_ref11_asked_L1_0 ?hr_ref11_asked_L1 k 0
      · intro y10
        refine et blk_exit <| kr ⟨[(4, (I 0))], [], 22⟩ rfl <| et k_lret ?_
        rfl
      · intro s; exact rfl
def ref11_Field_fin : (Int × Int) → V × List V := fun r => (.tup [(I r.1), (I r.2)], [])
theorem ref11_Field_L1_ok (k : Nat) (a0 : T_api_Base) (a1 : Int) (a2 : Str)  (K0 : Int → Option (Int × Int)) (Kst : X × St → Option (V × List V)) (hK0 : ∀ (y0 : Int), Kst (X.exit 0, ⟨[(1, (I a1)), (2, (Sr a2)), (3, (Pt 3)), (9, (I y0)), (25, (Bo false))], [(3, vS 4 (eBase a0))], 41⟩) = (K0 y0).map ref11_Field_fin) (hret : ∀ s, Kst (X.ret, s) = endK prog 41 [(eBase a0), (I a1), (Sr a2)] [] [.tmp 6, .tmp 7] (X.ret, s)) :
    ∀ (m : Nat) (x8 : Int), (iter (exec prog (EV k) f72n k f72b0) m ⟨[(1, (I a1)), (2, (Sr a2)), (3, (Pt 3)), (9, (I x8))], [(3, vS 4 (eBase a0))], 41⟩).bind Kst = (ref11_Field_L1 a0 a1 a2 K0 m x8).map ref11_Field_fin := by
  intro m
  induction m with
  | zero => intros; rfl
  | succ m ih =>
    intro x8
    unfold ref11_Field_L1
    refine et k_round <| et k_assoc <| kga f72a5 rfl (fun (o10 : Bool) => [(25, (Bo o10))]) (rd 4 [(17, (I x8)), (18, (V.ptr 3 0 2)), (19, (sType a0.fTypes)), (20, (I a1))] rfl rfl <| rp rfl (p_index (e := eType) rfl rfl rfl underlying22 rfl (by decide)) fun v9 => bd 7 [(21, (Pr (eType v9))), (22, (Pr (sField v9.fFields))), (23, (sField v9.fFields))] rfl rfl <| rl rfl (p_len (e := eField) rfl rfl rfl rfl rfl rfl underlying39) <| bind_end rfl) fun o10 => kc rfl rfl (fun hc => ?_) fun hc => ?_
    · rw [hc]
      refine et k_skip <| et (k_block rfl) <| kg f72a7 rfl (fun (o13 : Bool) => ⟨[(1, (I a1)), (2, (Sr a2)), (3, (Pt 3)), (9, (I x8)), (39, (Bo o13))], [(3, vS 4 (eBase a0))], 41⟩) (rd 3 [(28, (V.ptr 3 0 2)), (29, (sType a0.fTypes)), (30, (I a1))] rfl rfl <| rp rfl (p_index (e := eType) rfl rfl rfl underlying22 rfl (by decide)) fun v11 => bd 7 [(31, (Pr (eType v11))), (32, (Pr (sField v11.fFields))), (33, (sField v11.fFields)), (34, (I x8))] rfl rfl <| rp rfl (p_index (e := eField) rfl rfl rfl underlying39 rfl (by decide)) fun v12 => bind_end rfl) fun o13 => kcl rfl rfl (fun hc => ?_) fun hc => ?_
      · rw [hc]
        refine kr ⟨[(6, (I x8)), (7, (I 0))], [], 41⟩ rfl <| et k_lret <| et blk_ret <| et loop_ret <| et (hret _) ?_
        rfl
      · rw [hc]
        exact et k_lskip <| et blk_normal <| kl ⟨[(1, (I a1)), (2, (Sr a2)), (3, (Pt 3)), (9, (I (Go.IntKind.wrap .i64 (x8 + 1))))], [(3, vS 4 (eBase a0))], 41⟩ rfl <| et loop_normal <| ih (Go.IntKind.wrap .i64 (x8 + 1))
    · rw [hc]
      exact et k_exit <| et loop_exit <| hK0 x8
theorem ref11_Field_ok (k : Nat) (a0 : T_api_Base) (a1 : Int) (a2 : Str) : EV k 72 [(eBase a0), (I a1), (Sr a2)] = (ref11_Field k a0 a1 a2).map ref11_Field_fin := by
  cases k with
  | zero => rfl
  | succ k =>
    unfold ref11_Field
    refine et (evF_succ (c := f72c) (N := 41) (regs := f72n) rfl func72 rfl (by decide) rfl rfl rfl) <| kr ⟨[(1, (I a1)), (2, (Sr a2)), (3, (Pt 3))], [(3, vS 4 (eBase a0))], 41⟩ rfl <| et k_assoc <| kga f72a1 rfl (fun (o2 : Int) => [(8, (I o2))]) (rd 3 [(10, (eBase a0)), (11, (I a1)), (12, (sI (([a1] : List Int))))] rfl rfl <| rs rfl (p_call rfl rfl rfl rfl rfl (ref11_asked_ok k a0 ([a1] : List Int)) (.inl rfl)) fun v1 => bind_end rfl) fun o2 => et k_assoc <| kra [(15, (Bo (o2 != 0)))] rfl <| kc rfl rfl (fun hc => ?_) fun hc => ?_
    · rw [hc]
      refine et k_assoc <| kr ⟨[(6, (I 0)), (7, (I o2))], [], 41⟩ rfl <| et k_ret ?_
      rfl
    · rw [hc]
      refine et k_skip <| et k_assoc <| kr ⟨[(1, (I a1)), (2, (Sr a2)), (3, (Pt 3)), (9, (I 0))], [(3, vS 4 (eBase a0))], 41⟩ rfl <| et (k_block rfl) <| et k_loop ?_
      refine ref11_Field_L1_ok k a0 a1 a2 _ _ ?h_ref11_Field_L1_0 ?hr_ref11_Field_L1 k 0
      · intro y14
        refine et blk_exit <| kr ⟨[(6, (I 0)), (7, (I 5))], [], 41⟩ rfl <| et k_lret ?_
        rfl
      · intro s; exact rfl
def ref12_isTerm_fin : Bool → V × List V := fun r => ((Bo r), [])
theorem ref12_isTerm_ok (k : Nat) (a0 : T_api_Base) (a1 : Int) (a2 : T_api_Term) : EV k 56 [(eBase a0), (I a1), (eTerm a2)] = (ref12_isTerm k a0 a1 a2).map ref12_isTerm_fin := by
  cases k with
  | zero => rfl
  | succ k =>
    unfold ref12_isTerm
    refine et (evF_succ (c := f56c) (N := 45) (regs := f56n) rfl func56 rfl (by decide) rfl rfl rfl) <| kr ⟨[(1, (I a1)), (3, (Pt 3)), (5, (Pt 5))], [(3, vS 4 (eBase a0)), (5, vS 3 (eTerm a2))], 45⟩ rfl <| kga f56a1 rfl (fun (o2 : Int × Int) => [(7, (I o2.1)), (8, (I o2.2))]) (rd 4 [(10, (eBase a0)), (11, (I a1)), (12, (Pt 5)), (13, (Sr a2.fField))] rfl rfl <| rp rfl (p_call rfl rfl rfl rfl rfl (ref11_Field_ok k a0 a1 a2.fField) (.inl rfl)) fun v1 => bind_end rfl) fun o2 => kd f56a2 rfl (fun (o5 : Bool) => ⟨[(6, (Bo o5))], [], 45⟩) ?_ fun o5 => ?_
    · refine et (regionE_regp (p := 29) (dk := true) (t := [(1, (I a1)), (3, (Pt 3)), (5, (Pt 5)), (7, (I o2.1)), (8, (I o2.2))]) (σ := [(3, vS 4 (eBase a0)), (5, vS 3 (eTerm a2))]) (n := 45) rfl (by decide) (by decide) rfl) <| et (regp_adv (m := 3) (j := 3) (t' := [(1, (I a1)), (3, (Pt 3)), (5, (Pt 5)), (7, (I o2.1)), (8, (I o2.2)), (17, (I o2.2)), (18, (Bo (o2.2 == 0))), (19, (Bo (o2.2 == 0)))]) rfl rfl rfl) <| bifE (fun hc => ?_) fun hc => ?_
      · rw [hc]
        refine et (regp_adv (m := 5) (j := 8) (t' := [(1, (I a1)), (3, (Pt 3)), (5, (Pt 5)), (7, (I o2.1)), (8, (I o2.2)), (17, (I o2.2)), (18, (Bo true)), (19, (Bo true)), (20, (V.ptr 5 0 1)), (21, (I a2.fOp)), (22, (Bo (decide (a2.fOp ≥ 1)))), (23, (Bo (decide (a2.fOp ≥ 1)))), (24, (Bo (decide (a2.fOp ≥ 1))))]) rfl rfl rfl) <| bifE (fun hc => ?_) fun hc => ?_
        · rw [hc]
          refine et (regp_adv (m := 5) (j := 13) (t' := [(1, (I a1)), (3, (Pt 3)), (5, (Pt 5)), (7, (I o2.1)), (8, (I o2.2)), (17, (I o2.2)), (18, (Bo true)), (19, (Bo true)), (20, (V.ptr 5 0 1)), (21, (I a2.fOp)), (22, (Bo true)), (23, (Bo true)), (24, (Bo true)), (25, (V.ptr 5 0 1)), (26, (I a2.fOp)), (27, (Bo (decide (a2.fOp ≤ 6)))), (28, (Bo (decide (a2.fOp ≤ 6)))), (29, (Bo (decide (a2.fOp ≤ 6))))]) rfl rfl rfl) <| bifE (fun hc => ?_) fun hc => ?_
          · rw [hc]
            exact et (regp_adv (m := 6) (j := 19) (t' := [(1, (I a1)), (3, (Pt 3)), (5, (Pt 5)), (7, (I o2.1)), (8, (I o2.2)), (17, (I o2.2)), (18, (Bo true)), (19, (Bo true)), (20, (V.ptr 5 0 1)), (21, (I a2.fOp)), (22, (Bo true)), (23, (Bo true)), (24, (Bo true)), (25, (V.ptr 5 0 1)), (26, (I a2.fOp)), (27, (Bo true)), (28, (Bo true)), (29, (Bo true)), (30, (V.ptr 5 0 2)), (31, (Sr a2.fValue)), (32, (I (a2.fValue.length : Int))), (33, (V.ptr 3 0 2)), (34, (sType a0.fTypes)), (35, (I a1))]) rfl rfl rfl) <| et (regp_pure (x := (idx a0.fTypes a1)) (w := fun v3 => (Pr (eType v3))) rfl rfl rfl rfl rfl (p_index (e := eType) rfl rfl rfl underlying22 rfl (by decide))) <| bindE fun v3 => et (putp_adv (m := 3) (j := 23) (t' := [(1, (I a1)), (3, (Pt 3)), (5, (Pt 5)), (7, (I o2.1)), (8, (I o2.2)), (17, (I o2.2)), (18, (Bo true)), (19, (Bo true)), (20, (V.ptr 5 0 1)), (21, (I a2.fOp)), (22, (Bo true)), (23, (Bo true)), (24, (Bo true)), (25, (V.ptr 5 0 1)), (26, (I a2.fOp)), (27, (Bo true)), (28, (Bo true)), (29, (Bo true)), (30, (V.ptr 5 0 2)), (31, (Sr a2.fValue)), (32, (I (a2.fValue.length : Int))), (33, (V.ptr 3 0 2)), (34, (sType a0.fTypes)), (35, (I a1)), (36, (Pr (eType v3))), (37, (Pr (sField v3.fFields))), (38, (sField v3.fFields)), (39, (I o2.1))]) rfl rfl rfl) <| et (regp_pure (x := (idx v3.fFields o2.1)) (w := fun v4 => (Pr (eField v4))) rfl rfl rfl rfl rfl (p_index (e := eField) rfl rfl rfl underlying39 rfl (by decide))) <| bindE fun v4 => regp_end rfl
          · rw [hc]
            exact regp_end rfl
        · rw [hc]
          exact regp_end rfl
      · rw [hc]
        exact regp_end rfl
    refine et k_lret ?_
    rfl
def ref12_isCondition_fin : Bool → V × List V := fun r => ((Bo r), [])
theorem ref12_isCondition_L2_ok (k : Nat) (a0 : T_api_Base) (a1 : Int) (a2 : (List (List T_api_Term))) (x18 : Int)  (K0 : Int → Option Bool) (Kst : X × St → Option (V × List V)) (hK0 : ∀ (y0 : Int), Kst (X.exit 2, ⟨[(1, (I a1)), (2, (V.sl 0 1 (List.map sTerm a2))), (3, (Pt 3)), (7, (I x18)), (8, (I y0)), (35, (Bo false))], [(3, vS 4 (eBase a0))], 52⟩) = (K0 y0).map ref12_isCondition_fin) (hret : ∀ s, Kst (X.ret, s) = endK prog 52 [(eBase a0), (I a1), (V.sl 0 1 (List.map sTerm a2))] [] [.tmp 6] (X.ret, s)) :
    ∀ (m : Nat) (x28 : Int), (iter (exec prog (EV k) f37n k f37b0) m ⟨[(1, (I a1)), (2, (V.sl 0 1 (List.map sTerm a2))), (3, (Pt 3)), (7, (I x18)), (8, (I x28))], [(3, vS 4 (eBase a0))], 52⟩).bind Kst = (ref12_isCondition_L2 k a0 a1 a2 x18 K0 m x28).map ref12_isCondition_fin := by
  intro m
  induction m with
  | zero => intros; rfl
  | succ m ih =>
    intro x28
    unfold ref12_isCondition_L2
    refine et k_round <| et k_assoc <| kga f37a7 rfl (fun (o30 : Bool) => [(35, (Bo o30))]) (rd 3 [(29, (I x28)), (30, (V.sl 0 1 (List.map sTerm a2))), (31, (I x18))] rfl rfl <| rp rfl (p_index (e := sTerm) rfl rfl rfl underlying26 rfl (by decide)) fun v29 => bd 5 [(32, (Pr (sTerm v29))), (33, (sTerm v29))] rfl rfl <| rl rfl (p_len (e := eTerm) rfl rfl rfl rfl rfl rfl underlying46) <| bind_end rfl) fun o30 => kc rfl rfl (fun hc => ?_) fun hc => ?_
    · rw [hc]
      refine et k_skip <| et (k_block rfl) <| kd f37a9 rfl (fun (o34 : Bool) => ⟨[(1, (I a1)), (2, (V.sl 0 1 (List.map sTerm a2))), (3, (Pt 3)), (7, (I x18)), (8, (I x28)), (48, (Bo o34))], [(3, vS 4 (eBase a0))], 52⟩) (et (regionE_regp (p := 11) (dk := true) (t := [(1, (I a1)), (2, (V.sl 0 1 (List.map sTerm a2))), (3, (Pt 3)), (7, (I x18)), (8, (I x28)), (35, (Bo true))]) (σ := [(3, vS 4 (eBase a0))]) (n := 52) rfl (by decide) (by decide) rfl) <| et (regp_adv (m := 4) (j := 4) (t' := [(1, (I a1)), (2, (V.sl 0 1 (List.map sTerm a2))), (3, (Pt 3)), (7, (I x18)), (8, (I x28)), (35, (Bo true)), (38, (eBase a0)), (39, (I a1)), (40, (V.sl 0 1 (List.map sTerm a2))), (41, (I x18))]) rfl rfl rfl) <| et (regp_pure (x := (idx a2 x18)) (w := fun v31 => (Pr (sTerm v31))) rfl rfl rfl rfl rfl (p_index (e := sTerm) rfl rfl rfl underlying26 rfl (by decide))) <| bindE fun v31 => et (putp_adv (m := 2) (j := 7) (t' := [(1, (I a1)), (2, (V.sl 0 1 (List.map sTerm a2))), (3, (Pt 3)), (7, (I x18)), (8, (I x28)), (35, (Bo true)), (38, (eBase a0)), (39, (I a1)), (40, (V.sl 0 1 (List.map sTerm a2))), (41, (I x18)), (42, (Pr (sTerm v31))), (43, (sTerm v31)), (44, (I x28))]) rfl rfl rfl) <| et (regp_pure (x := (idx v31 x28)) (w := fun v32 => (Pr (eTerm v32))) rfl rfl rfl rfl rfl (p_index (e := eTerm) rfl rfl rfl underlying46 rfl (by decide))) <| bindE fun v32 => et (putp_adv (m := 1) (j := 9) (t' := [(1, (I a1)), (2, (V.sl 0 1 (List.map sTerm a2))), (3, (Pt 3)), (7, (I x18)), (8, (I x28)), (35, (Bo true)), (38, (eBase a0)), (39, (I a1)), (40, (V.sl 0 1 (List.map sTerm a2))), (41, (I x18)), (42, (Pr (sTerm v31))), (43, (sTerm v31)), (44, (I x28)), (45, (Pr (eTerm v32))), (46, (eTerm v32))]) rfl rfl rfl) <| et (regp_pure (x := (ref12_isTerm k a0 a1 v32)) (w := fun v33 => (Bo v33)) rfl rfl rfl rfl rfl (p_call rfl rfl rfl rfl rfl (ref12_isTerm_ok k a0 a1 v32) (.inl rfl))) <| bindE fun v33 => regp_end rfl) fun o34 => kcl rfl rfl (fun hc => ?_) fun hc => ?_
      · rw [hc]
        refine kr ⟨[(6, (Bo false))], [], 52⟩ rfl <| et k_lret <| et blk_ret <| et loop_ret <| et (hret _) ?_
        rfl
      · rw [hc]
        exact et k_lskip <| et blk_normal <| kl ⟨[(1, (I a1)), (2, (V.sl 0 1 (List.map sTerm a2))), (3, (Pt 3)), (7, (I x18)), (8, (I (Go.IntKind.wrap .i64 (x28 + 1))))], [(3, vS 4 (eBase a0))], 52⟩ rfl <| et loop_normal <| ih (Go.IntKind.wrap .i64 (x28 + 1))
    · rw [hc]
      exact et k_exit <| et loop_exit <| hK0 x28
theorem ref12_isCondition_L1_ok (k : Nat) (a0 : T_api_Base) (a1 : Int) (a2 : (List (List T_api_Term)))  (K0 : Int → Option Bool) (Kst : X × St → Option (V × List V)) (hK0 : ∀ (y0 : Int), Kst (X.exit 0, ⟨[(1, (I a1)), (2, (V.sl 0 1 (List.map sTerm a2))), (3, (Pt 3)), (7, (I y0)), (12, (Bo false))], [(3, vS 4 (eBase a0))], 52⟩) = (K0 y0).map ref12_isCondition_fin) (hret : ∀ s, Kst (X.ret, s) = endK prog 52 [(eBase a0), (I a1), (V.sl 0 1 (List.map sTerm a2))] [] [.tmp 6] (X.ret, s)) :
    ∀ (m : Nat) (x18 : Int), (iter (exec prog (EV k) f37n k f37b1) m ⟨[(1, (I a1)), (2, (V.sl 0 1 (List.map sTerm a2))), (3, (Pt 3)), (7, (I x18))], [(3, vS 4 (eBase a0))], 52⟩).bind Kst = (ref12_isCondition_L1 k a0 a1 a2 K0 m x18).map ref12_isCondition_fin := by
  intro m
  induction m with
  | zero => intros; rfl
  | succ m ih =>
    intro x18
    unfold ref12_isCondition_L1
    refine et k_round <| et k_assoc <| krp f37a2 rfl ⟨[(1, (I a1)), (2, (V.sl 0 1 (List.map sTerm a2))), (3, (Pt 3)), (7, (I x18)), (12, (Bo (decide (x18 < (a2.length : Int)))))], [(3, vS 4 (eBase a0))], 52⟩ ?_ ?_
    · exact rd 2 [(9, (I x18)), (10, (V.sl 0 1 (List.map sTerm a2)))] rfl rfl <| rl rfl (p_len (e := sTerm) rfl rfl rfl rfl rfl rfl underlying26) <| bind_end rfl
    refine kc rfl rfl (fun hc => ?_) fun hc => ?_
    · rw [hc]
      refine et k_skip <| et (k_block rfl) <| et k_assoc <| kg f37a4 rfl (fun (o21 : Bool) => ⟨[(1, (I a1)), (2, (V.sl 0 1 (List.map sTerm a2))), (3, (Pt 3)), (7, (I x18)), (28, (Bo o21))], [(3, vS 4 (eBase a0))], 52⟩) ?_ fun o21 => ?_
      · refine rd 2 [(15, (V.sl 0 1 (List.map sTerm a2))), (16, (I x18))] rfl rfl <| rp rfl (p_index (e := sTerm) rfl rfl rfl underlying26 rfl (by decide)) fun v19 => bd 4 [(17, (Pr (sTerm v19))), (18, (sTerm v19))] rfl rfl <| rl rfl (p_len (e := eTerm) rfl rfl rfl rfl rfl rfl underlying46) <| bd 7 [(19, (I (v19.length : Int))), (20, (Bo (decide ((v19.length : Int) < 1)))), (21, (Bo (decide ((v19.length : Int) < 1))))] rfl rfl <| bifE (fun hc => ?_) fun hc => ?_
        · rw [hc]
          exact reg_end rfl
        · rw [hc]
          exact rd 9 [(22, (V.sl 0 1 (List.map sTerm a2))), (23, (I x18))] rfl rfl <| rp rfl (p_index (e := sTerm) rfl rfl rfl underlying26 rfl (by decide)) fun v20 => bd 11 [(24, (Pr (sTerm v20))), (25, (sTerm v20))] rfl rfl <| rl rfl (p_len (e := eTerm) rfl rfl rfl rfl rfl rfl underlying46) <| bind_end rfl
      refine kc rfl rfl (fun hc => ?_) fun hc => ?_
      · rw [hc]
        refine et k_assoc <| kr ⟨[(6, (Bo false))], [], 52⟩ rfl <| et k_ret <| et blk_ret <| et loop_ret <| et (hret _) ?_
        rfl
      · rw [hc]
        refine et k_skip <| kr ⟨[(1, (I a1)), (2, (V.sl 0 1 (List.map sTerm a2))), (3, (Pt 3)), (7, (I x18)), (8, (I 0))], [(3, vS 4 (eBase a0))], 52⟩ rfl <| et (k_lblock rfl) <| et k_loop ?_
        refine ref12_isCondition_L2_ok k a0 a1 a2 x18 _ _ ?h_ref12_isCondition_L2_0 ?hr_ref12_isCondition_L2 k 0
        · intro y35
          exact et blk_exit <| et k_lskip <| et blk_normal <| kl ⟨[(1, (I a1)), (2, (V.sl 0 1 (List.map sTerm a2))), (3, (Pt 3)), (7, (I (Go.IntKind.wrap .i64 (x18 + 1))))], [(3, vS 4 (eBase a0))], 52⟩ rfl <| et loop_normal <| ih (Go.IntKind.wrap .i64 (x18 + 1))
        · intro s; exact hret s
    · rw [hc]
      exact et k_exit <| et loop_exit <| hK0 x18
theorem ref12_isCondition_ok (k : Nat) (a0 : T_api_Base) (a1 : Int) (a2 : (List (List T_api_Term))) : EV k 37 [(eBase a0), (I a1), (V.sl 0 1 (List.map sTerm a2))] = (ref12_isCondition k a0 a1 a2).map ref12_isCondition_fin := by
  cases k with
  | zero => rfl
  | succ k =>
    unfold ref12_isCondition
    refine et (evF_succ (c := f37c) (N := 52) (regs := f37n) rfl func37 rfl (by decide) rfl rfl rfl) <| kr ⟨[(1, (I a1)), (2, (V.sl 0 1 (List.map sTerm a2))), (3, (Pt 3))], [(3, vS 4 (eBase a0))], 52⟩ rfl <| et k_assoc <| kra [(7, (I 0))] rfl <| et (k_block rfl) <| et k_loop ?_
    refine ref12_isCondition_L1_ok k a0 a1 a2 _ _ ?h_ref12_isCondition_L1_0 ?hr_ref12_isCondition_L1 k 0
    · intro y36
      refine et blk_exit <| krp f37a11 rfl ⟨[(6, (Bo (decide ((a2.length : Int) ≤ 4))))], [], 52⟩ ?_ ?_
      · exact rd 1 [(49, (V.sl 0 1 (List.map sTerm a2)))] rfl rfl <| rl rfl (p_len (e := sTerm) rfl rfl rfl rfl rfl rfl underlying26) <| bind_end rfl
      refine et k_lret ?_
      rfl
    · intro s; exact rfl
def ref12_asked_fin : Int → V × List V := fun r => ((I r), [])
theorem ref12_asked_ok (k : Nat) (a0 : T_api_Base) (a1 : Int) (a2 : (List (List T_api_Term))) (a3 : (List (List T_api_Term))) : EV k 19 [(eBase a0), (I a1), (V.sl 0 1 (List.map sTerm a2)), (V.sl 0 1 (List.map sTerm a3))] = (ref12_asked k a0 a1 a2 a3).map ref12_asked_fin := by
  cases k with
  | zero => rfl
  | succ k =>
    unfold ref12_asked
    refine et (evF_succ (c := f19c) (N := 30) (regs := f19n) rfl func19 rfl (by decide) rfl rfl rfl) <| kr ⟨[(1, (I a1)), (2, (V.sl 0 1 (List.map sTerm a2))), (3, (V.sl 0 1 (List.map sTerm a3))), (4, (Pt 4))], [(4, vS 4 (eBase a0))], 30⟩ rfl <| kga f19a1 rfl (fun (o2 : Int) => [(9, (I o2))]) (rd 2 [(10, (eBase a0)), (11, (I a1))] rfl rfl <| rs rfl (p_call rfl rfl rfl rfl rfl (ref12_isType_ok k a0 a1) (.inl rfl)) fun v1 => bind_end rfl) fun o2 => et k_assoc <| kg f19a2 rfl (fun (o5 : Bool) => ⟨[(9, (I o2)), (28, (Bo o5))], [], 30⟩) ?_ fun o5 => ?_
    · refine rd 3 [(13, (I o2)), (14, (Bo (o2 == 0))), (15, (Bo (o2 == 0)))] rfl rfl <| bifE (fun hc => ?_) fun hc => ?_
      · rw [hc]
        refine rd 6 [(16, (eBase a0)), (17, (I a1)), (18, (V.sl 0 1 (List.map sTerm a2)))] rfl rfl <| rp rfl (p_call rfl rfl rfl rfl rfl (ref12_isCondition_ok k a0 a1 a2) (.inl rfl)) fun v3 => bd 9 [(19, (Bo v3)), (20, (Bo (!v3))), (21, (Bo (!v3)))] rfl rfl <| bifE (fun hc => ?_) fun hc => ?_
        · rw [hc]
          exact reg_end rfl
        · rw [hc]
          exact rd 12 [(22, (eBase a0)), (23, (I a1)), (24, (V.sl 0 1 (List.map sTerm a3)))] rfl rfl <| rp rfl (p_call rfl rfl rfl rfl rfl (ref12_isCondition_ok k a0 a1 a3) (.inl rfl)) fun v4 => bind_end rfl
      · rw [hc]
        exact reg_end rfl
    refine kc rfl rfl (fun hc => ?_) fun hc => ?_
    · rw [hc]
      refine kr ⟨[(9, (I 110))], [], 30⟩ rfl <| kr ⟨[(8, (I 110))], [], 30⟩ rfl <| et k_lret ?_
      rfl
    · rw [hc]
      refine et k_skip <| kr ⟨[(8, (I o2))], [], 30⟩ rfl <| et k_lret ?_
      rfl
def ref12_Padded_fin : Str → V × List V := fun r => ((Sr r), [])
theorem ref12_Padded_L1_ok (k : Nat) (a0 : Str)  (K0 : Str → Option Str) (Kst : X × St → Option (V × List V)) (hK0 : ∀ (y0 : Str), Kst (X.exit 0, ⟨[(0, (Sr y0)), (5, (Bo false))], [], 9⟩) = (K0 y0).map ref12_Padded_fin) (hret : ∀ s, Kst (X.ret, s) = endK prog 9 [(Sr a0)] [] [.tmp 2] (X.ret, s)) :
    ∀ (m : Nat) (x3 : Str), (iter (exec prog (EV k) f38n k f38b0) m ⟨[(0, (Sr x3))], [], 9⟩).bind Kst = (ref12_Padded_L1 K0 m x3).map ref12_Padded_fin := by
  intro m
  induction m with
  | zero => intros; rfl
  | succ m ih =>
    intro x3
    unfold ref12_Padded_L1
    refine et k_round <| et k_assoc <| kra [(5, (Bo (decide ((x3.length : Int) < 8))))] rfl <| kc rfl rfl (fun hc => ?_) fun hc => ?_
    · rw [hc]
      exact et k_skip <| et (k_lblock rfl) <| kgl f38a2 rfl (fun (o5 : Str) => ⟨[(0, (Sr o5))], [], 9⟩) (rd 1 [(6, (Sr x3))] rfl rfl <| rs rfl (p_cat rfl rfl rfl) fun v4 => bind_end rfl) fun o5 => et blk_normal <| et k_lskip <| et loop_normal <| ih o5
    · rw [hc]
      exact et k_exit <| et loop_exit <| hK0 x3
theorem ref12_Padded_ok (k : Nat) (a0 : Str) : EV k 38 [(Sr a0)] = (ref12_Padded k a0).map ref12_Padded_fin := by
  cases k with
  | zero => rfl
  | succ k =>
    unfold ref12_Padded
    refine et (evF_succ (c := f38c) (N := 9) (regs := f38n) rfl func38 rfl (by decide) rfl rfl rfl) <| kra [] rfl <| et (k_block rfl) <| et k_loop ?_
    refine ref12_Padded_L1_ok k a0 _ _ ?h_ref12_Padded_L1_0 ?hr_ref12_Padded_L1 k a0
    · intro y6
      refine et blk_exit <| kr ⟨[(2, (Sr y6))], [], 9⟩ rfl <| et k_lret ?_
      rfl
    · intro s; exact rfl
def ref12_sign_fin : Str → V × List V := fun r => ((Sr r), [])
theorem ref12_sign_ok (k : Nat) (a0 : Int) : EV k 39 [(I a0)] = (ref12_sign k a0).map ref12_sign_fin := by
  cases k with
  | zero => rfl
  | succ k =>
    unfold ref12_sign
    refine et (evF_succ (c := f39c) (N := 14) (regs := f39n) rfl func39 rfl (by decide) rfl rfl rfl) <| kra [] rfl <| et k_assoc <| kr ⟨[(3, (I a0))], [], 14⟩ rfl <| et (k_block rfl) <| kra [(4, (Bo (a0 == 1)))] rfl <| kcl rfl rfl (fun hc => ?_) fun hc => ?_
    · rw [hc]
      refine kr ⟨[(2, (Sr ([61, 32] : Str)))], [], 14⟩ rfl <| et k_lret <| et blk_ret ?_
      rfl
    · rw [hc]
      refine kr ⟨[(3, (I a0)), (6, (Bo (a0 == 2)))], [], 14⟩ rfl <| kcl rfl rfl (fun hc => ?_) fun hc => ?_
      · rw [hc]
        refine kr ⟨[(2, (Sr ([60, 62] : Str)))], [], 14⟩ rfl <| et k_lret <| et blk_ret ?_
        rfl
      · rw [hc]
        refine kr ⟨[(3, (I a0)), (8, (Bo (a0 == 3)))], [], 14⟩ rfl <| kcl rfl rfl (fun hc => ?_) fun hc => ?_
        · rw [hc]
          refine kr ⟨[(2, (Sr ([60, 32] : Str)))], [], 14⟩ rfl <| et k_lret <| et blk_ret ?_
          rfl
        · rw [hc]
          refine kr ⟨[(3, (I a0)), (10, (Bo (a0 == 4)))], [], 14⟩ rfl <| kcl rfl rfl (fun hc => ?_) fun hc => ?_
          · rw [hc]
            refine kr ⟨[(2, (Sr ([60, 61] : Str)))], [], 14⟩ rfl <| et k_lret <| et blk_ret ?_
            rfl
          · rw [hc]
            refine kr ⟨[(12, (Bo (a0 == 5)))], [], 14⟩ rfl <| kcl rfl rfl (fun hc => ?_) fun hc => ?_
            · rw [hc]
              refine kr ⟨[(2, (Sr ([62, 32] : Str)))], [], 14⟩ rfl <| et k_lret <| et blk_ret ?_
              rfl
            · rw [hc]
              refine et k_lskip <| et blk_normal <| kr ⟨[(2, (Sr ([62, 61] : Str)))], [], 14⟩ rfl <| et k_lret ?_
              rfl
def ref12_format_fin : Str → V × List V := fun r => ((Sr r), [])
theorem ref12_format_L2_ok (k : Nat) (a0 : (List (List T_api_Term))) (x124 : Int)  (K0 : Str → Int → Option Str) (Kst : X × St → Option (V × List V)) (hK0 : ∀ (y0 : Str) (y1 : Int), Kst (X.exit 2, ⟨[(0, (V.sl 0 1 (List.map sTerm a0))), (3, (Sr y0)), (4, (I x124)), (5, (I y1)), (22, (Bo false))], [], 60⟩) = (K0 y0 y1).map ref12_format_fin) (hret : ∀ s, Kst (X.ret, s) = endK prog 60 [(V.sl 0 1 (List.map sTerm a0))] [] [.tmp 2] (X.ret, s)) :
    ∀ (m : Nat) (x155 : Str) (x156 : Int), (iter (exec prog (EV k) f20n k f20b0) m ⟨[(0, (V.sl 0 1 (List.map sTerm a0))), (3, (Sr x155)), (4, (I x124)), (5, (I x156))], [], 60⟩).bind Kst = (ref12_format_L2 k a0 x124 K0 m x155 x156).map ref12_format_fin := by
  intro m
  induction m with
  | zero => intros; rfl
  | succ m ih =>
    intro x155 x156
    unfold ref12_format_L2
    refine et k_round <| et k_assoc <| kga f20a8 rfl (fun (o158 : Bool) => [(22, (Bo o158))]) (rd 3 [(16, (I x156)), (17, (V.sl 0 1 (List.map sTerm a0))), (18, (I x124))] rfl rfl <| rp rfl (p_index (e := sTerm) rfl rfl rfl underlying26 rfl (by decide)) fun v157 => bd 5 [(19, (Pr (sTerm v157))), (20, (sTerm v157))] rfl rfl <| rl rfl (p_len (e := eTerm) rfl rfl rfl rfl rfl rfl underlying46) <| bind_end rfl) fun o158 => kc rfl rfl (fun hc => ?_) fun hc => ?_
    · rw [hc]
      refine et k_skip <| et (k_block rfl) <| et k_assoc <| kr ⟨[(0, (V.sl 0 1 (List.map sTerm a0))), (3, (Sr x155)), (4, (I x124)), (5, (I x156)), (26, (Bo (decide (x156 > 0))))], [], 60⟩ rfl <| kc rfl rfl (fun hc => ?_) fun hc => ?_
      · rw [hc]
        refine kg f20a11 rfl (fun (o160 : Str) => ⟨[(0, (V.sl 0 1 (List.map sTerm a0))), (3, (Sr o160)), (4, (I x124)), (5, (I x156))], [], 60⟩) (rd 1 [(27, (Sr x155))] rfl rfl <| rs rfl (p_cat rfl rfl rfl) fun v159 => bind_end rfl) fun o160 => kdl f20a12 rfl (fun (o172 : Str) => ⟨[(0, (V.sl 0 1 (List.map sTerm a0))), (3, (Sr o172)), (4, (I x124)), (5, (I x156))], [], 60⟩) ?_ fun o172 => ?_
        · refine et (regionE_regp (p := 30) (dk := true) (t := [(0, (V.sl 0 1 (List.map sTerm a0))), (3, (Sr o160)), (4, (I x124)), (5, (I x156))]) (σ := []) (n := 60) rfl (by decide) (by decide) rfl) <| et (regp_adv (m := 3) (j := 3) (t' := [(0, (V.sl 0 1 (List.map sTerm a0))), (3, (Sr o160)), (4, (I x124)), (5, (I x156)), (29, (Sr o160)), (30, (V.sl 0 1 (List.map sTerm a0))), (31, (I x124))]) rfl rfl rfl) <| et (regp_pure (x := (idx a0 x124)) (w := fun v161 => (Pr (sTerm v161))) rfl rfl rfl rfl rfl (p_index (e := sTerm) rfl rfl rfl underlying26 rfl (by decide))) <| bindE fun v161 => et (putp_adv (m := 2) (j := 6) (t' := [(0, (V.sl 0 1 (List.map sTerm a0))), (3, (Sr o160)), (4, (I x124)), (5, (I x156)), (29, (Sr o160)), (30, (V.sl 0 1 (List.map sTerm a0))), (31, (I x124)), (32, (Pr (sTerm v161))), (33, (sTerm v161)), (34, (I x156))]) rfl rfl rfl) <| et (regp_pure (x := (idx v161 x156)) (w := fun v162 => (Pr (eTerm v162))) rfl rfl rfl rfl rfl (p_index (e := eTerm) rfl rfl rfl underlying46 rfl (by decide))) <| bindE fun v162 => et (putp_adv (m := 2) (j := 9) (t' := [(0, (V.sl 0 1 (List.map sTerm a0))), (3, (Sr o160)), (4, (I x124)), (5, (I x156)), (29, (Sr o160)), (30, (V.sl 0 1 (List.map sTerm a0))), (31, (I x124)), (32, (Pr (sTerm v161))), (33, (sTerm v161)), (34, (I x156)), (35, (Pr (eTerm v162))), (36, (Pr (Sr v162.fField))), (37, (Sr v162.fField))]) rfl rfl rfl) <| et (regp_pure (x := (ref12_Padded k v162.fField)) (w := fun v163 => (Sr v163)) rfl rfl rfl rfl rfl (p_call rfl rfl rfl rfl rfl (ref12_Padded_ok k v162.fField) (.inl rfl))) <| bindE fun v163 => et (putp_adv (m := 2) (j := 12) (t' := [(0, (V.sl 0 1 (List.map sTerm a0))), (3, (Sr o160)), (4, (I x124)), (5, (I x156)), (29, (Sr o160)), (30, (V.sl 0 1 (List.map sTerm a0))), (31, (I x124)), (32, (Pr (sTerm v161))), (33, (sTerm v161)), (34, (I x156)), (35, (Pr (eTerm v162))), (36, (Pr (Sr v162.fField))), (37, (Sr v162.fField)), (38, (Sr v163)), (39, (V.sl 0 1 (List.map sTerm a0))), (40, (I x124))]) rfl rfl rfl) <| et (regp_pure (x := (idx a0 x124)) (w := fun v164 => (Pr (sTerm v164))) rfl rfl rfl rfl rfl (p_index (e := sTerm) rfl rfl rfl underlying26 rfl (by decide))) <| bindE fun v164 => et (putp_adv (m := 2) (j := 15) (t' := [(0, (V.sl 0 1 (List.map sTerm a0))), (3, (Sr o160)), (4, (I x124)), (5, (I x156)), (29, (Sr o160)), (30, (V.sl 0 1 (List.map sTerm a0))), (31, (I x124)), (32, (Pr (sTerm v161))), (33, (sTerm v161)), (34, (I x156)), (35, (Pr (eTerm v162))), (36, (Pr (Sr v162.fField))), (37, (Sr v162.fField)), (38, (Sr v163)), (39, (V.sl 0 1 (List.map sTerm a0))), (40, (I x124)), (41, (Pr (sTerm v164))), (42, (sTerm v164)), (43, (I x156))]) rfl rfl rfl) <| et (regp_pure (x := (idx v164 x156)) (w := fun v165 => (Pr (eTerm v165))) rfl rfl rfl rfl rfl (p_index (e := eTerm) rfl rfl rfl underlying46 rfl (by decide))) <| bindE fun v165 => et (putp_adv (m := 2) (j := 18) (t' := [(0, (V.sl 0 1 (List.map sTerm a0))), (3, (Sr o160)), (4, (I x124)), (5, (I x156)), (29, (Sr o160)), (30, (V.sl 0 1 (List.map sTerm a0))), (31, (I x124)), (32, (Pr (sTerm v161))), (33, (sTerm v161)), (34, (I x156)), (35, (Pr (eTerm v162))), (36, (Pr (Sr v162.fField))), (37, (Sr v162.fField)), (38, (Sr v163)), (39, (V.sl 0 1 (List.map sTerm a0))), (40, (I x124)), (41, (Pr (sTerm v164))), (42, (sTerm v164)), (43, (I x156)), (44, (Pr (eTerm v165))), (45, (Pr (I v165.fOp))), (46, (I v165.fOp))]) rfl rfl rfl) <| et (regp_pure (x := (ref12_sign k v165.fOp)) (w := fun v166 => (Sr v166)) rfl rfl rfl rfl rfl (p_call rfl rfl rfl rfl rfl (ref12_sign_ok k v165.fOp) (.inl rfl))) <| bindE fun v166 => et (putp_adv (m := 0) (j := 19) (t' := [(0, (V.sl 0 1 (List.map sTerm a0))), (3, (Sr o160)), (4, (I x124)), (5, (I x156)), (29, (Sr o160)), (30, (V.sl 0 1 (List.map sTerm a0))), (31, (I x124)), (32, (Pr (sTerm v161))), (33, (sTerm v161)), (34, (I x156)), (35, (Pr (eTerm v162))), (36, (Pr (Sr v162.fField))), (37, (Sr v162.fField)), (38, (Sr v163)), (39, (V.sl 0 1 (List.map sTerm a0))), (40, (I x124)), (41, (Pr (sTerm v164))), (42, (sTerm v164)), (43, (I x156)), (44, (Pr (eTerm v165))), (45, (Pr (I v165.fOp))), (46, (I v165.fOp)), (47, (Sr v166))]) rfl rfl rfl) <| et (regp_pure (x := (cat v163 v166)) (w := fun v167 => (Sr v167)) rfl rfl rfl rfl rfl (p_cat rfl rfl rfl)) <| bindE fun v167 => et (putp_adv (m := 2) (j := 22) (t' := [(0, (V.sl 0 1 (List.map sTerm a0))), (3, (Sr o160)), (4, (I x124)), (5, (I x156)), (29, (Sr o160)), (30, (V.sl 0 1 (List.map sTerm a0))), (31, (I x124)), (32, (Pr (sTerm v161))), (33, (sTerm v161)), (34, (I x156)), (35, (Pr (eTerm v162))), (36, (Pr (Sr v162.fField))), (37, (Sr v162.fField)), (38, (Sr v163)), (39, (V.sl 0 1 (List.map sTerm a0))), (40, (I x124)), (41, (Pr (sTerm v164))), (42, (sTerm v164)), (43, (I x156)), (44, (Pr (eTerm v165))), (45, (Pr (I v165.fOp))), (46, (I v165.fOp)), (47, (Sr v166)), (48, (Sr v167)), (49, (V.sl 0 1 (List.map sTerm a0))), (50, (I x124))]) rfl rfl rfl) <| et (regp_pure (x := (idx a0 x124)) (w := fun v168 => (Pr (sTerm v168))) rfl rfl rfl rfl rfl (p_index (e := sTerm) rfl rfl rfl underlying26 rfl (by decide))) <| bindE fun v168 => et (putp_adv (m := 2) (j := 25) (t' := [(0, (V.sl 0 1 (List.map sTerm a0))), (3, (Sr o160)), (4, (I x124)), (5, (I x156)), (29, (Sr o160)), (30, (V.sl 0 1 (List.map sTerm a0))), (31, (I x124)), (32, (Pr (sTerm v161))), (33, (sTerm v161)), (34, (I x156)), (35, (Pr (eTerm v162))), (36, (Pr (Sr v162.fField))), (37, (Sr v162.fField)), (38, (Sr v163)), (39, (V.sl 0 1 (List.map sTerm a0))), (40, (I x124)), (41, (Pr (sTerm v164))), (42, (sTerm v164)), (43, (I x156)), (44, (Pr (eTerm v165))), (45, (Pr (I v165.fOp))), (46, (I v165.fOp)), (47, (Sr v166)), (48, (Sr v167)), (49, (V.sl 0 1 (List.map sTerm a0))), (50, (I x124)), (51, (Pr (sTerm v168))), (52, (sTerm v168)), (53, (I x156))]) rfl rfl rfl) <| et (regp_pure (x := (idx v168 x156)) (w := fun v169 => (Pr (eTerm v169))) rfl rfl rfl rfl rfl (p_index (e := eTerm) rfl rfl rfl underlying46 rfl (by decide))) <| bindE fun v169 => et (putp_adv (m := 2) (j := 28) (t' := [(0, (V.sl 0 1 (List.map sTerm a0))), (3, (Sr o160)), (4, (I x124)), (5, (I x156)), (29, (Sr o160)), (30, (V.sl 0 1 (List.map sTerm a0))), (31, (I x124)), (32, (Pr (sTerm v161))), (33, (sTerm v161)), (34, (I x156)), (35, (Pr (eTerm v162))), (36, (Pr (Sr v162.fField))), (37, (Sr v162.fField)), (38, (Sr v163)), (39, (V.sl 0 1 (List.map sTerm a0))), (40, (I x124)), (41, (Pr (sTerm v164))), (42, (sTerm v164)), (43, (I x156)), (44, (Pr (eTerm v165))), (45, (Pr (I v165.fOp))), (46, (I v165.fOp)), (47, (Sr v166)), (48, (Sr v167)), (49, (V.sl 0 1 (List.map sTerm a0))), (50, (I x124)), (51, (Pr (sTerm v168))), (52, (sTerm v168)), (53, (I x156)), (54, (Pr (eTerm v169))), (55, (Pr (Sr v169.fValue))), (56, (Sr v169.fValue))]) rfl rfl rfl) <| et (regp_pure (x := (cat v167 v169.fValue)) (w := fun v170 => (Sr v170)) rfl rfl rfl rfl rfl (p_cat rfl rfl rfl)) <| bindE fun v170 => et (putp_adv (m := 0) (j := 29) (t' := [(0, (V.sl 0 1 (List.map sTerm a0))), (3, (Sr o160)), (4, (I x124)), (5, (I x156)), (29, (Sr o160)), (30, (V.sl 0 1 (List.map sTerm a0))), (31, (I x124)), (32, (Pr (sTerm v161))), (33, (sTerm v161)), (34, (I x156)), (35, (Pr (eTerm v162))), (36, (Pr (Sr v162.fField))), (37, (Sr v162.fField)), (38, (Sr v163)), (39, (V.sl 0 1 (List.map sTerm a0))), (40, (I x124)), (41, (Pr (sTerm v164))), (42, (sTerm v164)), (43, (I x156)), (44, (Pr (eTerm v165))), (45, (Pr (I v165.fOp))), (46, (I v165.fOp)), (47, (Sr v166)), (48, (Sr v167)), (49, (V.sl 0 1 (List.map sTerm a0))), (50, (I x124)), (51, (Pr (sTerm v168))), (52, (sTerm v168)), (53, (I x156)), (54, (Pr (eTerm v169))), (55, (Pr (Sr v169.fValue))), (56, (Sr v169.fValue)), (57, (Sr v170))]) rfl rfl rfl) ?_
          exact et (regp_pure (x := (cat o160 v170)) (w := fun v171 => (Sr v171)) rfl rfl rfl rfl rfl (p_cat rfl rfl rfl)) <| bind_self fun v171 => regp_end rfl
        exact et blk_normal <| kl ⟨[(0, (V.sl 0 1 (List.map sTerm a0))), (3, (Sr o172)), (4, (I x124)), (5, (I (Go.IntKind.wrap .i64 (x156 + 1))))], [], 60⟩ rfl <| et loop_normal <| ih o172 (Go.IntKind.wrap .i64 (x156 + 1))
      · rw [hc]
        refine et k_skip <| kdl f20a12 rfl (fun (o184 : Str) => ⟨[(0, (V.sl 0 1 (List.map sTerm a0))), (3, (Sr o184)), (4, (I x124)), (5, (I x156))], [], 60⟩) ?_ fun o184 => ?_
        · refine et (regionE_regp (p := 30) (dk := true) (t := [(0, (V.sl 0 1 (List.map sTerm a0))), (3, (Sr x155)), (4, (I x124)), (5, (I x156)), (26, (Bo false))]) (σ := []) (n := 60) rfl (by decide) (by decide) rfl) <| et (regp_adv (m := 3) (j := 3) (t' := [(0, (V.sl 0 1 (List.map sTerm a0))), (3, (Sr x155)), (4, (I x124)), (5, (I x156)), (26, (Bo false)), (29, (Sr x155)), (30, (V.sl 0 1 (List.map sTerm a0))), (31, (I x124))]) rfl rfl rfl) <| et (regp_pure (x := (idx a0 x124)) (w := fun v173 => (Pr (sTerm v173))) rfl rfl rfl rfl rfl (p_index (e := sTerm) rfl rfl rfl underlying26 rfl (by decide))) <| bindE fun v173 => et (putp_adv (m := 2) (j := 6) (t' := [(0, (V.sl 0 1 (List.map sTerm a0))), (3, (Sr x155)), (4, (I x124)), (5, (I x156)), (26, (Bo false)), (29, (Sr x155)), (30, (V.sl 0 1 (List.map sTerm a0))), (31, (I x124)), (32, (Pr (sTerm v173))), (33, (sTerm v173)), (34, (I x156))]) rfl rfl rfl) <| et (regp_pure (x := (idx v173 x156)) (w := fun v174 => (Pr (eTerm v174))) rfl rfl rfl rfl rfl (p_index (e := eTerm) rfl rfl rfl underlying46 rfl (by decide))) <| bindE fun v174 => et (putp_adv (m := 2) (j := 9) (t' := [(0, (V.sl 0 1 (List.map sTerm a0))), (3, (Sr x155)), (4, (I x124)), (5, (I x156)), (26, (Bo false)), (29, (Sr x155)), (30, (V.sl 0 1 (List.map sTerm a0))), (31, (I x124)), (32, (Pr (sTerm v173))), (33, (sTerm v173)), (34, (I x156)), (35, (Pr (eTerm v174))), (36, (Pr (Sr v174.fField))), (37, (Sr v174.fField))]) rfl rfl rfl) <| et (regp_pure (x := (ref12_Padded k v174.fField)) (w := fun v175 => (Sr v175)) rfl rfl rfl rfl rfl (p_call rfl rfl rfl rfl rfl (ref12_Padded_ok k v174.fField) (.inl rfl))) <| bindE fun v175 => et (putp_adv (m := 2) (j := 12) (t' := [(0, (V.sl 0 1 (List.map sTerm a0))), (3, (Sr x155)), (4, (I x124)), (5, (I x156)), (26, (Bo false)), (29, (Sr x155)), (30, (V.sl 0 1 (List.map sTerm a0))), (31, (I x124)), (32, (Pr (sTerm v173))), (33, (sTerm v173)), (34, (I x156)), (35, (Pr (eTerm v174))), (36, (Pr (Sr v174.fField))), (37, (Sr v174.fField)), (38, (Sr v175)), (39, (V.sl 0 1 (List.map sTerm a0))), (40, (I x124))]) rfl rfl rfl) <| et (regp_pure (x := (idx a0 x124)) (w := fun v176 => (Pr (sTerm v176))) rfl rfl rfl rfl rfl (p_index (e := sTerm) rfl rfl rfl underlying26 rfl (by decide))) <| bindE fun v176 => et (putp_adv (m := 2) (j := 15) (t' := [(0, (V.sl 0 1 (List.map sTerm a0))), (3, (Sr x155)), (4, (I x124)), (5, (I x156)), (26, (Bo false)), (29, (Sr x155)), (30, (V.sl 0 1 (List.map sTerm a0))), (31, (I x124)), (32, (Pr (sTerm v173))), (33, (sTerm v173)), (34, (I x156)), (35, (Pr (eTerm v174))), (36, (Pr (Sr v174.fField))), (37, (Sr v174.fField)), (38, (Sr v175)), (39, (V.sl 0 1 (List.map sTerm a0))), (40, (I x124)), (41, (Pr (sTerm v176))), (42, (sTerm v176)), (43, (I x156))]) rfl rfl rfl) <| et (regp_pure (x := (idx v176 x156)) (w := fun v177 => (Pr (eTerm v177))) rfl rfl rfl rfl rfl (p_index (e := eTerm) rfl rfl rfl underlying46 rfl (by decide))) <| bindE fun v177 => et (putp_adv (m := 2) (j := 18) (t' := [(0, (V.sl 0 1 (List.map sTerm a0))), (3, (Sr x155)), (4, (I x124)), (5, (I x156)), (26, (Bo false)), (29, (Sr x155)), (30, (V.sl 0 1 (List.map sTerm a0))), (31, (I x124)), (32, (Pr (sTerm v173))), (33, (sTerm v173)), (34, (I x156)), (35, (Pr (eTerm v174))), (36, (Pr (Sr v174.fField))), (37, (Sr v174.fField)), (38, (Sr v175)), (39, (V.sl 0 1 (List.map sTerm a0))), (40, (I x124)), (41, (Pr (sTerm v176))), (42, (sTerm v176)), (43, (I x156)), (44, (Pr (eTerm v177))), (45, (Pr (I v177.fOp))), (46, (I v177.fOp))]) rfl rfl rfl) <| et (regp_pure (x := (ref12_sign k v177.fOp)) (w := fun v178 => (Sr v178)) rfl rfl rfl rfl rfl (p_call rfl rfl rfl rfl rfl (ref12_sign_ok k v177.fOp) (.inl rfl))) <| bindE fun v178 => et (putp_adv (m := 0) (j := 19) (t' := [(0, (V.sl 0 1 (List.map sTerm a0))), (3, (Sr x155)), (4, (I x124)), (5, (I x156)), (26, (Bo false)), (29, (Sr x155)), (30, (V.sl 0 1 (List.map sTerm a0))), (31, (I x124)), (32, (Pr (sTerm v173))), (33, (sTerm v173)), (34, (I x156)), (35, (Pr (eTerm v174))), (36, (Pr (Sr v174.fField))), (37, (Sr v174.fField)), (38, (Sr v175)), (39, (V.sl 0 1 (List.map sTerm a0))), (40, (I x124)), (41, (Pr (sTerm v176))), (42, (sTerm v176)), (43, (I x156)), (44, (Pr (eTerm v177))), (45, (Pr (I v177.fOp))), (46, (I v177.fOp)), (47, (Sr v178))]) rfl rfl rfl) <| et (regp_pure (x := (cat v175 v178)) (w := fun v179 => (Sr v179)) rfl rfl rfl rfl rfl (p_cat rfl rfl rfl)) <| bindE fun v179 => et (putp_adv (m := 2) (j := 22) (t' := [(0, (V.sl 0 1 (List.map sTerm a0))), (3, (Sr x155)), (4, (I x124)), (5, (I x156)), (26, (Bo false)), (29, (Sr x155)), (30, (V.sl 0 1 (List.map sTerm a0))), (31, (I x124)), (32, (Pr (sTerm v173))), (33, (sTerm v173)), (34, (I x156)), (35, (Pr (eTerm v174))), (36, (Pr (Sr v174.fField))), (37, (Sr v174.fField)), (38, (Sr v175)), (39, (V.sl 0 1 (List.map sTerm a0))), (40, (I x124)), (41, (Pr (sTerm v176))), (42, (sTerm v176)), (43, (I x156)), (44, (Pr (eTerm v177))), (45, (Pr (I v177.fOp))), (46, (I v177.fOp)), (47, (Sr v178)), (48, (Sr v179)), (49, (V.sl 0 1 (List.map sTerm a0))), (50, (I x124))]) rfl rfl rfl) <| et (regp_pure (x := (idx a0 x124)) (w := fun v180 => (Pr (sTerm v180))) rfl rfl rfl rfl rfl (p_index (e := sTerm) rfl rfl rfl underlying26 rfl (by decide))) <| bindE fun v180 => et (putp_adv (m := 2) (j := 25) (t' := [(0, (V.sl 0 1 (List.map sTerm a0))), (3, (Sr x155)), (4, (I x124)), (5, (I x156)), (26, (Bo false)), (29, (Sr x155)), (30, (V.sl 0 1 (List.map sTerm a0))), (31, (I x124)), (32, (Pr (sTerm v173))), (33, (sTerm v173)), (34, (I x156)), (35, (Pr (eTerm v174))), (36, (Pr (Sr v174.fField))), (37, (Sr v174.fField)), (38, (Sr v175)), (39, (V.sl 0 1 (List.map sTerm a0))), (40, (I x124)), (41, (Pr (sTerm v176))), (42, (sTerm v176)), (43, (I x156)), (44, (Pr (eTerm v177))), (45, (Pr (I v177.fOp))), (46, (I v177.fOp)), (47, (Sr v178)), (48, (Sr v179)), (49, (V.sl 0 1 (List.map sTerm a0))), (50, (I x124)), (51, (Pr (sTerm v180))), (52, (sTerm v180)), (53, (I x156))]) rfl rfl rfl) <| et (regp_pure (x := (idx v180 x156)) (w := fun v181 => (Pr (eTerm v181))) rfl rfl rfl rfl rfl (p_index (e := eTerm) rfl rfl rfl underlying46 rfl (by decide))) <| bindE fun v181 => et (putp_adv (m := 2) (j := 28) (t' := [(0, (V.sl 0 1 (List.map sTerm a0))), (3, (Sr x155)), (4, (I x124)), (5, (I x156)), (26, (Bo false)), (29, (Sr x155)), (30, (V.sl 0 1 (List.map sTerm a0))), (31, (I x124)), (32, (Pr (sTerm v173))), (33, (sTerm v173)), (34, (I x156)), (35, (Pr (eTerm v174))), (36, (Pr (Sr v174.fField))), (37, (Sr v174.fField)), (38, (Sr v175)), (39, (V.sl 0 1 (List.map sTerm a0))), (40, (I x124)), (41, (Pr (sTerm v176))), (42, (sTerm v176)), (43, (I x156)), (44, (Pr (eTerm v177))), (45, (Pr (I v177.fOp))), (46, (I v177.fOp)), (47, (Sr v178)), (48, (Sr v179)), (49, (V.sl 0 1 (List.map sTerm a0))), (50, (I x124)), (51, (Pr (sTerm v180))), (52, (sTerm v180)), (53, (I x156)), (54, (Pr (eTerm v181))), (55, (Pr (Sr v181.fValue))), (56, (Sr v181.fValue))]) rfl rfl rfl) <| et (regp_pure (x := (cat v179 v181.fValue)) (w := fun v182 => (Sr v182)) rfl rfl rfl rfl rfl (p_cat rfl rfl rfl)) <| bindE fun v182 => et (putp_adv (m := 0) (j := 29) (t' := [(0, (V.sl 0 1 (List.map sTerm a0))), (3, (Sr x155)), (4, (I x124)), (5, (I x156)), (26, (Bo false)), (29, (Sr x155)), (30, (V.sl 0 1 (List.map sTerm a0))), (31, (I x124)), (32, (Pr (sTerm v173))), (33, (sTerm v173)), (34, (I x156)), (35, (Pr (eTerm v174))), (36, (Pr (Sr v174.fField))), (37, (Sr v174.fField)), (38, (Sr v175)), (39, (V.sl 0 1 (List.map sTerm a0))), (40, (I x124)), (41, (Pr (sTerm v176))), (42, (sTerm v176)), (43, (I x156)), (44, (Pr (eTerm v177))), (45, (Pr (I v177.fOp))), (46, (I v177.fOp)), (47, (Sr v178)), (48, (Sr v179)), (49, (V.sl 0 1 (List.map sTerm a0))), (50, (I x124)), (51, (Pr (sTerm v180))), (52, (sTerm v180)), (53, (I x156)), (54, (Pr (eTerm v181))), (55, (Pr (Sr v181.fValue))), (56, (Sr v181.fValue)), (57, (Sr v182))]) rfl rfl rfl) ?_
          exact et (regp_pure (x := (cat x155 v182)) (w := fun v183 => (Sr v183)) rfl rfl rfl rfl rfl (p_cat rfl rfl rfl)) <| bind_self fun v183 => regp_end rfl
        exact et blk_normal <| kl ⟨[(0, (V.sl 0 1 (List.map sTerm a0))), (3, (Sr o184)), (4, (I x124)), (5, (I (Go.IntKind.wrap .i64 (x156 + 1))))], [], 60⟩ rfl <| et loop_normal <| ih o184 (Go.IntKind.wrap .i64 (x156 + 1))
    · rw [hc]
      exact et k_exit <| et loop_exit <| hK0 x155 x156
theorem ref12_format_L3_ok (k : Nat) (a0 : (List (List T_api_Term))) (x124 : Int)  (K0 : Str → Int → Option Str) (Kst : X × St → Option (V × List V)) (hK0 : ∀ (y0 : Str) (y1 : Int), Kst (X.exit 2, ⟨[(0, (V.sl 0 1 (List.map sTerm a0))), (3, (Sr y0)), (4, (I x124)), (5, (I y1)), (22, (Bo false))], [], 60⟩) = (K0 y0 y1).map ref12_format_fin) (hret : ∀ s, Kst (X.ret, s) = endK prog 60 [(V.sl 0 1 (List.map sTerm a0))] [] [.tmp 2] (X.ret, s)) :
    ∀ (m : Nat) (x215 : Str) (x216 : Int), (iter (exec prog (EV k) f20n k f20b0) m ⟨[(0, (V.sl 0 1 (List.map sTerm a0))), (3, (Sr x215)), (4, (I x124)), (5, (I x216))], [], 60⟩).bind Kst = (ref12_format_L3 k a0 x124 K0 m x215 x216).map ref12_format_fin := by
  intro m
  induction m with
  | zero => intros; rfl
  | succ m ih =>
    intro x215 x216
    unfold ref12_format_L3
    refine et k_round <| et k_assoc <| kga f20a8 rfl (fun (o218 : Bool) => [(22, (Bo o218))]) (rd 3 [(16, (I x216)), (17, (V.sl 0 1 (List.map sTerm a0))), (18, (I x124))] rfl rfl <| rp rfl (p_index (e := sTerm) rfl rfl rfl underlying26 rfl (by decide)) fun v217 => bd 5 [(19, (Pr (sTerm v217))), (20, (sTerm v217))] rfl rfl <| rl rfl (p_len (e := eTerm) rfl rfl rfl rfl rfl rfl underlying46) <| bind_end rfl) fun o218 => kc rfl rfl (fun hc => ?_) fun hc => ?_
    · rw [hc]
      refine et k_skip <| et (k_block rfl) <| et k_assoc <| kr ⟨[(0, (V.sl 0 1 (List.map sTerm a0))), (3, (Sr x215)), (4, (I x124)), (5, (I x216)), (26, (Bo (decide (x216 > 0))))], [], 60⟩ rfl <| kc rfl rfl (fun hc => ?_) fun hc => ?_
      · rw [hc]
        refine kg f20a11 rfl (fun (o220 : Str) => ⟨[(0, (V.sl 0 1 (List.map sTerm a0))), (3, (Sr o220)), (4, (I x124)), (5, (I x216))], [], 60⟩) (rd 1 [(27, (Sr x215))] rfl rfl <| rs rfl (p_cat rfl rfl rfl) fun v219 => bind_end rfl) fun o220 => kdl f20a12 rfl (fun (o232 : Str) => ⟨[(0, (V.sl 0 1 (List.map sTerm a0))), (3, (Sr o232)), (4, (I x124)), (5, (I x216))], [], 60⟩) ?_ fun o232 => ?_
        · refine et (regionE_regp (p := 30) (dk := true) (t := [(0, (V.sl 0 1 (List.map sTerm a0))), (3, (Sr o220)), (4, (I x124)), (5, (I x216))]) (σ := []) (n := 60) rfl (by decide) (by decide) rfl) <| et (regp_adv (m := 3) (j := 3) (t' := [(0, (V.sl 0 1 (List.map sTerm a0))), (3, (Sr o220)), (4, (I x124)), (5, (I x216)), (29, (Sr o220)), (30, (V.sl 0 1 (List.map sTerm a0))), (31, (I x124))]) rfl rfl rfl) <| et (regp_pure (x := (idx a0 x124)) (w := fun v221 => (Pr (sTerm v221))) rfl rfl rfl rfl rfl (p_index (e := sTerm) rfl rfl rfl underlying26 rfl (by decide))) <| bindE fun v221 => et (putp_adv (m := 2) (j := 6) (t' := [(0, (V.sl 0 1 (List.map sTerm a0))), (3, (Sr o220)), (4, (I x124)), (5, (I x216)), (29, (Sr o220)), (30, (V.sl 0 1 (List.map sTerm a0))), (31, (I x124)), (32, (Pr (sTerm v221))), (33, (sTerm v221)), (34, (I x216))]) rfl rfl rfl) <| et (regp_pure (x := (idx v221 x216)) (w := fun v222 => (Pr (eTerm v222))) rfl rfl rfl rfl rfl (p_index (e := eTerm) rfl rfl rfl underlying46 rfl (by decide))) <| bindE fun v222 => et (putp_adv (m := 2) (j := 9) (t' := [(0, (V.sl 0 1 (List.map sTerm a0))), (3, (Sr o220)), (4, (I x124)), (5, (I x216)), (29, (Sr o220)), (30, (V.sl 0 1 (List.map sTerm a0))), (31, (I x124)), (32, (Pr (sTerm v221))), (33, (sTerm v221)), (34, (I x216)), (35, (Pr (eTerm v222))), (36, (Pr (Sr v222.fField))), (37, (Sr v222.fField))]) rfl rfl rfl) <| et (regp_pure (x := (ref12_Padded k v222.fField)) (w := fun v223 => (Sr v223)) rfl rfl rfl rfl rfl (p_call rfl rfl rfl rfl rfl (ref12_Padded_ok k v222.fField) (.inl rfl))) <| bindE fun v223 => et (putp_adv (m := 2) (j := 12) (t' := [(0, (V.sl 0 1 (List.map sTerm a0))), (3, (Sr o220)), (4, (I x124)), (5, (I x216)), (29, (Sr o220)), (30, (V.sl 0 1 (List.map sTerm a0))), (31, (I x124)), (32, (Pr (sTerm v221))), (33, (sTerm v221)), (34, (I x216)), (35, (Pr (eTerm v222))), (36, (Pr (Sr v222.fField))), (37, (Sr v222.fField)), (38, (Sr v223)), (39, (V.sl 0 1 (List.map sTerm a0))), (40, (I x124))]) rfl rfl rfl) <| et (regp_pure (x := (idx a0 x124)) (w := fun v224 => (Pr (sTerm v224))) rfl rfl rfl rfl rfl (p_index (e := sTerm) rfl rfl rfl underlying26 rfl (by decide))) <| bindE fun v224 => et (putp_adv (m := 2) (j := 15) (t' := [(0, (V.sl 0 1 (List.map sTerm a0))), (3, (Sr o220)), (4, (I x124)), (5, (I x216)), (29, (Sr o220)), (30, (V.sl 0 1 (List.map sTerm a0))), (31, (I x124)), (32, (Pr (sTerm v221))), (33, (sTerm v221)), (34, (I x216)), (35, (Pr (eTerm v222))), (36, (Pr (Sr v222.fField))), (37, (Sr v222.fField)), (38, (Sr v223)), (39, (V.sl 0 1 (List.map sTerm a0))), (40, (I x124)), (41, (Pr (sTerm v224))), (42, (sTerm v224)), (43, (I x216))]) rfl rfl rfl) <| et (regp_pure (x := (idx v224 x216)) (w := fun v225 => (Pr (eTerm v225))) rfl rfl rfl rfl rfl (p_index (e := eTerm) rfl rfl rfl underlying46 rfl (by decide))) <| bindE fun v225 => et (putp_adv (m := 2) (j := 18) (t' := [(0, (V.sl 0 1 (List.map sTerm a0))), (3, (Sr o220)), (4, (I x124)), (5, (I x216)), (29, (Sr o220)), (30, (V.sl 0 1 (List.map sTerm a0))), (31, (I x124)), (32, (Pr (sTerm v221))), (33, (sTerm v221)), (34, (I x216)), (35, (Pr (eTerm v222))), (36, (Pr (Sr v222.fField))), (37, (Sr v222.fField)), (38, (Sr v223)), (39, (V.sl 0 1 (List.map sTerm a0))), (40, (I x124)), (41, (Pr (sTerm v224))), (42, (sTerm v224)), (43, (I x216)), (44, (Pr (eTerm v225))), (45, (Pr (I v225.fOp))), (46, (I v225.fOp))]) rfl rfl rfl) <| et (regp_pure (x := (ref12_sign k v225.fOp)) (w := fun v226 => (Sr v226)) rfl rfl rfl rfl rfl (p_call rfl rfl rfl rfl rfl (ref12_sign_ok k v225.fOp) (.inl rfl))) <| bindE fun v226 => et (putp_adv (m := 0) (j := 19) (t' := [(0, (V.sl 0 1 (List.map sTerm a0))), (3, (Sr o220)), (4, (I x124)), (5, (I x216)), (29, (Sr o220)), (30, (V.sl 0 1 (List.map sTerm a0))), (31, (I x124)), (32, (Pr (sTerm v221))), (33, (sTerm v221)), (34, (I x216)), (35, (Pr (eTerm v222))), (36, (Pr (Sr v222.fField))), (37, (Sr v222.fField)), (38, (Sr v223)), (39, (V.sl 0 1 (List.map sTerm a0))), (40, (I x124)), (41, (Pr (sTerm v224))), (42, (sTerm v224)), (43, (I x216)), (44, (Pr (eTerm v225))), (45, (Pr (I v225.fOp))), (46, (I v225.fOp)), (47, (Sr v226))]) rfl rfl rfl) <| et (regp_pure (x := (cat v223 v226)) (w := fun v227 => (Sr v227)) rfl rfl rfl rfl rfl (p_cat rfl rfl rfl)) <| bindE fun v227 => et (putp_adv (m := 2) (j := 22) (t' := [(0, (V.sl 0 1 (List.map sTerm a0))), (3, (Sr o220)), (4, (I x124)), (5, (I x216)), (29, (Sr o220)), (30, (V.sl 0 1 (List.map sTerm a0))), (31, (I x124)), (32, (Pr (sTerm v221))), (33, (sTerm v221)), (34, (I x216)), (35, (Pr (eTerm v222))), (36, (Pr (Sr v222.fField))), (37, (Sr v222.fField)), (38, (Sr v223)), (39, (V.sl 0 1 (List.map sTerm a0))), (40, (I x124)), (41, (Pr (sTerm v224))), (42, (sTerm v224)), (43, (I x216)), (44, (Pr (eTerm v225))), (45, (Pr (I v225.fOp))), (46, (I v225.fOp)), (47, (Sr v226)), (48, (Sr v227)), (49, (V.sl 0 1 (List.map sTerm a0))), (50, (I x124))]) rfl rfl rfl) <| et (regp_pure (x := (idx a0 x124)) (w := fun v228 => (Pr (sTerm v228))) rfl rfl rfl rfl rfl (p_index (e := sTerm) rfl rfl rfl underlying26 rfl (by decide))) <| bindE fun v228 => et (putp_adv (m := 2) (j := 25) (t' := [(0, (V.sl 0 1 (List.map sTerm a0))), (3, (Sr o220)), (4, (I x124)), (5, (I x216)), (29, (Sr o220)), (30, (V.sl 0 1 (List.map sTerm a0))), (31, (I x124)), (32, (Pr (sTerm v221))), (33, (sTerm v221)), (34, (I x216)), (35, (Pr (eTerm v222))), (36, (Pr (Sr v222.fField))), (37, (Sr v222.fField)), (38, (Sr v223)), (39, (V.sl 0 1 (List.map sTerm a0))), (40, (I x124)), (41, (Pr (sTerm v224))), (42, (sTerm v224)), (43, (I x216)), (44, (Pr (eTerm v225))), (45, (Pr (I v225.fOp))), (46, (I v225.fOp)), (47, (Sr v226)), (48, (Sr v227)), (49, (V.sl 0 1 (List.map sTerm a0))), (50, (I x124)), (51, (Pr (sTerm v228))), (52, (sTerm v228)), (53, (I x216))]) rfl rfl rfl) <| et (regp_pure (x := (idx v228 x216)) (w := fun v229 => (Pr (eTerm v229))) rfl rfl rfl rfl rfl (p_index (e := eTerm) rfl rfl rfl underlying46 rfl (by decide))) <| bindE fun v229 => et (putp_adv (m := 2) (j := 28) (t' := [(0, (V.sl 0 1 (List.map sTerm a0))), (3, (Sr o220)), (4, (I x124)), (5, (I x216)), (29, (Sr o220)), (30, (V.sl 0 1 (List.map sTerm a0))), (31, (I x124)), (32, (Pr (sTerm v221))), (33, (sTerm v221)), (34, (I x216)), (35, (Pr (eTerm v222))), (36, (Pr (Sr v222.fField))), (37, (Sr v222.fField)), (38, (Sr v223)), (39, (V.sl 0 1 (List.map sTerm a0))), (40, (I x124)), (41, (Pr (sTerm v224))), (42, (sTerm v224)), (43, (I x216)), (44, (Pr (eTerm v225))), (45, (Pr (I v225.fOp))), (46, (I v225.fOp)), (47, (Sr v226)), (48, (Sr v227)), (49, (V.sl 0 1 (List.map sTerm a0))), (50, (I x124)), (51, (Pr (sTerm v228))), (52, (sTerm v228)), (53, (I x216)), (54, (Pr (eTerm v229))), (55, (Pr (Sr v229.fValue))), (56, (Sr v229.fValue))]) rfl rfl rfl) <| et (regp_pure (x := (cat v227 v229.fValue)) (w := fun v230 => (Sr v230)) rfl rfl rfl rfl rfl (p_cat rfl rfl rfl)) <| bindE fun v230 => et (putp_adv (m := 0) (j := 29) (t' := [(0, (V.sl 0 1 (List.map sTerm a0))), (3, (Sr o220)), (4, (I x124)), (5, (I x216)), (29, (Sr o220)), (30, (V.sl 0 1 (List.map sTerm a0))), (31, (I x124)), (32, (Pr (sTerm v221))), (33, (sTerm v221)), (34, (I x216)), (35, (Pr (eTerm v222))), (36, (Pr (Sr v222.fField))), (37, (Sr v222.fField)), (38, (Sr v223)), (39, (V.sl 0 1 (List.map sTerm a0))), (40, (I x124)), (41, (Pr (sTerm v224))), (42, (sTerm v224)), (43, (I x216)), (44, (Pr (eTerm v225))), (45, (Pr (I v225.fOp))), (46, (I v225.fOp)), (47, (Sr v226)), (48, (Sr v227)), (49, (V.sl 0 1 (List.map sTerm a0))), (50, (I x124)), (51, (Pr (sTerm v228))), (52, (sTerm v228)), (53, (I x216)), (54, (Pr (eTerm v229))), (55, (Pr (Sr v229.fValue))), (56, (Sr v229.fValue)), (57, (Sr v230))]) rfl rfl rfl) ?_
          exact et (regp_pure (x := (cat o220 v230)) (w := fun v231 => (Sr v231)) rfl rfl rfl rfl rfl (p_cat rfl rfl rfl)) <| bind_self fun v231 => regp_end rfl
        exact et blk_normal <| kl ⟨[(0, (V.sl 0 1 (List.map sTerm a0))), (3, (Sr o232)), (4, (I x124)), (5, (I (Go.IntKind.wrap .i64 (x216 + 1))))], [], 60⟩ rfl <| et loop_normal <| ih o232 (Go.IntKind.wrap .i64 (x216 + 1))
      · rw [hc]
        refine et k_skip <| kdl f20a12 rfl (fun (o244 : Str) => ⟨[(0, (V.sl 0 1 (List.map sTerm a0))), (3, (Sr o244)), (4, (I x124)), (5, (I x216))], [], 60⟩) ?_ fun o244 => ?_
        · refine et (regionE_regp (p := 30) (dk := true) (t := [(0, (V.sl 0 1 (List.map sTerm a0))), (3, (Sr x215)), (4, (I x124)), (5, (I x216)), (26, (Bo false))]) (σ := []) (n := 60) rfl (by decide) (by decide) rfl) <| et (regp_adv (m := 3) (j := 3) (t' := [(0, (V.sl 0 1 (List.map sTerm a0))), (3, (Sr x215)), (4, (I x124)), (5, (I x216)), (26, (Bo false)), (29, (Sr x215)), (30, (V.sl 0 1 (List.map sTerm a0))), (31, (I x124))]) rfl rfl rfl) <| et (regp_pure (x := (idx a0 x124)) (w := fun v233 => (Pr (sTerm v233))) rfl rfl rfl rfl rfl (p_index (e := sTerm) rfl rfl rfl underlying26 rfl (by decide))) <| bindE fun v233 => et (putp_adv (m := 2) (j := 6) (t' := [(0, (V.sl 0 1 (List.map sTerm a0))), (3, (Sr x215)), (4, (I x124)), (5, (I x216)), (26, (Bo false)), (29, (Sr x215)), (30, (V.sl 0 1 (List.map sTerm a0))), (31, (I x124)), (32, (Pr (sTerm v233))), (33, (sTerm v233)), (34, (I x216))]) rfl rfl rfl) <| et (regp_pure (x := (idx v233 x216)) (w := fun v234 => (Pr (eTerm v234))) rfl rfl rfl rfl rfl (p_index (e := eTerm) rfl rfl rfl underlying46 rfl (by decide))) <| bindE fun v234 => et (putp_adv (m := 2) (j := 9) (t' := [(0, (V.sl 0 1 (List.map sTerm a0))), (3, (Sr x215)), (4, (I x124)), (5, (I x216)), (26, (Bo false)), (29, (Sr x215)), (30, (V.sl 0 1 (List.map sTerm a0))), (31, (I x124)), (32, (Pr (sTerm v233))), (33, (sTerm v233)), (34, (I x216)), (35, (Pr (eTerm v234))), (36, (Pr (Sr v234.fField))), (37, (Sr v234.fField))]) rfl rfl rfl) <| et (regp_pure (x := (ref12_Padded k v234.fField)) (w := fun v235 => (Sr v235)) rfl rfl rfl rfl rfl (p_call rfl rfl rfl rfl rfl (ref12_Padded_ok k v234.fField) (.inl rfl))) <| bindE fun v235 => et (putp_adv (m := 2) (j := 12) (t' := [(0, (V.sl 0 1 (List.map sTerm a0))), (3, (Sr x215)), (4, (I x124)), (5, (I x216)), (26, (Bo false)), (29, (Sr x215)), (30, (V.sl 0 1 (List.map sTerm a0))), (31, (I x124)), (32, (Pr (sTerm v233))), (33, (sTerm v233)), (34, (I x216)), (35, (Pr (eTerm v234))), (36, (Pr (Sr v234.fField))), (37, (Sr v234.fField)), (38, (Sr v235)), (39, (V.sl 0 1 (List.map sTerm a0))), (40, (I x124))]) rfl rfl rfl) <| et (regp_pure (x := (idx a0 x124)) (w := fun v236 => (Pr (sTerm v236))) rfl rfl rfl rfl rfl (p_index (e := sTerm) rfl rfl rfl underlying26 rfl (by decide))) <| bindE fun v236 => et (putp_adv (m := 2) (j := 15) (t' := [(0, (V.sl 0 1 (List.map sTerm a0))), (3, (Sr x215)), (4, (I x124)), (5, (I x216)), (26, (Bo false)), (29, (Sr x215)), (30, (V.sl 0 1 (List.map sTerm a0))), (31, (I x124)), (32, (Pr (sTerm v233))), (33, (sTerm v233)), (34, (I x216)), (35, (Pr (eTerm v234))), (36, (Pr (Sr v234.fField))), (37, (Sr v234.fField)), (38, (Sr v235)), (39, (V.sl 0 1 (List.map sTerm a0))), (40, (I x124)), (41, (Pr (sTerm v236))), (42, (sTerm v236)), (43, (I x216))]) rfl rfl rfl) <| et (regp_pure (x := (idx v236 x216)) (w := fun v237 => (Pr (eTerm v237))) rfl rfl rfl rfl rfl (p_index (e := eTerm) rfl rfl rfl underlying46 rfl (by decide))) <| bindE fun v237 => et (putp_adv (m := 2) (j := 18) (t' := [(0, (V.sl 0 1 (List.map sTerm a0))), (3, (Sr x215)), (4, (I x124)), (5, (I x216)), (26, (Bo false)), (29, (Sr x215)), (30, (V.sl 0 1 (List.map sTerm a0))), (31, (I x124)), (32, (Pr (sTerm v233))), (33, (sTerm v233)), (34, (I x216)), (35, (Pr (eTerm v234))), (36, (Pr (Sr v234.fField))), (37, (Sr v234.fField)), (38, (Sr v235)), (39, (V.sl 0 1 (List.map sTerm a0))), (40, (I x124)), (41, (Pr (sTerm v236))), (42, (sTerm v236)), (43, (I x216)), (44, (Pr (eTerm v237))), (45, (Pr (I v237.fOp))), (46, (I v237.fOp))]) rfl rfl rfl) <| et (regp_pure (x := (ref12_sign k v237.fOp)) (w := fun v238 => (Sr v238)) rfl rfl rfl rfl rfl (p_call rfl rfl rfl rfl rfl (ref12_sign_ok k v237.fOp) (.inl rfl))) <| bindE fun v238 => et (putp_adv (m := 0) (j := 19) (t' := [(0, (V.sl 0 1 (List.map sTerm a0))), (3, (Sr x215)), (4, (I x124)), (5, (I x216)), (26, (Bo false)), (29, (Sr x215)), (30, (V.sl 0 1 (List.map sTerm a0))), (31, (I x124)), (32, (Pr (sTerm v233))), (33, (sTerm v233)), (34, (I x216)), (35, (Pr (eTerm v234))), (36, (Pr (Sr v234.fField))), (37, (Sr v234.fField)), (38, (Sr v235)), (39, (V.sl 0 1 (List.map sTerm a0))), (40, (I x124)), (41, (Pr (sTerm v236))), (42, (sTerm v236)), (43, (I x216)), (44, (Pr (eTerm v237))), (45, (Pr (I v237.fOp))), (46, (I v237.fOp)), (47, (Sr v238))]) rfl rfl rfl) <| et (regp_pure (x := (cat v235 v238)) (w := fun v239 => (Sr v239)) rfl rfl rfl rfl rfl (p_cat rfl rfl rfl)) <| bindE fun v239 => et (putp_adv (m := 2) (j := 22) (t' := [(0, (V.sl 0 1 (List.map sTerm a0))), (3, (Sr x215)), (4, (I x124)), (5, (I x216)), (26, (Bo false)), (29, (Sr x215)), (30, (V.sl 0 1 (List.map sTerm a0))), (31, (I x124)), (32, (Pr (sTerm v233))), (33, (sTerm v233)), (34, (I x216)), (35, (Pr (eTerm v234))), (36, (Pr (Sr v234.fField))), (37, (Sr v234.fField)), (38, (Sr v235)), (39, (V.sl 0 1 (List.map sTerm a0))), (40, (I x124)), (41, (Pr (sTerm v236))), (42, (sTerm v236)), (43, (I x216)), (44, (Pr (eTerm v237))), (45, (Pr (I v237.fOp))), (46, (I v237.fOp)), (47, (Sr v238)), (48, (Sr v239)), (49, (V.sl 0 1 (List.map sTerm a0))), (50, (I x124))]) rfl rfl rfl) <| et (regp_pure (x := (idx a0 x124)) (w := fun v240 => (Pr (sTerm v240))) rfl rfl rfl rfl rfl (p_index (e := sTerm) rfl rfl rfl underlying26 rfl (by decide))) <| bindE fun v240 => et (putp_adv (m := 2) (j := 25) (t' := [(0, (V.sl 0 1 (List.map sTerm a0))), (3, (Sr x215)), (4, (I x124)), (5, (I x216)), (26, (Bo false)), (29, (Sr x215)), (30, (V.sl 0 1 (List.map sTerm a0))), (31, (I x124)), (32, (Pr (sTerm v233))), (33, (sTerm v233)), (34, (I x216)), (35, (Pr (eTerm v234))), (36, (Pr (Sr v234.fField))), (37, (Sr v234.fField)), (38, (Sr v235)), (39, (V.sl 0 1 (List.map sTerm a0))), (40, (I x124)), (41, (Pr (sTerm v236))), (42, (sTerm v236)), (43, (I x216)), (44, (Pr (eTerm v237))), (45, (Pr (I v237.fOp))), (46, (I v237.fOp)), (47, (Sr v238)), (48, (Sr v239)), (49, (V.sl 0 1 (List.map sTerm a0))), (50, (I x124)), (51, (Pr (sTerm v240))), (52, (sTerm v240)), (53, (I x216))]) rfl rfl rfl) <| et (regp_pure (x := (idx v240 x216)) (w := fun v241 => (Pr (eTerm v241))) rfl rfl rfl rfl rfl (p_index (e := eTerm) rfl rfl rfl underlying46 rfl (by decide))) <| bindE fun v241 => et (putp_adv (m := 2) (j := 28) (t' := [(0, (V.sl 0 1 (List.map sTerm a0))), (3, (Sr x215)), (4, (I x124)), (5, (I x216)), (26, (Bo false)), (29, (Sr x215)), (30, (V.sl 0 1 (List.map sTerm a0))), (31, (I x124)), (32, (Pr (sTerm v233))), (33, (sTerm v233)), (34, (I x216)), (35, (Pr (eTerm v234))), (36, (Pr (Sr v234.fField))), (37, (Sr v234.fField)), (38, (Sr v235)), (39, (V.sl 0 1 (List.map sTerm a0))), (40, (I x124)), (41, (Pr (sTerm v236))), (42, (sTerm v236)), (43, (I x216)), (44, (Pr (eTerm v237))), (45, (Pr (I v237.fOp))), (46, (I v237.fOp)), (47, (Sr v238)), (48, (Sr v239)), (49, (V.sl 0 1 (List.map sTerm a0))), (50, (I x124)), (51, (Pr (sTerm v240))), (52, (sTerm v240)), (53, (I x216)), (54, (Pr (eTerm v241))), (55, (Pr (Sr v241.fValue))), (56, (Sr v241.fValue))]) rfl rfl rfl) <| et (regp_pure (x := (cat v239 v241.fValue)) (w := fun v242 => (Sr v242)) rfl rfl rfl rfl rfl (p_cat rfl rfl rfl)) <| bindE fun v242 => et (putp_adv (m := 0) (j := 29) (t' := [(0, (V.sl 0 1 (List.map sTerm a0))), (3, (Sr x215)), (4, (I x124)), (5, (I x216)), (26, (Bo false)), (29, (Sr x215)), (30, (V.sl 0 1 (List.map sTerm a0))), (31, (I x124)), (32, (Pr (sTerm v233))), (33, (sTerm v233)), (34, (I x216)), (35, (Pr (eTerm v234))), (36, (Pr (Sr v234.fField))), (37, (Sr v234.fField)), (38, (Sr v235)), (39, (V.sl 0 1 (List.map sTerm a0))), (40, (I x124)), (41, (Pr (sTerm v236))), (42, (sTerm v236)), (43, (I x216)), (44, (Pr (eTerm v237))), (45, (Pr (I v237.fOp))), (46, (I v237.fOp)), (47, (Sr v238)), (48, (Sr v239)), (49, (V.sl 0 1 (List.map sTerm a0))), (50, (I x124)), (51, (Pr (sTerm v240))), (52, (sTerm v240)), (53, (I x216)), (54, (Pr (eTerm v241))), (55, (Pr (Sr v241.fValue))), (56, (Sr v241.fValue)), (57, (Sr v242))]) rfl rfl rfl) ?_
          exact et (regp_pure (x := (cat x215 v242)) (w := fun v243 => (Sr v243)) rfl rfl rfl rfl rfl (p_cat rfl rfl rfl)) <| bind_self fun v243 => regp_end rfl
        exact et blk_normal <| kl ⟨[(0, (V.sl 0 1 (List.map sTerm a0))), (3, (Sr o244)), (4, (I x124)), (5, (I (Go.IntKind.wrap .i64 (x216 + 1))))], [], 60⟩ rfl <| et loop_normal <| ih o244 (Go.IntKind.wrap .i64 (x216 + 1))
    · rw [hc]
      exact et k_exit <| et loop_exit <| hK0 x215 x216
theorem ref12_format_L1_ok (k : Nat) (a0 : (List (List T_api_Term)))  (K0 : Str → Int → Option Str) (Kst : X × St → Option (V × List V)) (hK0 : ∀ (y0 : Str) (y1 : Int), Kst (X.exit 0, ⟨[(0, (V.sl 0 1 (List.map sTerm a0))), (3, (Sr y0)), (4, (I y1)), (9, (Bo false))], [], 60⟩) = (K0 y0 y1).map ref12_format_fin) (hret : ∀ s, Kst (X.ret, s) = endK prog 60 [(V.sl 0 1 (List.map sTerm a0))] [] [.tmp 2] (X.ret, s)) :
    ∀ (m : Nat) (x123 : Str) (x124 : Int), (iter (exec prog (EV k) f20n k f20b1) m ⟨[(0, (V.sl 0 1 (List.map sTerm a0))), (3, (Sr x123)), (4, (I x124))], [], 60⟩).bind Kst = (ref12_format_L1 k a0 K0 m x123 x124).map ref12_format_fin := by
  intro m
  induction m with
  | zero => intros; rfl
  | succ m ih =>
    intro x123 x124
    unfold ref12_format_L1
    refine et k_round <| et k_assoc <| krp f20a3 rfl ⟨[(0, (V.sl 0 1 (List.map sTerm a0))), (3, (Sr x123)), (4, (I x124)), (9, (Bo (decide (x124 < (a0.length : Int)))))], [], 60⟩ ?_ ?_
    · exact rd 2 [(6, (I x124)), (7, (V.sl 0 1 (List.map sTerm a0)))] rfl rfl <| rl rfl (p_len (e := sTerm) rfl rfl rfl rfl rfl rfl underlying26) <| bind_end rfl
    refine kc rfl rfl (fun hc => ?_) fun hc => ?_
    · rw [hc]
      refine et k_skip <| et (k_block rfl) <| et k_assoc <| kr ⟨[(0, (V.sl 0 1 (List.map sTerm a0))), (3, (Sr x123)), (4, (I x124)), (13, (Bo (decide (x124 > 0))))], [], 60⟩ rfl <| kc rfl rfl (fun hc => ?_) fun hc => ?_
      · rw [hc]
        refine kg f20a6 rfl (fun (o126 : Str) => ⟨[(0, (V.sl 0 1 (List.map sTerm a0))), (3, (Sr o126)), (4, (I x124))], [], 60⟩) (rd 1 [(14, (Sr x123))] rfl rfl <| rs rfl (p_cat rfl rfl rfl) fun v125 => bind_end rfl) fun o126 => kra [(5, (I 0))] rfl <| et (k_lblock rfl) <| et k_loop ?_
        refine ref12_format_L2_ok k a0 x124 _ _ ?h_ref12_format_L2_0 ?hr_ref12_format_L2 k o126 0
        · intro y185 y186
          exact et blk_exit <| et k_lskip <| et blk_normal <| kl ⟨[(0, (V.sl 0 1 (List.map sTerm a0))), (3, (Sr y185)), (4, (I (Go.IntKind.wrap .i64 (x124 + 1))))], [], 60⟩ rfl <| et loop_normal <| ih y185 (Go.IntKind.wrap .i64 (x124 + 1))
        · intro s; exact hret s
      · rw [hc]
        refine et k_skip <| kr ⟨[(0, (V.sl 0 1 (List.map sTerm a0))), (3, (Sr x123)), (4, (I x124)), (5, (I 0))], [], 60⟩ rfl <| et (k_lblock rfl) <| et k_loop ?_
        refine ref12_format_L3_ok k a0 x124 _ _ ?h_ref12_format_L3_0 ?hr_ref12_format_L3 k x123 0
        · intro y245 y246
          exact et blk_exit <| et k_lskip <| et blk_normal <| kl ⟨[(0, (V.sl 0 1 (List.map sTerm a0))), (3, (Sr y245)), (4, (I (Go.IntKind.wrap .i64 (x124 + 1))))], [], 60⟩ rfl <| et loop_normal <| ih y245 (Go.IntKind.wrap .i64 (x124 + 1))
        · intro s; exact hret s
    · rw [hc]
      exact et k_exit <| et loop_exit <| hK0 x123 x124
theorem ref12_format_ok (k : Nat) (a0 : (List (List T_api_Term))) : EV k 20 [(V.sl 0 1 (List.map sTerm a0))] = (ref12_format k a0).map ref12_format_fin := by
  cases k with
  | zero => rfl
  | succ k =>
    unfold ref12_format
    refine et (evF_succ (c := f20c) (N := 60) (regs := f20n) rfl func20 rfl (by decide) rfl rfl rfl) <| kra [] rfl <| kra [(3, (Sr ([] : Str)))] rfl <| et k_assoc <| kra [(4, (I 0))] rfl <| et (k_block rfl) <| et k_loop ?_
    refine ref12_format_L1_ok k a0 _ _ ?h_ref12_format_L1_0 ?hr_ref12_format_L1 k ([] : Str) 0
    · intro y247 y248
      refine et blk_exit <| kr ⟨[(2, (Sr y247))], [], 60⟩ rfl <| et k_lret ?_
      rfl
    · intro s; exact rfl
def ref12_Format_fin : (Str × Int) → V × List V := fun r => (.tup [(Sr r.1), (I r.2)], [])
theorem ref12_Format_ok (k : Nat) (a0 : T_api_Base) (a1 : Int) (a2 : (List (List T_api_Term))) : EV k 8 [(eBase a0), (I a1), (V.sl 0 1 (List.map sTerm a2))] = (ref12_Format k a0 a1 a2).map ref12_Format_fin := by
  cases k with
  | zero => rfl
  | succ k =>
    unfold ref12_Format
    refine et (evF_succ (c := f8c) (N := 18) (regs := f8n) rfl func8 rfl (by decide) rfl rfl rfl) <| kr ⟨[(1, (I a1)), (2, (V.sl 0 1 (List.map sTerm a2))), (3, (Pt 3))], [(3, vS 4 (eBase a0))], 18⟩ rfl <| et k_assoc <| kg f8a1 rfl (fun (o2 : Int) => ⟨[(2, (V.sl 0 1 (List.map sTerm a2))), (8, (I o2))], [], 18⟩) (rd 3 [(9, (eBase a0)), (10, (I a1)), (11, (V.sl 0 1 (List.map sTerm a2)))] rfl rfl <| rs rfl (p_call rfl rfl rfl rfl rfl (ref12_asked_ok k a0 a1 a2 ([] : List (List T_api_Term))) (.inl rfl)) fun v1 => bind_end rfl) fun o2 => et k_assoc <| kra [(14, (Bo (o2 != 0)))] rfl <| kc rfl rfl (fun hc => ?_) fun hc => ?_
    · rw [hc]
      refine et k_assoc <| kr ⟨[(6, (Sr ([] : Str))), (7, (I o2))], [], 18⟩ rfl <| et k_ret ?_
      rfl
    · rw [hc]
      refine et k_skip <| kg f8a4 rfl (fun (o4 : Str × Int) => ⟨[(6, (Sr o4.1)), (7, (I o4.2))], [], 18⟩) (rd 1 [(16, (V.sl 0 1 (List.map sTerm a2)))] rfl rfl <| rp rfl (p_call rfl rfl rfl rfl rfl (ref12_format_ok k a2) (.inl rfl)) fun v3 => bind_end rfl) fun o4 => et k_lret ?_
      rfl
def strings_TrimRight_fin : Str → V × List V := fun r => (Sr r, [])
theorem strings_TrimRight_ok (k : Nat) (s n : Str) : EV k 41 [(Sr s), (Sr n)] = (strings_TrimRight k s n).map strings_TrimRight_fin := by
  cases k with
  | zero => rfl
  | succ k => exact (evF_ext (ext := ext) (f := 41) rfl).trans rfl
def match_take_fin : (T_api_Term × Str × Bool) → V × List V := fun r => (.tup [(eTerm r.1), (Sr r.2.1), (Bo r.2.2)], [])
theorem match_take_L1_ok (k : Nat) (a0 : T_api_Type) (a1 : Str) (o3 : Str)  (K0 : Int → Option (T_api_Term × Str × Bool)) (Kst : X × St → Option (V × List V)) (hK0 : ∀ (y0 : Int), Kst (X.exit 0, ⟨[(1, (Sr a1)), (2, (Pt 2)), (4, (Pt 4)), (29, (Bo false))], [(2, vS 8 (eType a0)), (4, ⟨false, 3, [(V.agg [(Sr o3), (I y0), (Sr [])])]⟩)], 70⟩) = (K0 y0).map match_take_fin) (hret : ∀ s, Kst (X.ret, s) = endK prog 70 [(eType a0), (Sr a1)] [] [.cell 4 48, .tmp 5, .tmp 6] (X.ret, s)) :
    ∀ (m : Nat) (x7 : Int), (iter (exec prog (EV k) f22n k f22b0) m ⟨[(1, (Sr a1)), (2, (Pt 2)), (4, (Pt 4))], [(2, vS 8 (eType a0)), (4, ⟨false, 3, [(V.agg [(Sr o3), (I x7), (Sr [])])]⟩)], 70⟩).bind Kst = (match_take_L1 k a1 K0 m x7).map match_take_fin := by
  intro m
  induction m with
  | zero => intros; rfl
  | succ m ih =>
    intro x7
    unfold match_take_L1
    refine et k_round <| et k_assoc <| kd f22a5 rfl (fun (o10 : Bool) => ⟨[(1, (Sr a1)), (2, (Pt 2)), (4, (Pt 4)), (29, (Bo o10))], [(2, vS 8 (eType a0)), (4, ⟨false, 3, [(V.agg [(Sr o3), (I x7), (Sr [])])]⟩)], 70⟩) ?_ fun o10 => ?_
    · refine et (regionE_regp (p := 11) (dk := true) (t := [(1, (Sr a1)), (2, (Pt 2)), (4, (Pt 4))]) (σ := [(2, vS 8 (eType a0)), (4, ⟨false, 3, [(V.agg [(Sr o3), (I x7), (Sr [])])]⟩)]) (n := 70) rfl (by decide) (by decide) rfl) <| et (regp_adv (m := 4) (j := 4) (t' := [(1, (Sr a1)), (2, (Pt 2)), (4, (Pt 4)), (19, (V.ptr 4 0 1)), (20, (I x7)), (21, (Bo (decide (x7 ≤ 6)))), (22, (Bo (decide (x7 ≤ 6))))]) rfl rfl rfl) <| bifE (fun hc => ?_) fun hc => ?_
      · rw [hc]
        exact et (regp_adv (m := 2) (j := 6) (t' := [(1, (Sr a1)), (2, (Pt 2)), (4, (Pt 4)), (19, (V.ptr 4 0 1)), (20, (I x7)), (21, (Bo true)), (22, (Bo true)), (23, (V.ptr 4 0 1)), (24, (I x7))]) rfl rfl rfl) <| et (regp_pure (x := (match_sign k x7)) (w := fun v8 => (Sr v8)) rfl rfl rfl rfl rfl (p_call rfl rfl rfl rfl rfl (match_sign_ok k x7) (.inl rfl))) <| bindE fun v8 => et (putp_adv (m := 1) (j := 8) (t' := [(1, (Sr a1)), (2, (Pt 2)), (4, (Pt 4)), (19, (V.ptr 4 0 1)), (20, (I x7)), (21, (Bo true)), (22, (Bo true)), (23, (V.ptr 4 0 1)), (24, (I x7)), (25, (Sr v8)), (26, (Sr a1))]) rfl rfl rfl) <| et (regp_pure (x := (cut a1 8 10)) (w := fun v9 => (Sr v9)) rfl rfl rfl rfl rfl (p_sliceS rfl rfl rfl rfl rfl rfl underlying9)) <| bindE fun v9 => regp_end rfl
      · rw [hc]
        exact regp_end rfl
    refine kc rfl rfl (fun hc => ?_) fun hc => ?_
    · rw [hc]
      exact et k_skip <| et (k_lblock rfl) <| kl ⟨[(1, (Sr a1)), (2, (Pt 2)), (4, (Pt 4))], [(2, vS 8 (eType a0)), (4, ⟨false, 3, [(V.agg [(Sr o3), (I (Go.IntKind.wrap .i64 (x7 + 1))), (Sr [])])]⟩)], 70⟩ rfl <| et blk_normal <| et k_lskip <| et loop_normal <| ih (Go.IntKind.wrap .i64 (x7 + 1))
    · rw [hc]
      exact et k_exit <| et loop_exit <| hK0 x7
theorem match_take_ok (k : Nat) (a0 : T_api_Type) (a1 : Str) : EV k 22 [(eType a0), (Sr a1)] = (match_take k a0 a1).map match_take_fin := by
  cases k with
  | zero => rfl
  | succ k =>
    unfold match_take
    refine et (evF_succ (c := f22c) (N := 70) (regs := f22n) rfl func22 rfl (by decide) rfl rfl rfl) <| kr ⟨[(1, (Sr a1)), (2, (Pt 2)), (4, (Pt 4))], [(2, vS 8 (eType a0)), (4, ⟨false, 3, [(V.agg [(Sr []), (I 0), (Sr [])])]⟩)], 70⟩ rfl <| et k_assoc <| kra [(12, (Bo (decide ((a1.length : Int) < 10))))] rfl <| kc rfl rfl (fun hc => ?_) fun hc => ?_
    · rw [hc]
      refine et k_assoc <| kr ⟨[(4, (Pt 4)), (5, (Sr ([] : Str))), (6, (Bo false))], [(4, ⟨false, 3, [(eTerm ({ fField := [], fOp := 0, fValue := [] } : T_api_Term))]⟩)], 70⟩ rfl <| et k_ret ?_
      rfl
    · rw [hc]
      refine et k_skip <| kg f22a3 rfl (fun (o3 : Str) => ⟨[(1, (Sr a1)), (2, (Pt 2)), (4, (Pt 4))], [(2, vS 8 (eType a0)), (4, ⟨false, 3, [(V.agg [(Sr o3), (I 0), (Sr [])])]⟩)], 70⟩) (rd 1 [(14, (Sr a1))] rfl rfl <| rp rfl (p_sliceS rfl rfl rfl rfl rfl rfl underlying9) fun v1 => bd 2 [(15, (Sr v1))] rfl rfl <| rs rfl (p_call rfl rfl rfl rfl rfl (strings_TrimRight_ok k v1 ([32] : Str)) (.inl rfl)) fun v2 => bind_end rfl) fun o3 => kr ⟨[(1, (Sr a1)), (2, (Pt 2)), (4, (Pt 4))], [(2, vS 8 (eType a0)), (4, ⟨false, 3, [(V.agg [(Sr o3), (I 1), (Sr [])])]⟩)], 70⟩ rfl <| et (k_block rfl) <| et k_loop ?_
      refine match_take_L1_ok k a0 a1 o3 _ _ ?h_match_take_L1_0 ?hr_match_take_L1 k 1
      · intro y11
        refine et blk_exit <| kg f22a7 rfl (fun (o13 : Int × Bool) => ⟨[(1, (Sr a1)), (2, (Pt 2)), (4, (Pt 4)), (7, (I o13.1)), (8, (Bo o13.2))], [(2, vS 8 (eType a0)), (4, ⟨false, 3, [(V.agg [(Sr o3), (I y11), (Sr [])])]⟩)], 70⟩) (rd 3 [(35, (eType a0)), (36, (Pt 4)), (37, (Sr o3))] rfl rfl <| rp rfl (p_call rfl rfl rfl rfl rfl (match_field_ok k a0 o3) (.inl rfl)) fun v12 => bind_end rfl) fun o13 => et k_assoc <| kg f22a8 rfl (fun (o14 : Bool) => ⟨[(1, (Sr a1)), (2, (Pt 2)), (4, (Pt 4)), (7, (I o13.1)), (47, (Bo o14))], [(2, vS 8 (eType a0)), (4, ⟨false, 3, [(V.agg [(Sr o3), (I y11), (Sr [])])]⟩)], 70⟩) ?_ fun o14 => ?_
        · refine rd 3 [(41, (Bo o13.2)), (42, (Bo (!o13.2))), (43, (Bo (!o13.2)))] rfl rfl <| bifE (fun hc => ?_) fun hc => ?_
          · rw [hc]
            exact reg_end rfl
          · rw [hc]
            exact reg_end rfl
        refine kc rfl rfl (fun hc => ?_) fun hc => ?_
        · rw [hc]
          refine et k_assoc <| kr ⟨[(4, (Pt 4)), (5, (Sr ([] : Str))), (6, (Bo false))], [(4, ⟨false, 3, [(eTerm ({ fField := [], fOp := 0, fValue := [] } : T_api_Term))]⟩)], 70⟩ rfl <| et k_ret ?_
          rfl
        · rw [hc]
          refine et k_skip <| kg f22a10 rfl (fun (o16 : Str) => ⟨[(1, (Sr o16)), (2, (Pt 2)), (4, (Pt 4)), (7, (I o13.1))], [(2, vS 8 (eType a0)), (4, ⟨false, 3, [(V.agg [(Sr o3), (I y11), (Sr [])])]⟩)], 70⟩) (rd 1 [(49, (Sr a1))] rfl rfl <| rs rfl (p_sliceS rfl rfl rfl rfl rfl rfl underlying9) fun v15 => bind_end rfl) fun o16 => kg f22a11 rfl (fun (o18 : Int) => ⟨[(1, (Sr o16)), (4, (Pt 4)), (9, (I o18))], [(4, ⟨false, 3, [(V.agg [(Sr o3), (I y11), (Sr [])])]⟩)], 70⟩) (rd 3 [(51, (V.ptr 2 0 4)), (52, (sField a0.fFields)), (53, (I o13.1))] rfl rfl <| rp rfl (p_index (e := eField) rfl rfl rfl underlying39 rfl (by decide)) fun v17 => bind_end rfl) fun o18 => et k_assoc <| kra [(60, (Bo (decide ((o16.length : Int) < o18))))] rfl <| kc rfl rfl (fun hc => ?_) fun hc => ?_
          · rw [hc]
            refine et k_assoc <| kr ⟨[(4, (Pt 4)), (5, (Sr ([] : Str))), (6, (Bo false))], [(4, ⟨false, 3, [(eTerm ({ fField := [], fOp := 0, fValue := [] } : T_api_Term))]⟩)], 70⟩ rfl <| et k_ret ?_
            rfl
          · rw [hc]
            refine et k_skip <| kg f22a14 rfl (fun (o20 : Str) => ⟨[(1, (Sr o16)), (4, (Pt 4)), (9, (I o18))], [(4, ⟨false, 3, [(V.agg [(Sr o3), (I y11), (Sr o20)])]⟩)], 70⟩) (rd 2 [(62, (Sr o16)), (63, (I o18))] rfl rfl <| rs rfl (p_sliceS rfl rfl rfl rfl rfl rfl underlying9) fun v19 => bind_end rfl) fun o20 => kd f22a15 rfl (fun (o22 : Str × Bool × T_api_Term) => ⟨[(4, (Pt 4)), (5, (Sr o22.1)), (6, (Bo o22.2.1))], [(4, vS 3 (eTerm o22.2.2))], 70⟩) (et (regionE_regp (p := 4) (dk := false) (t := [(1, (Sr o16)), (4, (Pt 4)), (9, (I o18))]) (σ := [(4, ⟨false, 3, [(V.agg [(Sr o3), (I y11), (Sr o20)])]⟩)]) (n := 70) rfl (by decide) (by decide) rfl) <| et (regp_adv (m := 3) (j := 3) (t' := [(1, (Sr o16)), (4, (Pt 4)), (9, (I o18)), (66, (eTerm ({ fField := o3, fOp := y11, fValue := o20 } : T_api_Term))), (67, (Sr o16)), (68, (I o18))]) rfl rfl rfl) <| et (regp_pure (x := (cut o16 o18 (o16.length : Int))) (w := fun v21 => (Sr v21)) rfl rfl rfl rfl rfl (p_sliceS rfl rfl rfl rfl rfl rfl underlying9)) <| bindE fun v21 => regp_end rfl) fun o22 => et k_lret ?_
            rfl
      · intro s; exact rfl
def match_Parse_fin : ((List (List T_api_Term)) × Int) → V × List V := fun r => (.tup [(V.sl 0 1 (List.map sTerm r.1)), (I r.2)], [])
theorem match_Parse_L1_ok (k : Nat) (a0 : T_api_Base) (a1 : Int) (a2 : Str)  (K0 : Str → (List (List T_api_Term)) → Option ((List (List T_api_Term)) × Int)) (Kst : X × St → Option (V × List V)) (hK0 : ∀ (y0 : Str) (y1 : (List (List T_api_Term))), Kst (X.exit 0, ⟨[(1, (I a1)), (3, (Pt 3)), (9, (V.aref 22 0 (List.map (fun x => (V.sl 1 3 (List.map eTerm x))) y1).length)), (12, (Sr y0)), (52, (Bo true))], [(3, vS 4 (eBase a0)), (22, ⟨true, 1, List.map (fun x => (V.sl 1 3 (List.map eTerm x))) y1⟩)], 73⟩) = (K0 y0 y1).map match_Parse_fin) (hret : ∀ s, Kst (X.ret, s) = endK prog 73 [(eBase a0), (I a1), (Sr a2)] [] [.tmp 6, .tmp 7] (X.ret, s)) :
    ∀ (m : Nat) (x20 : Str) (x21 : (List (List T_api_Term))), (iter (exec prog (EV k) f9n k f9b0) m ⟨[(1, (I a1)), (3, (Pt 3)), (9, (V.aref 22 0 (List.map (fun x => (V.sl 1 3 (List.map eTerm x))) x21).length)), (10, (Sr x20))], [(3, vS 4 (eBase a0)), (22, ⟨true, 1, List.map (fun x => (V.sl 1 3 (List.map eTerm x))) x21⟩)], 73⟩).bind Kst = (match_Parse_L1 k a0 a1 K0 m x20 x21).map match_Parse_fin := by
  intro m
  induction m with
  | zero => intros; rfl
  | succ m ih =>
    intro x20 x21
    unfold match_Parse_L1
    refine et k_round <| et (k_lblock rfl) <| kg f9a8 rfl (fun (o24 : Str × Bool × T_api_Term) => ⟨[(1, (I a1)), (3, (Pt 3)), (9, (V.aref 22 0 (List.map (fun x => (V.sl 1 3 (List.map eTerm x))) x21).length)), (11, (Pt 11)), (12, (Sr o24.1)), (13, (Bo o24.2.1))], [(3, vS 4 (eBase a0)), (11, vS 3 (eTerm o24.2.2)), (22, ⟨true, 1, List.map (fun x => (V.sl 1 3 (List.map eTerm x))) x21⟩)], 73⟩) (rd 3 [(25, (V.ptr 3 0 2)), (26, (sType a0.fTypes)), (27, (I a1))] rfl rfl <| rp rfl (p_index (e := eType) rfl rfl rfl underlying22 rfl (by decide)) fun v22 => bd 6 [(28, (Pr (eType v22))), (29, (eType v22)), (30, (Sr x20))] rfl rfl <| rp rfl (p_call rfl rfl rfl rfl rfl (match_take_ok k v22 x20) (.inl rfl)) fun v23 => bind_end rfl) fun o24 => et k_assoc <| kr ⟨[(1, (I a1)), (3, (Pt 3)), (9, (V.aref 22 0 (List.map (fun x => (V.sl 1 3 (List.map eTerm x))) x21).length)), (11, (Pt 11)), (12, (Sr o24.1)), (36, (Bo (!o24.2.1)))], [(3, vS 4 (eBase a0)), (11, vS 3 (eTerm o24.2.2)), (22, ⟨true, 1, List.map (fun x => (V.sl 1 3 (List.map eTerm x))) x21⟩)], 73⟩ rfl <| kc rfl rfl (fun hc => ?_) fun hc => ?_
    · rw [hc]
      refine et k_assoc <| kr ⟨[(6, (V.sl 0 1 (List.map sTerm ([] : List (List T_api_Term))))), (7, (I 3))], [], 73⟩ rfl <| et k_ret <| et blk_ret <| et loop_ret <| et (hret _) ?_
      rfl
    · rw [hc]
      refine et k_skip <| kd f9a11 rfl (fun (o30 : (List (List T_api_Term))) => ⟨[(1, (I a1)), (3, (Pt 3)), (9, (V.aref 22 0 (List.map (fun x => (V.sl 1 3 (List.map eTerm x))) o30).length)), (12, (Sr o24.1))], [(3, vS 4 (eBase a0)), (22, ⟨true, 1, List.map (fun x => (V.sl 1 3 (List.map eTerm x))) o30⟩)], 73⟩) ?_ fun o30 => ?_
      · refine et (regionE_regA (by decide)) <| rd 2 [(37, (V.aref 22 0 (List.map (fun x => (V.sl 1 3 (List.map eTerm x))) x21).length)), (38, (V.aref 22 0 (List.map (fun x => (V.sl 1 3 (List.map eTerm x))) x21).length))] rfl rfl <| rl rfl (p_lenA (e := (fun x => (V.sl 1 3 (List.map eTerm x)))) rfl rfl rfl rfl rfl rfl underlying26) <| bd 6 [(39, (I (x21.length : Int))), (40, (I (Go.IntKind.wrap .i64 ((x21.length : Int) - 1)))), (41, (V.aref 22 0 (List.map (fun x => (V.sl 1 3 (List.map eTerm x))) x21).length)), (42, (V.aref 22 0 (List.map (fun x => (V.sl 1 3 (List.map eTerm x))) x21).length))] rfl rfl <| rl rfl (p_lenA (e := (fun x => (V.sl 1 3 (List.map eTerm x)))) rfl rfl rfl rfl rfl rfl underlying26) <| bd 8 [(43, (I (x21.length : Int))), (44, (I (Go.IntKind.wrap .i64 ((x21.length : Int) - 1))))] rfl rfl <| rp rfl (p_indexF (e := (fun x => (V.sl 1 3 (List.map eTerm x)))) rfl rfl rfl underlying26 rfl rfl (by decide)) fun v25 => bd 9 [(45, (V.ptr 22 (0 + (Go.IntKind.wrap .i64 ((x21.length : Int) - 1)).toNat) 0))] rfl rfl <| et (reg_eff (x := (x21[0 + (Go.IntKind.wrap .i64 ((x21.length : Int) - 1)).toNat]?)) (w := fun v26 => ((V.sl 1 3 (List.map eTerm v26)), _)) rfl rfl rfl rfl (p_takeA (e := (fun x => (V.sl 1 3 (List.map eTerm x)))) (e' := sTerm) rfl rfl rfl rfl (fun _ => rfl) (fun _ => rfl))) ?_
        refine bindE fun v26 => ba 2 12 ⟨[(1, (I a1)), (3, (Pt 3)), (9, (V.aref 22 0 (List.map (fun x => (V.sl 1 3 (List.map eTerm x))) x21).length)), (11, (Pt 11)), (12, (Sr o24.1)), (36, (Bo false)), (37, (V.aref 22 0 (List.map (fun x => (V.sl 1 3 (List.map eTerm x))) x21).length)), (38, (V.aref 22 0 (List.map (fun x => (V.sl 1 3 (List.map eTerm x))) x21).length)), (39, (I (x21.length : Int))), (40, (I (Go.IntKind.wrap .i64 ((x21.length : Int) - 1)))), (41, (V.aref 22 0 (List.map (fun x => (V.sl 1 3 (List.map eTerm x))) x21).length)), (42, (V.aref 22 0 (List.map (fun x => (V.sl 1 3 (List.map eTerm x))) x21).length)), (43, (I (x21.length : Int))), (44, (I (Go.IntKind.wrap .i64 ((x21.length : Int) - 1)))), (45, (V.ptr 22 (0 + (Go.IntKind.wrap .i64 ((x21.length : Int) - 1)).toNat) 0)), (46, (V.sl 1 3 (List.map eTerm v26))), (47, (eTerm o24.2.2)), (48, (sTerm (([o24.2.2] : List T_api_Term))))], [(3, vS 4 (eBase a0)), (11, vS 3 (eTerm o24.2.2)), (22, ⟨true, 1, (List.map (fun x => (V.sl 1 3 (List.map eTerm x))) x21).set (0 + (Go.IntKind.wrap .i64 ((x21.length : Int) - 1)).toNat) (sTerm v26)⟩)], 73⟩ rfl rfl rfl <| et (reg_eff (x := (app v26 ([o24.2.2] : List T_api_Term))) (w := fun v27 => ((V.sl 1 3 (List.map eTerm v27)), _)) rfl rfl rfl rfl (p_app (e := eTerm) rfl rfl rfl rfl rfl rfl rfl rfl rfl rfl (by decide))) <| bindE fun v27 => ba 0 13 ⟨[(1, (I a1)), (3, (Pt 3)), (9, (V.aref 22 0 (List.map (fun x => (V.sl 1 3 (List.map eTerm x))) x21).length)), (11, (Pt 11)), (12, (Sr o24.1)), (36, (Bo false)), (37, (V.aref 22 0 (List.map (fun x => (V.sl 1 3 (List.map eTerm x))) x21).length)), (38, (V.aref 22 0 (List.map (fun x => (V.sl 1 3 (List.map eTerm x))) x21).length)), (39, (I (x21.length : Int))), (40, (I (Go.IntKind.wrap .i64 ((x21.length : Int) - 1)))), (41, (V.aref 22 0 (List.map (fun x => (V.sl 1 3 (List.map eTerm x))) x21).length)), (42, (V.aref 22 0 (List.map (fun x => (V.sl 1 3 (List.map eTerm x))) x21).length)), (43, (I (x21.length : Int))), (44, (I (Go.IntKind.wrap .i64 ((x21.length : Int) - 1)))), (45, (V.ptr 22 (0 + (Go.IntKind.wrap .i64 ((x21.length : Int) - 1)).toNat) 0)), (46, (sTerm v26)), (47, (eTerm o24.2.2)), (48, (sTerm (([o24.2.2] : List T_api_Term)))), (49, (V.sl 1 3 (List.map eTerm v27)))], [(3, vS 4 (eBase a0)), (11, vS 3 (eTerm o24.2.2)), (22, ⟨true, 1, (List.map (fun x => (V.sl 1 3 (List.map eTerm x))) x21).set (0 + (Go.IntKind.wrap .i64 ((x21.length : Int) - 1)).toNat) (sTerm v26)⟩)], 73⟩ rfl rfl rfl <| rp rfl (p_indexG (l := x21) (e := (fun x => (V.sl 1 3 (List.map eTerm x)))) rfl rfl rfl underlying26 rfl rfl (by decide)) fun v28 => bd 14 [(50, (V.ptr 22 (0 + (Go.IntKind.wrap .i64 ((x21.length : Int) - 1)).toNat) 0))] rfl rfl <| et (reg_eff (x := (x21[0 + (Go.IntKind.wrap .i64 ((x21.length : Int) - 1)).toNat]?)) (w := fun _ => (V.tup [], _)) rfl rfl rfl rfl (p_storeR (S := (fun n_ => ⟨[(1, (I a1)), (3, (Pt 3)), (9, (V.aref 22 0 n_)), (11, (Pt 11)), (12, (Sr o24.1)), (36, (Bo false)), (37, (V.aref 22 0 n_)), (38, (V.aref 22 0 n_)), (39, (I (x21.length : Int))), (40, (I (Go.IntKind.wrap .i64 ((x21.length : Int) - 1)))), (41, (V.aref 22 0 n_)), (42, (V.aref 22 0 n_)), (43, (I (x21.length : Int))), (44, (I (Go.IntKind.wrap .i64 ((x21.length : Int) - 1)))), (45, (V.ptr 22 (0 + (Go.IntKind.wrap .i64 ((x21.length : Int) - 1)).toNat) 0)), (46, (sTerm v26)), (47, (eTerm o24.2.2)), (48, (sTerm (([o24.2.2] : List T_api_Term)))), (49, (V.sl 1 3 (List.map eTerm v27))), (50, (V.ptr 22 (0 + (Go.IntKind.wrap .i64 ((x21.length : Int) - 1)).toNat) 0))], [(3, vS 4 (eBase a0)), (11, vS 3 (eTerm o24.2.2)), (22, ⟨true, 1, (List.map (fun x => (V.sl 1 3 (List.map eTerm x))) x21).set (0 + (Go.IntKind.wrap .i64 ((x21.length : Int) - 1)).toNat) (sTerm v26)⟩)], 73⟩)) (e := (fun x => (V.sl 1 3 (List.map eTerm x)))) (l := x21) (v := v27) rfl rfl rfl rfl rfl rfl rfl rfl rfl rfl rfl)) ?_
        exact bindE fun v29 => bind_end rfl
      refine et k_assoc <| kra [(52, (Bo (o24.1 == ([] : Str))))] rfl <| kc rfl rfl (fun hc => ?_) fun hc => ?_
      · rw [hc]
        exact et k_exit <| et (blk_other rfl) <| et loop_exit <| hK0 o24.1 o30
      · rw [hc]
        refine et k_skip <| et k_assoc <| kg f9a13 rfl (fun (o32 : Int) => ⟨[(1, (I a1)), (3, (Pt 3)), (9, (V.aref 22 0 (List.map (fun x => (V.sl 1 3 (List.map eTerm x))) o30).length)), (12, (Sr o24.1)), (54, (V.int .u8 o32))], [(3, vS 4 (eBase a0)), (22, ⟨true, 1, List.map (fun x => (V.sl 1 3 (List.map eTerm x))) o30⟩)], 73⟩) (rd 1 [(53, (Sr o24.1))] rfl rfl <| rs rfl (p_indexS rfl rfl rfl underlying9) fun v31 => bind_end rfl) fun o32 => et (k_block rfl) <| kra [(55, (Bo (o32 == 38)))] rfl <| kcl rfl rfl (fun hc => ?_) fun hc => ?_
        · rw [hc]
          exact et k_lskip <| et blk_normal <| kgl f9a18 rfl (fun (o34 : Str) => ⟨[(1, (I a1)), (3, (Pt 3)), (9, (V.aref 22 0 (List.map (fun x => (V.sl 1 3 (List.map eTerm x))) o30).length)), (10, (Sr o34))], [(3, vS 4 (eBase a0)), (22, ⟨true, 1, List.map (fun x => (V.sl 1 3 (List.map eTerm x))) o30⟩)], 73⟩) (rd 1 [(62, (Sr o24.1))] rfl rfl <| rs rfl (p_sliceS rfl rfl rfl rfl rfl rfl underlying9) fun v33 => bind_end rfl) fun o34 => et blk_normal <| et k_lskip <| et loop_normal <| ih o34 o30
        · rw [hc]
          refine kr ⟨[(1, (I a1)), (3, (Pt 3)), (9, (V.aref 22 0 (List.map (fun x => (V.sl 1 3 (List.map eTerm x))) o30).length)), (12, (Sr o24.1)), (57, (Bo (o32 == 124)))], [(3, vS 4 (eBase a0)), (22, ⟨true, 1, List.map (fun x => (V.sl 1 3 (List.map eTerm x))) o30⟩)], 73⟩ rfl <| kcl rfl rfl (fun hc => ?_) fun hc => ?_
          · rw [hc]
            exact kgl f9a17 rfl (fun (o36 : (List (List T_api_Term))) => ⟨[(1, (I a1)), (3, (Pt 3)), (9, (V.aref 22 0 (List.map (fun x => (V.sl 1 3 (List.map eTerm x))) o36).length)), (12, (Sr o24.1))], [(3, vS 4 (eBase a0)), (22, ⟨true, 1, List.map (fun x => (V.sl 1 3 (List.map eTerm x))) o36⟩)], 73⟩) (rd 2 [(59, (V.aref 22 0 (List.map (fun x => (V.sl 1 3 (List.map eTerm x))) o30).length)), (60, (V.sl 0 1 (List.map (fun x => (V.sl 1 3 (List.map eTerm x))) ([([] : List T_api_Term)] : List (List T_api_Term)))))] rfl rfl <| et (reg_eff (x := (app o30 ([([] : List T_api_Term)] : List (List T_api_Term)))) (w := fun v35 => ((V.aref 22 0 (List.map (fun x => (V.sl 1 3 (List.map eTerm x))) v35).length), _)) rfl rfl rfl rfl (p_appF (e := (fun x => (V.sl 1 3 (List.map eTerm x)))) (l := o30) rfl rfl rfl rfl rfl rfl rfl rfl rfl rfl rfl (of_decide_eq_true rfl))) <| bind_self fun v35 => bind_end rfl) fun o36 => et blk_normal <| kgl f9a18 rfl (fun (o38 : Str) => ⟨[(1, (I a1)), (3, (Pt 3)), (9, (V.aref 22 0 (List.map (fun x => (V.sl 1 3 (List.map eTerm x))) o36).length)), (10, (Sr o38))], [(3, vS 4 (eBase a0)), (22, ⟨true, 1, List.map (fun x => (V.sl 1 3 (List.map eTerm x))) o36⟩)], 73⟩) (rd 1 [(62, (Sr o24.1))] rfl rfl <| rs rfl (p_sliceS rfl rfl rfl rfl rfl rfl underlying9) fun v37 => bind_end rfl) fun o38 => et blk_normal <| et k_lskip <| et loop_normal <| ih o38 o36
          · rw [hc]
            refine kr ⟨[(6, (V.sl 0 1 (List.map sTerm ([] : List (List T_api_Term))))), (7, (I 3))], [], 73⟩ rfl <| et k_lret <| et blk_ret <| et blk_ret <| et loop_ret <| et (hret _) ?_
            rfl
theorem match_Parse_ok (k : Nat) (a0 : T_api_Base) (a1 : Int) (a2 : Str) : EV k 9 [(eBase a0), (I a1), (Sr a2)] = (match_Parse k a0 a1 a2).map match_Parse_fin := by
  cases k with
  | zero => rfl
  | succ k =>
    unfold match_Parse
    refine et (evF_succ (c := f9c) (N := 73) (regs := f9n) rfl func9 rfl (by decide) rfl rfl rfl) <| kr ⟨[(1, (I a1)), (2, (Sr a2)), (3, (Pt 3))], [(3, vS 4 (eBase a0))], 73⟩ rfl <| et k_assoc <| kga f9a1 rfl (fun (o2 : Int) => [(8, (I o2))]) (rd 2 [(14, (eBase a0)), (15, (I a1))] rfl rfl <| rs rfl (p_call rfl rfl rfl rfl rfl (match_asked_ok k a0 a1) (.inl rfl)) fun v1 => bind_end rfl) fun o2 => et k_assoc <| kra [(18, (Bo (o2 != 0)))] rfl <| kc rfl rfl (fun hc => ?_) fun hc => ?_
    · rw [hc]
      refine et k_assoc <| kr ⟨[(6, (V.sl 0 1 (List.map sTerm ([] : List (List T_api_Term))))), (7, (I o2))], [], 73⟩ rfl <| et k_ret ?_
      rfl
    · rw [hc]
      refine et k_skip <| et k_assoc <| kr ⟨[(1, (I a1)), (2, (Sr a2)), (3, (Pt 3)), (21, (Bo (a2 == ([] : Str))))], [(3, vS 4 (eBase a0))], 73⟩ rfl <| kc rfl rfl (fun hc => ?_) fun hc => ?_
      · rw [hc]
        refine et k_assoc <| kr ⟨[(6, (V.sl 0 1 (List.map sTerm ([] : List (List T_api_Term))))), (7, (I 0))], [], 73⟩ rfl <| et k_ret ?_
        rfl
      · rw [hc]
        refine et k_skip <| kr ⟨[(1, (I a1)), (2, (Sr a2)), (3, (Pt 3)), (9, (V.aref 22 0 (List.map (fun x => (V.sl 1 3 (List.map eTerm x))) ([([] : List T_api_Term)] : List (List T_api_Term))).length)), (22, (V.aref 22 0 (List.map (fun x => (V.sl 1 3 (List.map eTerm x))) ([([] : List T_api_Term)] : List (List T_api_Term))).length))], [(3, vS 4 (eBase a0)), (22, ⟨true, 1, List.map (fun x => (V.sl 1 3 (List.map eTerm x))) ([([] : List T_api_Term)] : List (List T_api_Term))⟩)], 73⟩ rfl <| et k_assoc <| kr ⟨[(1, (I a1)), (3, (Pt 3)), (9, (V.aref 22 0 (List.map (fun x => (V.sl 1 3 (List.map eTerm x))) ([([] : List T_api_Term)] : List (List T_api_Term))).length)), (10, (Sr a2)), (22, (V.aref 22 0 (List.map (fun x => (V.sl 1 3 (List.map eTerm x))) ([([] : List T_api_Term)] : List (List T_api_Term))).length))], [(3, vS 4 (eBase a0)), (22, ⟨true, 1, List.map (fun x => (V.sl 1 3 (List.map eTerm x))) ([([] : List T_api_Term)] : List (List T_api_Term))⟩)], 73⟩ rfl <| et (k_blockD (st' := ⟨[(1, (I a1)), (3, (Pt 3)), (9, (V.aref 22 0 (List.map (fun x => (V.sl 1 3 (List.map eTerm x))) ([([] : List T_api_Term)] : List (List T_api_Term))).length)), (10, (Sr a2))], [(3, vS 4 (eBase a0)), (22, ⟨true, 1, List.map (fun x => (V.sl 1 3 (List.map eTerm x))) ([([] : List T_api_Term)] : List (List T_api_Term))⟩)], 73⟩) rfl) <| et k_loop ?_
        refine match_Parse_L1_ok k a0 a1 a2 _ _ ?h_match_Parse_L1_0 ?hr_match_Parse_L1 k a2 ([([] : List T_api_Term)] : List (List T_api_Term))
        · intro y39 y40
          refine et blk_exit <| et k_assoc <| kg f9a19 rfl (fun (o43 : Bool) => ⟨[(9, (V.aref 22 0 (List.map (fun x => (V.sl 1 3 (List.map eTerm x))) y40).length)), (71, (Bo o43))], [(22, ⟨true, 1, List.map (fun x => (V.sl 1 3 (List.map eTerm x))) y40⟩)], 73⟩) (rd 3 [(64, (V.ptr 3 0 2)), (65, (sType a0.fTypes)), (66, (I a1))] rfl rfl <| rp rfl (p_index (e := eType) rfl rfl rfl underlying22 rfl (by decide)) fun v41 => bd 6 [(67, (Pr (eType v41))), (68, (eType v41)), (69, (V.aref 22 0 (List.map (fun x => (V.sl 1 3 (List.map eTerm x))) y40).length))] rfl rfl <| rp rfl (p_call rfl rfl rfl rfl (argsL rfl (by intro s i q h; cases h) (argsL (lendO (e := (fun x => (V.sl 1 3 (List.map eTerm x)))) (e' := sTerm) (fun _ => rfl) rfl) (by intro s i q h; cases h) rfl)) (match_valid_ok k v41 y40) (.inr (fun _ => rfl))) fun v42 => bind_end rfl) fun o43 => kc rfl rfl (fun hc => ?_) fun hc => ?_
          · rw [hc]
            refine et k_assoc <| kr ⟨[(6, (V.sl 0 1 (List.map sTerm ([] : List (List T_api_Term))))), (7, (I 3))], [], 73⟩ rfl <| et k_ret ?_
            rfl
          · rw [hc]
            refine et k_skip <| krp f9a21 rfl ⟨[(6, (V.sl 0 1 (List.map sTerm y40))), (7, (I 0))], [], 73⟩ ?_ ?_
            · exact rd 1 [(72, (V.aref 22 0 (List.map (fun x => (V.sl 1 3 (List.map eTerm x))) y40).length))] rfl rfl <| et (reg_eff (x := some ()) (w := fun _ => ((V.sl 2 1 (List.map sTerm y40)), _)) rfl rfl rfl rfl (p_closeO (e := (fun x => (V.sl 1 3 (List.map eTerm x)))) (e' := sTerm) rfl rfl rfl rfl rfl (of_decide_eq_true rfl) (fun _ => rfl))) <| et some_bind <| bind_end rfl
            refine et k_lret ?_
            rfl
        · intro s; exact rfl
def ref12_Front_fin : (T_api_Term × Str × Bool) → V × List V := fun r => (.tup [(eTerm r.1), (Sr r.2.1), (Bo r.2.2)], [])
theorem ref12_Front_L2_ok (k : Nat) (a0 : T_api_Base) (a1 : Int) (a2 : Str) (x26 : Int) (o31 : T_api_Field)  (K0 : Int → Option (T_api_Term × Str × Bool)) (Kst : X × St → Option (V × List V)) (hK0 : ∀ (y0 : Int), Kst (X.exit 2, ⟨[(1, (I a1)), (2, (Sr a2)), (3, (Pt 3)), (6, (Pt 6)), (9, (I x26)), (10, (Pt 10)), (11, (I y0)), (35, (Bo false))], [(3, vS 4 (eBase a0)), (6, ⟨false, 3, [(V.agg [(Sr []), (I 0), (Sr [])])]⟩), (10, vS 3 (eField o31))], 78⟩) = (K0 y0).map ref12_Front_fin) (hret : ∀ s, Kst (X.ret, s) = endK prog 78 [(eBase a0), (I a1), (Sr a2)] [] [.cell 6 48, .tmp 7, .tmp 8] (X.ret, s)) :
    ∀ (m : Nat) (x41 : Int), (iter (exec prog (EV k) f49n k f49b0) m ⟨[(1, (I a1)), (2, (Sr a2)), (3, (Pt 3)), (6, (Pt 6)), (9, (I x26)), (10, (Pt 10)), (11, (I x41))], [(3, vS 4 (eBase a0)), (6, ⟨false, 3, [(V.agg [(Sr []), (I 0), (Sr [])])]⟩), (10, vS 3 (eField o31))], 78⟩).bind Kst = (ref12_Front_L2 k a2 o31 K0 m x41).map ref12_Front_fin := by
  intro m
  induction m with
  | zero => intros; rfl
  | succ m ih =>
    intro x41
    unfold ref12_Front_L2
    refine et k_round <| et k_assoc <| kra [(35, (Bo (decide (x41 ≤ 6))))] rfl <| kc rfl rfl (fun hc => ?_) fun hc => ?_
    · rw [hc]
      refine et k_skip <| et (k_block rfl) <| kg f49a8 rfl (fun (o45 : Str) => ⟨[(1, (I a1)), (2, (Sr a2)), (3, (Pt 3)), (6, (Pt 6)), (9, (I x26)), (10, (Pt 10)), (11, (I x41)), (12, (Sr o45))], [(3, vS 4 (eBase a0)), (6, ⟨false, 3, [(V.agg [(Sr []), (I 0), (Sr [])])]⟩), (10, vS 3 (eField o31))], 78⟩) (rd 2 [(38, (Pt 10)), (39, (Sr o31.fName))] rfl rfl <| rp rfl (p_call rfl rfl rfl rfl rfl (ref12_Padded_ok k o31.fName) (.inl rfl)) fun v42 => bd 4 [(40, (Sr v42)), (41, (I x41))] rfl rfl <| rp rfl (p_call rfl rfl rfl rfl rfl (ref12_sign_ok k x41) (.inl rfl)) fun v43 => bd 5 [(42, (Sr v43))] rfl rfl <| rs rfl (p_cat rfl rfl rfl) fun v44 => bind_end rfl) fun o45 => kga f49a9 rfl (fun (o47 : Bool) => [(59, (Bo o47))]) ?_ fun o47 => ?_
      · refine rd 9 [(44, (Sr a2)), (45, (I (a2.length : Int))), (46, (Sr o45)), (47, (I (o45.length : Int))), (48, (V.ptr 10 0 2)), (49, (I o31.fBytes)), (50, (I (Go.IntKind.wrap .i64 ((o45.length : Int) + o31.fBytes)))), (51, (Bo (decide ((a2.length : Int) ≥ (Go.IntKind.wrap .i64 ((o45.length : Int) + o31.fBytes)))))), (52, (Bo (decide ((a2.length : Int) ≥ (Go.IntKind.wrap .i64 ((o45.length : Int) + o31.fBytes))))))] rfl rfl <| bifE (fun hc => ?_) fun hc => ?_
        · rw [hc]
          exact rd 12 [(53, (Sr a2)), (54, (Sr o45)), (55, (I (o45.length : Int)))] rfl rfl <| rp rfl (p_sliceS rfl rfl rfl rfl rfl rfl underlying9) fun v46 => bind_end rfl
        · rw [hc]
          exact reg_end rfl
      refine kcl rfl rfl (fun hc => ?_) fun hc => ?_
      · rw [hc]
        refine kr ⟨[(2, (Sr a2)), (6, (Pt 6)), (10, (Pt 10)), (11, (I x41)), (12, (Sr o45)), (13, (I (Go.IntKind.wrap .i64 ((o45.length : Int) + o31.fBytes))))], [(6, ⟨false, 3, [(V.agg [(Sr []), (I 0), (Sr [])])]⟩), (10, vS 3 (eField o31))], 78⟩ rfl <| kd f49a11 rfl (fun (o50 : Str × Bool × T_api_Term) => ⟨[(6, (Pt 6)), (7, (Sr o50.1)), (8, (Bo o50.2.1))], [(6, vS 3 (eTerm o50.2.2))], 78⟩) (et (regionE_regp (p := 12) (dk := false) (t := [(2, (Sr a2)), (6, (Pt 6)), (10, (Pt 10)), (11, (I x41)), (12, (Sr o45)), (13, (I (Go.IntKind.wrap .i64 ((o45.length : Int) + o31.fBytes))))]) (σ := [(6, ⟨false, 3, [(V.agg [(Sr []), (I 0), (Sr [])])]⟩), (10, vS 3 (eField o31))]) (n := 78) rfl (by decide) (by decide) rfl) <| et (regp_adv (m := 7) (j := 7) (t' := [(2, (Sr a2)), (6, (Pt 6)), (10, (Pt 10)), (11, (I x41)), (12, (Sr o45)), (13, (I (Go.IntKind.wrap .i64 ((o45.length : Int) + o31.fBytes)))), (65, (Pt 10)), (66, (Sr o31.fName)), (67, (I x41)), (68, (Sr a2)), (69, (Sr o45)), (70, (I (o45.length : Int))), (71, (I (Go.IntKind.wrap .i64 ((o45.length : Int) + o31.fBytes))))]) rfl rfl rfl) <| et (regp_pure (x := (cut a2 (o45.length : Int) (Go.IntKind.wrap .i64 ((o45.length : Int) + o31.fBytes)))) (w := fun v48 => (Sr v48)) rfl rfl rfl rfl rfl (p_sliceS rfl rfl rfl rfl rfl rfl underlying9)) <| bindE fun v48 => et (putp_adv (m := 3) (j := 11) (t' := [(2, (Sr a2)), (6, (Pt 6)), (10, (Pt 10)), (11, (I x41)), (12, (Sr o45)), (13, (I (Go.IntKind.wrap .i64 ((o45.length : Int) + o31.fBytes)))), (65, (Pt 10)), (66, (Sr o31.fName)), (67, (I x41)), (68, (Sr a2)), (69, (Sr o45)), (70, (I (o45.length : Int))), (71, (I (Go.IntKind.wrap .i64 ((o45.length : Int) + o31.fBytes)))), (72, (Sr v48)), (73, (eTerm ({ fField := o31.fName, fOp := x41, fValue := v48 } : T_api_Term))), (74, (Sr a2)), (75, (I (Go.IntKind.wrap .i64 ((o45.length : Int) + o31.fBytes))))]) rfl rfl rfl) <| et (regp_pure (x := (cut a2 (Go.IntKind.wrap .i64 ((o45.length : Int) + o31.fBytes)) (a2.length : Int))) (w := fun v49 => (Sr v49)) rfl rfl rfl rfl rfl (p_sliceS rfl rfl rfl rfl rfl rfl underlying9)) <| bindE fun v49 => regp_end rfl) fun o50 => et k_lret <| et blk_ret <| et loop_ret <| et (hret _) ?_
        rfl
      · rw [hc]
        exact et k_lskip <| et blk_normal <| kl ⟨[(1, (I a1)), (2, (Sr a2)), (3, (Pt 3)), (6, (Pt 6)), (9, (I x26)), (10, (Pt 10)), (11, (I (Go.IntKind.wrap .i64 (x41 + 1))))], [(3, vS 4 (eBase a0)), (6, ⟨false, 3, [(V.agg [(Sr []), (I 0), (Sr [])])]⟩), (10, vS 3 (eField o31))], 78⟩ rfl <| et loop_normal <| ih (Go.IntKind.wrap .i64 (x41 + 1))
    · rw [hc]
      exact et k_exit <| et loop_exit <| hK0 x41
theorem ref12_Front_L1_ok (k : Nat) (a0 : T_api_Base) (a1 : Int) (a2 : Str)  (K0 : Int → Option (T_api_Term × Str × Bool)) (Kst : X × St → Option (V × List V)) (hK0 : ∀ (y0 : Int), Kst (X.exit 0, ⟨[(1, (I a1)), (2, (Sr a2)), (3, (Pt 3)), (6, (Pt 6)), (9, (I y0)), (22, (Bo false))], [(3, vS 4 (eBase a0)), (6, ⟨false, 3, [(V.agg [(Sr []), (I 0), (Sr [])])]⟩)], 78⟩) = (K0 y0).map ref12_Front_fin) (hret : ∀ s, Kst (X.ret, s) = endK prog 78 [(eBase a0), (I a1), (Sr a2)] [] [.cell 6 48, .tmp 7, .tmp 8] (X.ret, s)) :
    ∀ (m : Nat) (x26 : Int), (iter (exec prog (EV k) f49n k f49b1) m ⟨[(1, (I a1)), (2, (Sr a2)), (3, (Pt 3)), (6, (Pt 6)), (9, (I x26))], [(3, vS 4 (eBase a0)), (6, ⟨false, 3, [(V.agg [(Sr []), (I 0), (Sr [])])]⟩)], 78⟩).bind Kst = (ref12_Front_L1 k a0 a1 a2 K0 m x26).map ref12_Front_fin := by
  intro m
  induction m with
  | zero => intros; rfl
  | succ m ih =>
    intro x26
    unfold ref12_Front_L1
    refine et k_round <| et k_assoc <| kga f49a2 rfl (fun (o28 : Bool) => [(22, (Bo o28))]) (rd 4 [(14, (I x26)), (15, (V.ptr 3 0 2)), (16, (sType a0.fTypes)), (17, (I a1))] rfl rfl <| rp rfl (p_index (e := eType) rfl rfl rfl underlying22 rfl (by decide)) fun v27 => bd 7 [(18, (Pr (eType v27))), (19, (Pr (sField v27.fFields))), (20, (sField v27.fFields))] rfl rfl <| rl rfl (p_len (e := eField) rfl rfl rfl rfl rfl rfl underlying39) <| bind_end rfl) fun o28 => kc rfl rfl (fun hc => ?_) fun hc => ?_
    · rw [hc]
      refine et k_skip <| et (k_block rfl) <| kg f49a4 rfl (fun (o31 : T_api_Field) => ⟨[(1, (I a1)), (2, (Sr a2)), (3, (Pt 3)), (6, (Pt 6)), (9, (I x26)), (10, (Pt 10))], [(3, vS 4 (eBase a0)), (6, ⟨false, 3, [(V.agg [(Sr []), (I 0), (Sr [])])]⟩), (10, vS 3 (eField o31))], 78⟩) (rd 3 [(25, (V.ptr 3 0 2)), (26, (sType a0.fTypes)), (27, (I a1))] rfl rfl <| rp rfl (p_index (e := eType) rfl rfl rfl underlying22 rfl (by decide)) fun v29 => bd 7 [(28, (Pr (eType v29))), (29, (Pr (sField v29.fFields))), (30, (sField v29.fFields)), (31, (I x26))] rfl rfl <| rs rfl (p_index (e := eField) rfl rfl rfl underlying39 rfl (by decide)) fun v30 => bind_end rfl) fun o31 => kra [(11, (I 1))] rfl <| et (k_lblock rfl) <| et k_loop ?_
      refine ref12_Front_L2_ok k a0 a1 a2 x26 o31 _ _ ?h_ref12_Front_L2_0 ?hr_ref12_Front_L2 k 1
      · intro y51
        exact et blk_exit <| et k_lskip <| et blk_normal <| kl ⟨[(1, (I a1)), (2, (Sr a2)), (3, (Pt 3)), (6, (Pt 6)), (9, (I (Go.IntKind.wrap .i64 (x26 + 1))))], [(3, vS 4 (eBase a0)), (6, ⟨false, 3, [(V.agg [(Sr []), (I 0), (Sr [])])]⟩)], 78⟩ rfl <| et loop_normal <| ih (Go.IntKind.wrap .i64 (x26 + 1))
      · intro s; exact hret s
    · rw [hc]
      exact et k_exit <| et loop_exit <| hK0 x26
theorem ref12_Front_ok (k : Nat) (a0 : T_api_Base) (a1 : Int) (a2 : Str) : EV k 49 [(eBase a0), (I a1), (Sr a2)] = (ref12_Front k a0 a1 a2).map ref12_Front_fin := by
  cases k with
  | zero => rfl
  | succ k =>
    unfold ref12_Front
    refine et (evF_succ (c := f49c) (N := 78) (regs := f49n) rfl func49 rfl (by decide) rfl rfl rfl) <| kr ⟨[(1, (I a1)), (2, (Sr a2)), (3, (Pt 3)), (6, (Pt 6))], [(3, vS 4 (eBase a0)), (6, ⟨false, 3, [(V.agg [(Sr []), (I 0), (Sr [])])]⟩)], 78⟩ rfl <| et k_assoc <| kra [(9, (I 0))] rfl <| et (k_block rfl) <| et k_loop ?_
    refine ref12_Front_L1_ok k a0 a1 a2 _ _ ?h_ref12_Front_L1_0 ?hr_ref12_Front_L1 k 0
    · intro y52
      refine et blk_exit <| kr ⟨[(6, (Pt 6)), (7, (Sr ([] : Str))), (8, (Bo false))], [(6, ⟨false, 3, [(eTerm ({ fField := [], fOp := 0, fValue := [] } : T_api_Term))]⟩)], 78⟩ rfl <| et k_lret ?_
      rfl
    · intro s; exact rfl
def ref12_Begin_fin : ((List (List T_api_Term)) × Str × Bool) → V × List V := fun r => (.tup [(V.sl 0 1 (List.map sTerm r.1)), (Sr r.2.1), (Bo r.2.2)], [])
theorem ref12_Begin_L1_ok (k : Nat) (a0 : T_api_Base) (a1 : Int) (a2 : Str)   (Kst : X × St → Option (V × List V))  (hret : ∀ s, Kst (X.ret, s) = endK prog 56 [(eBase a0), (I a1), (Sr a2)] [] [.tmp 6, .tmp 7, .tmp 8] (X.ret, s)) :
    ∀ (m : Nat) (x17 : Str) (x18 : (List T_api_Term)) (x19 : (List (List T_api_Term))), (iter (exec prog (EV k) f25n k f25b0) m ⟨[(1, (I a1)), (2, (Sr x17)), (3, (Pt 3)), (9, (V.sl 1 1 (List.map sTerm x19))), (10, (V.sl 1 3 (List.map eTerm x18)))], [(3, vS 4 (eBase a0))], 56⟩).bind Kst = (ref12_Begin_L1 k a0 a1 m x17 x18 x19).map ref12_Begin_fin := by
  intro m
  induction m with
  | zero => intros; rfl
  | succ m ih =>
    intro x17 x18 x19
    unfold ref12_Begin_L1
    refine et k_round <| et (k_lblock rfl) <| kg f25a3 rfl (fun (o21 : Str × Bool × T_api_Term) => ⟨[(1, (I a1)), (3, (Pt 3)), (9, (V.sl 1 1 (List.map sTerm x19))), (10, (V.sl 1 3 (List.map eTerm x18))), (11, (Pt 11)), (12, (Sr o21.1)), (13, (Bo o21.2.1))], [(3, vS 4 (eBase a0)), (11, vS 3 (eTerm o21.2.2))], 56⟩) (rd 3 [(15, (eBase a0)), (16, (I a1)), (17, (Sr x17))] rfl rfl <| rp rfl (p_call rfl rfl rfl rfl rfl (ref12_Front_ok k a0 a1 x17) (.inl rfl)) fun v20 => bind_end rfl) fun o21 => et k_assoc <| kr ⟨[(1, (I a1)), (3, (Pt 3)), (9, (V.sl 1 1 (List.map sTerm x19))), (10, (V.sl 1 3 (List.map eTerm x18))), (11, (Pt 11)), (12, (Sr o21.1)), (23, (Bo (!o21.2.1)))], [(3, vS 4 (eBase a0)), (11, vS 3 (eTerm o21.2.2))], 56⟩ rfl <| kc rfl rfl (fun hc => ?_) fun hc => ?_
    · rw [hc]
      refine et k_assoc <| kr ⟨[(6, (V.sl 0 1 (List.map sTerm ([] : List (List T_api_Term))))), (7, (Sr ([] : Str))), (8, (Bo false))], [], 56⟩ rfl <| et k_ret <| et blk_ret <| et loop_ret <| et (hret _) ?_
      rfl
    · rw [hc]
      refine et k_skip <| kg f25a6 rfl (fun (o23 : (List T_api_Term)) => ⟨[(1, (I a1)), (3, (Pt 3)), (9, (V.sl 1 1 (List.map sTerm x19))), (10, (V.sl 1 3 (List.map eTerm o23))), (12, (Sr o21.1))], [(3, vS 4 (eBase a0))], 56⟩) (ra 3 3 ⟨[(1, (I a1)), (3, (Pt 3)), (9, (V.sl 1 1 (List.map sTerm x19))), (10, (sTerm x18)), (11, (Pt 11)), (12, (Sr o21.1)), (23, (Bo false)), (24, (V.sl 1 3 (List.map eTerm x18))), (25, (eTerm o21.2.2)), (26, (sTerm (([o21.2.2] : List T_api_Term))))], [(3, vS 4 (eBase a0)), (11, vS 3 (eTerm o21.2.2))], 56⟩ rfl rfl rfl <| et (reg_eff (x := (app x18 ([o21.2.2] : List T_api_Term))) (w := fun v22 => ((V.sl 1 3 (List.map eTerm v22)), _)) rfl rfl rfl rfl (p_app (e := eTerm) rfl rfl rfl rfl rfl rfl rfl rfl rfl rfl (by decide))) <| bind_self fun v22 => bind_end rfl) fun o23 => et k_assoc <| kga f25a7 rfl (fun (o25 : Bool) => [(34, (Bo o25))]) ?_ fun o25 => ?_
      · refine rd 3 [(28, (Sr o21.1)), (29, (Bo (!(o21.1 == ([] : Str))))), (30, (Bo (!(o21.1 == ([] : Str)))))] rfl rfl <| bifE (fun hc => ?_) fun hc => ?_
        · rw [hc]
          exact rd 4 [(31, (Sr o21.1))] rfl rfl <| rp rfl (p_indexS rfl rfl rfl underlying9) fun v24 => bind_end rfl
        · rw [hc]
          exact reg_end rfl
      refine kc rfl rfl (fun hc => ?_) fun hc => ?_
      · rw [hc]
        exact et k_assoc <| kg f25a8 rfl (fun (o27 : Str) => ⟨[(1, (I a1)), (2, (Sr o27)), (3, (Pt 3)), (9, (V.sl 1 1 (List.map sTerm x19))), (10, (V.sl 1 3 (List.map eTerm o23)))], [(3, vS 4 (eBase a0))], 56⟩) (rd 1 [(35, (Sr o21.1))] rfl rfl <| rs rfl (p_sliceS rfl rfl rfl rfl rfl rfl underlying9) fun v26 => bind_end rfl) fun o27 => et k_exit <| et blk_exit <| et k_lskip <| et loop_normal <| ih o27 o23 x19
      · rw [hc]
        refine et k_skip <| kg f25a9 rfl (fun (o29 : (List (List T_api_Term))) => ⟨[(1, (I a1)), (3, (Pt 3)), (9, (V.sl 1 1 (List.map sTerm o29))), (12, (Sr o21.1))], [(3, vS 4 (eBase a0))], 56⟩) (ra 3 3 ⟨[(1, (I a1)), (3, (Pt 3)), (9, (V.sl 0 1 (List.map sTerm x19))), (10, (V.sl 1 3 (List.map eTerm o23))), (12, (Sr o21.1)), (34, (Bo false)), (37, (V.sl 1 1 (List.map sTerm x19))), (38, (sTerm o23)), (39, (V.sl 0 1 (List.map sTerm ([o23] : List (List T_api_Term)))))], [(3, vS 4 (eBase a0))], 56⟩ rfl rfl rfl <| et (reg_eff (x := (app x19 ([o23] : List (List T_api_Term)))) (w := fun v28 => ((V.sl 1 1 (List.map sTerm v28)), _)) rfl rfl rfl rfl (p_app (e := sTerm) rfl rfl rfl rfl rfl rfl rfl rfl rfl rfl (by decide))) <| bind_self fun v28 => bind_end rfl) fun o29 => kr ⟨[(1, (I a1)), (3, (Pt 3)), (9, (V.sl 1 1 (List.map sTerm o29))), (10, (V.sl 1 3 (List.map eTerm ([] : List T_api_Term)))), (12, (Sr o21.1))], [(3, vS 4 (eBase a0))], 56⟩ rfl <| et k_assoc <| kga f25a11 rfl (fun (o31 : Bool) => [(47, (Bo o31))]) ?_ fun o31 => ?_
        · refine rd 3 [(41, (Sr o21.1)), (42, (Bo (o21.1 == ([] : Str)))), (43, (Bo (o21.1 == ([] : Str))))] rfl rfl <| bifE (fun hc => ?_) fun hc => ?_
          · rw [hc]
            exact reg_end rfl
          · rw [hc]
            exact rd 4 [(44, (Sr o21.1))] rfl rfl <| rp rfl (p_indexS rfl rfl rfl underlying9) fun v30 => bind_end rfl
        refine kc rfl rfl (fun hc => ?_) fun hc => ?_
        · rw [hc]
          refine et k_assoc <| kg f25a12 rfl (fun (o33 : (List (List T_api_Term)) × Str × Bool) => ⟨[(6, (V.sl 0 1 (List.map sTerm o33.1))), (7, (Sr o33.2.1)), (8, (Bo o33.2.2))], [], 56⟩) (rd 5 [(48, (V.sl 0 1 (List.map sTerm o29))), (49, (Sr o21.1)), (50, (eBase a0)), (51, (I a1)), (52, (V.sl 0 1 (List.map sTerm o29)))] rfl rfl <| rp rfl (p_call rfl rfl rfl rfl rfl (ref12_isCondition_ok k a0 a1 o29) (.inl rfl)) fun v32 => bind_end rfl) fun o33 => et k_ret <| et blk_ret <| et loop_ret <| et (hret _) ?_
          rfl
        · rw [hc]
          exact et k_skip <| kgl f25a13 rfl (fun (o35 : Str) => ⟨[(1, (I a1)), (2, (Sr o35)), (3, (Pt 3)), (9, (V.sl 1 1 (List.map sTerm o29))), (10, (V.sl 1 3 (List.map eTerm ([] : List T_api_Term))))], [(3, vS 4 (eBase a0))], 56⟩) (rd 1 [(54, (Sr o21.1))] rfl rfl <| rs rfl (p_sliceS rfl rfl rfl rfl rfl rfl underlying9) fun v34 => bind_end rfl) fun o35 => et blk_normal <| et k_lskip <| et loop_normal <| ih o35 ([] : List T_api_Term) o29
theorem ref12_Begin_ok (k : Nat) (a0 : T_api_Base) (a1 : Int) (a2 : Str) : EV k 25 [(eBase a0), (I a1), (Sr a2)] = (ref12_Begin k a0 a1 a2).map ref12_Begin_fin := by
  cases k with
  | zero => rfl
  | succ k =>
    unfold ref12_Begin
    refine et (evF_succ (c := f25c) (N := 56) (regs := f25n) rfl func25 rfl (by decide) rfl rfl rfl) <| kr ⟨[(1, (I a1)), (2, (Sr a2)), (3, (Pt 3))], [(3, vS 4 (eBase a0))], 56⟩ rfl <| kra [(9, (V.sl 1 1 (List.map sTerm ([] : List (List T_api_Term)))))] rfl <| kra [(10, (V.sl 1 3 (List.map eTerm ([] : List T_api_Term))))] rfl <| et (k_lblock rfl) <| et k_loop ?_
    refine ref12_Begin_L1_ok k a0 a1 a2 _ ?hr_ref12_Begin_L1 k a2 ([] : List T_api_Term) ([] : List (List T_api_Term))
    · intro s; exact rfl
def ref12_Parse_fin : ((List (List T_api_Term)) × Int) → V × List V := fun r => (.tup [(V.sl 0 1 (List.map sTerm r.1)), (I r.2)], [])
theorem ref12_Parse_ok (k : Nat) (a0 : T_api_Base) (a1 : Int) (a2 : Str) : EV k 10 [(eBase a0), (I a1), (Sr a2)] = (ref12_Parse k a0 a1 a2).map ref12_Parse_fin := by
  cases k with
  | zero => rfl
  | succ k =>
    unfold ref12_Parse
    refine et (evF_succ (c := f10c) (N := 37) (regs := f10n) rfl func10 rfl (by decide) rfl rfl rfl) <| kr ⟨[(1, (I a1)), (2, (Sr a2)), (3, (Pt 3))], [(3, vS 4 (eBase a0))], 37⟩ rfl <| et k_assoc <| kga f10a1 rfl (fun (o2 : Int) => [(8, (I o2))]) (rd 2 [(12, (eBase a0)), (13, (I a1))] rfl rfl <| rs rfl (p_call rfl rfl rfl rfl rfl (ref12_isType_ok k a0 a1) (.inl rfl)) fun v1 => bind_end rfl) fun o2 => et k_assoc <| kga f10a2 rfl (fun (o3 : Bool) => [(20, (Bo o3))]) ?_ fun o3 => ?_
    · refine rd 3 [(15, (I o2)), (16, (Bo (o2 != 0))), (17, (Bo (o2 != 0)))] rfl rfl <| bifE (fun hc => ?_) fun hc => ?_
      · rw [hc]
        exact reg_end rfl
      · rw [hc]
        exact reg_end rfl
    refine kc rfl rfl (fun hc => ?_) fun hc => ?_
    · rw [hc]
      refine et k_assoc <| kr ⟨[(6, (V.sl 0 1 (List.map sTerm ([] : List (List T_api_Term))))), (7, (I o2))], [], 37⟩ rfl <| et k_ret ?_
      rfl
    · rw [hc]
      refine et k_skip <| kg f10a4 rfl (fun (o5 : (List (List T_api_Term)) × Str × Bool) => ⟨[(9, (V.sl 0 1 (List.map sTerm o5.1))), (10, (Sr o5.2.1)), (11, (Bo o5.2.2))], [], 37⟩) (rd 3 [(23, (eBase a0)), (24, (I a1)), (25, (Sr a2))] rfl rfl <| rp rfl (p_call rfl rfl rfl rfl rfl (ref12_Begin_ok k a0 a1 a2) (.inl rfl)) fun v4 => bind_end rfl) fun o5 => et k_assoc <| kg f10a5 rfl (fun (o6 : Bool) => ⟨[(9, (V.sl 0 1 (List.map sTerm o5.1))), (35, (Bo o6))], [], 37⟩) ?_ fun o6 => ?_
      · refine rd 3 [(30, (Bo o5.2.2)), (31, (Bo (!o5.2.2))), (32, (Bo (!o5.2.2)))] rfl rfl <| bifE (fun hc => ?_) fun hc => ?_
        · rw [hc]
          exact reg_end rfl
        · rw [hc]
          exact reg_end rfl
      refine kc rfl rfl (fun hc => ?_) fun hc => ?_
      · rw [hc]
        refine et k_assoc <| kr ⟨[(6, (V.sl 0 1 (List.map sTerm ([] : List (List T_api_Term))))), (7, (I 3))], [], 37⟩ rfl <| et k_ret ?_
        rfl
      · rw [hc]
        refine et k_skip <| kr ⟨[(6, (V.sl 0 1 (List.map sTerm o5.1))), (7, (I 0))], [], 37⟩ rfl <| et k_lret ?_
        rfl
def ref12_Same_fin : Bool → V × List V := fun r => ((Bo r), [])
theorem ref12_Same_L2_ok (k : Nat) (a0 : (List (List T_api_Term))) (a1 : (List (List T_api_Term))) (x20 : Int)  (K0 : Int → Option Bool) (Kst : X × St → Option (V × List V)) (hK0 : ∀ (y0 : Int), Kst (X.exit 2, ⟨[(0, (V.sl 0 1 (List.map sTerm a0))), (1, (V.sl 0 1 (List.map sTerm a1))), (5, (I x20)), (6, (I y0)), (35, (Bo false))], [], 53⟩) = (K0 y0).map ref12_Same_fin) (hret : ∀ s, Kst (X.ret, s) = endK prog 53 [(V.sl 0 1 (List.map sTerm a0)), (V.sl 0 1 (List.map sTerm a1))] [] [.tmp 4] (X.ret, s)) :
    ∀ (m : Nat) (x31 : Int), (iter (exec prog (EV k) f11n k f11b0) m ⟨[(0, (V.sl 0 1 (List.map sTerm a0))), (1, (V.sl 0 1 (List.map sTerm a1))), (5, (I x20)), (6, (I x31))], [], 53⟩).bind Kst = (ref12_Same_L2 a0 a1 x20 K0 m x31).map ref12_Same_fin := by
  intro m
  induction m with
  | zero => intros; rfl
  | succ m ih =>
    intro x31
    unfold ref12_Same_L2
    refine et k_round <| et k_assoc <| kga f11a9 rfl (fun (o33 : Bool) => [(35, (Bo o33))]) (rd 3 [(29, (I x31)), (30, (V.sl 0 1 (List.map sTerm a0))), (31, (I x20))] rfl rfl <| rp rfl (p_index (e := sTerm) rfl rfl rfl underlying26 rfl (by decide)) fun v32 => bd 5 [(32, (Pr (sTerm v32))), (33, (sTerm v32))] rfl rfl <| rl rfl (p_len (e := eTerm) rfl rfl rfl rfl rfl rfl underlying46) <| bind_end rfl) fun o33 => kc rfl rfl (fun hc => ?_) fun hc => ?_
    · rw [hc]
      refine et k_skip <| et (k_block rfl) <| kd f11a11 rfl (fun (o38 : Bool) => ⟨[(0, (V.sl 0 1 (List.map sTerm a0))), (1, (V.sl 0 1 (List.map sTerm a1))), (5, (I x20)), (6, (I x31)), (52, (Bo o38))], [], 53⟩) (et (regionE_regp (p := 15) (dk := true) (t := [(0, (V.sl 0 1 (List.map sTerm a0))), (1, (V.sl 0 1 (List.map sTerm a1))), (5, (I x20)), (6, (I x31)), (35, (Bo true))]) (σ := []) (n := 53) rfl (by decide) (by decide) rfl) <| et (regp_adv (m := 2) (j := 2) (t' := [(0, (V.sl 0 1 (List.map sTerm a0))), (1, (V.sl 0 1 (List.map sTerm a1))), (5, (I x20)), (6, (I x31)), (35, (Bo true)), (38, (V.sl 0 1 (List.map sTerm a0))), (39, (I x20))]) rfl rfl rfl) <| et (regp_pure (x := (idx a0 x20)) (w := fun v34 => (Pr (sTerm v34))) rfl rfl rfl rfl rfl (p_index (e := sTerm) rfl rfl rfl underlying26 rfl (by decide))) <| bindE fun v34 => et (putp_adv (m := 2) (j := 5) (t' := [(0, (V.sl 0 1 (List.map sTerm a0))), (1, (V.sl 0 1 (List.map sTerm a1))), (5, (I x20)), (6, (I x31)), (35, (Bo true)), (38, (V.sl 0 1 (List.map sTerm a0))), (39, (I x20)), (40, (Pr (sTerm v34))), (41, (sTerm v34)), (42, (I x31))]) rfl rfl rfl) <| et (regp_pure (x := (idx v34 x31)) (w := fun v35 => (Pr (eTerm v35))) rfl rfl rfl rfl rfl (p_index (e := eTerm) rfl rfl rfl underlying46 rfl (by decide))) <| bindE fun v35 => et (putp_adv (m := 3) (j := 9) (t' := [(0, (V.sl 0 1 (List.map sTerm a0))), (1, (V.sl 0 1 (List.map sTerm a1))), (5, (I x20)), (6, (I x31)), (35, (Bo true)), (38, (V.sl 0 1 (List.map sTerm a0))), (39, (I x20)), (40, (Pr (sTerm v34))), (41, (sTerm v34)), (42, (I x31)), (43, (Pr (eTerm v35))), (44, (eTerm v35)), (45, (V.sl 0 1 (List.map sTerm a1))), (46, (I x20))]) rfl rfl rfl) <| et (regp_pure (x := (idx a1 x20)) (w := fun v36 => (Pr (sTerm v36))) rfl rfl rfl rfl rfl (p_index (e := sTerm) rfl rfl rfl underlying26 rfl (by decide))) <| bindE fun v36 => et (putp_adv (m := 2) (j := 12) (t' := [(0, (V.sl 0 1 (List.map sTerm a0))), (1, (V.sl 0 1 (List.map sTerm a1))), (5, (I x20)), (6, (I x31)), (35, (Bo true)), (38, (V.sl 0 1 (List.map sTerm a0))), (39, (I x20)), (40, (Pr (sTerm v34))), (41, (sTerm v34)), (42, (I x31)), (43, (Pr (eTerm v35))), (44, (eTerm v35)), (45, (V.sl 0 1 (List.map sTerm a1))), (46, (I x20)), (47, (Pr (sTerm v36))), (48, (sTerm v36)), (49, (I x31))]) rfl rfl rfl) <| et (regp_pure (x := (idx v36 x31)) (w := fun v37 => (Pr (eTerm v37))) rfl rfl rfl rfl rfl (p_index (e := eTerm) rfl rfl rfl underlying46 rfl (by decide))) <| bindE fun v37 => et (putp_adv (m := 1) (j := 14) (t' := [(0, (V.sl 0 1 (List.map sTerm a0))), (1, (V.sl 0 1 (List.map sTerm a1))), (5, (I x20)), (6, (I x31)), (35, (Bo true)), (38, (V.sl 0 1 (List.map sTerm a0))), (39, (I x20)), (40, (Pr (sTerm v34))), (41, (sTerm v34)), (42, (I x31)), (43, (Pr (eTerm v35))), (44, (eTerm v35)), (45, (V.sl 0 1 (List.map sTerm a1))), (46, (I x20)), (47, (Pr (sTerm v36))), (48, (sTerm v36)), (49, (I x31)), (50, (Pr (eTerm v37))), (51, (eTerm v37))]) rfl rfl rfl) <| et (regp_pure (x := some ()) (w := fun _ => (Bo (!(v35.fField == v37.fField && (v35.fOp == v37.fOp && (v35.fValue == v37.fValue && true)))))) rfl rfl rfl rfl rfl (p_neS rfl rfl rfl underlying48 sih48 eqg48 rfl)) <| et some_bind <| regp_end rfl) fun o38 => kcl rfl rfl (fun hc => ?_) fun hc => ?_
      · rw [hc]
        refine kr ⟨[(4, (Bo false))], [], 53⟩ rfl <| et k_lret <| et blk_ret <| et loop_ret <| et (hret _) ?_
        rfl
      · rw [hc]
        exact et k_lskip <| et blk_normal <| kl ⟨[(0, (V.sl 0 1 (List.map sTerm a0))), (1, (V.sl 0 1 (List.map sTerm a1))), (5, (I x20)), (6, (I (Go.IntKind.wrap .i64 (x31 + 1))))], [], 53⟩ rfl <| et loop_normal <| ih (Go.IntKind.wrap .i64 (x31 + 1))
    · rw [hc]
      exact et k_exit <| et loop_exit <| hK0 x31
theorem ref12_Same_L1_ok (k : Nat) (a0 : (List (List T_api_Term))) (a1 : (List (List T_api_Term)))  (K0 : Int → Option Bool) (Kst : X × St → Option (V × List V)) (hK0 : ∀ (y0 : Int), Kst (X.exit 0, ⟨[(0, (V.sl 0 1 (List.map sTerm a0))), (1, (V.sl 0 1 (List.map sTerm a1))), (5, (I y0)), (15, (Bo false))], [], 53⟩) = (K0 y0).map ref12_Same_fin) (hret : ∀ s, Kst (X.ret, s) = endK prog 53 [(V.sl 0 1 (List.map sTerm a0)), (V.sl 0 1 (List.map sTerm a1))] [] [.tmp 4] (X.ret, s)) :
    ∀ (m : Nat) (x20 : Int), (iter (exec prog (EV k) f11n k f11b1) m ⟨[(0, (V.sl 0 1 (List.map sTerm a0))), (1, (V.sl 0 1 (List.map sTerm a1))), (5, (I x20))], [], 53⟩).bind Kst = (ref12_Same_L1 k a0 a1 K0 m x20).map ref12_Same_fin := by
  intro m
  induction m with
  | zero => intros; rfl
  | succ m ih =>
    intro x20
    unfold ref12_Same_L1
    refine et k_round <| et k_assoc <| krp f11a4 rfl ⟨[(0, (V.sl 0 1 (List.map sTerm a0))), (1, (V.sl 0 1 (List.map sTerm a1))), (5, (I x20)), (15, (Bo (decide (x20 < (a0.length : Int)))))], [], 53⟩ ?_ ?_
    · exact rd 2 [(12, (I x20)), (13, (V.sl 0 1 (List.map sTerm a0)))] rfl rfl <| rl rfl (p_len (e := sTerm) rfl rfl rfl rfl rfl rfl underlying26) <| bind_end rfl
    refine kc rfl rfl (fun hc => ?_) fun hc => ?_
    · rw [hc]
      refine et k_skip <| et (k_block rfl) <| et k_assoc <| kd f11a6 rfl (fun (o23 : Bool) => ⟨[(0, (V.sl 0 1 (List.map sTerm a0))), (1, (V.sl 0 1 (List.map sTerm a1))), (5, (I x20)), (28, (Bo o23))], [], 53⟩) (et (regionE_regp (p := 11) (dk := true) (t := [(0, (V.sl 0 1 (List.map sTerm a0))), (1, (V.sl 0 1 (List.map sTerm a1))), (5, (I x20)), (15, (Bo true))]) (σ := []) (n := 53) rfl (by decide) (by decide) rfl) <| et (regp_adv (m := 2) (j := 2) (t' := [(0, (V.sl 0 1 (List.map sTerm a0))), (1, (V.sl 0 1 (List.map sTerm a1))), (5, (I x20)), (15, (Bo true)), (18, (V.sl 0 1 (List.map sTerm a0))), (19, (I x20))]) rfl rfl rfl) <| et (regp_pure (x := (idx a0 x20)) (w := fun v21 => (Pr (sTerm v21))) rfl rfl rfl rfl rfl (p_index (e := sTerm) rfl rfl rfl underlying26 rfl (by decide))) <| bindE fun v21 => et (putp_adv (m := 1) (j := 4) (t' := [(0, (V.sl 0 1 (List.map sTerm a0))), (1, (V.sl 0 1 (List.map sTerm a1))), (5, (I x20)), (15, (Bo true)), (18, (V.sl 0 1 (List.map sTerm a0))), (19, (I x20)), (20, (Pr (sTerm v21))), (21, (sTerm v21))]) rfl rfl rfl) <| et (regp_pure (x := some ()) (w := fun _ => (I (v21.length : Int))) rfl rfl rfl rfl rfl (p_len (e := eTerm) rfl rfl rfl rfl rfl rfl underlying46)) <| et some_bind <| et (putp_adv (m := 2) (j := 7) (t' := [(0, (V.sl 0 1 (List.map sTerm a0))), (1, (V.sl 0 1 (List.map sTerm a1))), (5, (I x20)), (15, (Bo true)), (18, (V.sl 0 1 (List.map sTerm a0))), (19, (I x20)), (20, (Pr (sTerm v21))), (21, (sTerm v21)), (22, (I (v21.length : Int))), (23, (V.sl 0 1 (List.map sTerm a1))), (24, (I x20))]) rfl rfl rfl) <| et (regp_pure (x := (idx a1 x20)) (w := fun v22 => (Pr (sTerm v22))) rfl rfl rfl rfl rfl (p_index (e := sTerm) rfl rfl rfl underlying26 rfl (by decide))) <| bindE fun v22 => et (putp_adv (m := 1) (j := 9) (t' := [(0, (V.sl 0 1 (List.map sTerm a0))), (1, (V.sl 0 1 (List.map sTerm a1))), (5, (I x20)), (15, (Bo true)), (18, (V.sl 0 1 (List.map sTerm a0))), (19, (I x20)), (20, (Pr (sTerm v21))), (21, (sTerm v21)), (22, (I (v21.length : Int))), (23, (V.sl 0 1 (List.map sTerm a1))), (24, (I x20)), (25, (Pr (sTerm v22))), (26, (sTerm v22))]) rfl rfl rfl) <| et (regp_pure (x := some ()) (w := fun _ => (I (v22.length : Int))) rfl rfl rfl rfl rfl (p_len (e := eTerm) rfl rfl rfl rfl rfl rfl underlying46)) <| et some_bind <| regp_end rfl) fun o23 => kc rfl rfl (fun hc => ?_) fun hc => ?_
      · rw [hc]
        refine et k_assoc <| kr ⟨[(4, (Bo false))], [], 53⟩ rfl <| et k_ret <| et blk_ret <| et loop_ret <| et (hret _) ?_
        rfl
      · rw [hc]
        refine et k_skip <| kr ⟨[(0, (V.sl 0 1 (List.map sTerm a0))), (1, (V.sl 0 1 (List.map sTerm a1))), (5, (I x20)), (6, (I 0))], [], 53⟩ rfl <| et (k_lblock rfl) <| et k_loop ?_
        refine ref12_Same_L2_ok k a0 a1 x20 _ _ ?h_ref12_Same_L2_0 ?hr_ref12_Same_L2 k 0
        · intro y39
          exact et blk_exit <| et k_lskip <| et blk_normal <| kl ⟨[(0, (V.sl 0 1 (List.map sTerm a0))), (1, (V.sl 0 1 (List.map sTerm a1))), (5, (I (Go.IntKind.wrap .i64 (x20 + 1))))], [], 53⟩ rfl <| et loop_normal <| ih (Go.IntKind.wrap .i64 (x20 + 1))
        · intro s; exact hret s
    · rw [hc]
      exact et k_exit <| et loop_exit <| hK0 x20
theorem ref12_Same_ok (k : Nat) (a0 : (List (List T_api_Term))) (a1 : (List (List T_api_Term))) : EV k 11 [(V.sl 0 1 (List.map sTerm a0)), (V.sl 0 1 (List.map sTerm a1))] = (ref12_Same k a0 a1).map ref12_Same_fin := by
  cases k with
  | zero => rfl
  | succ k =>
    unfold ref12_Same
    refine et (evF_succ (c := f11c) (N := 53) (regs := f11n) rfl func11 rfl (by decide) rfl rfl rfl) <| kra [] rfl <| et k_assoc <| krp f11a1 rfl ⟨[(0, (V.sl 0 1 (List.map sTerm a0))), (1, (V.sl 0 1 (List.map sTerm a1))), (11, (Bo ((a0.length : Int) != (a1.length : Int))))], [], 53⟩ ?_ ?_
    · exact rd 1 [(7, (V.sl 0 1 (List.map sTerm a0)))] rfl rfl <| rl rfl (p_len (e := sTerm) rfl rfl rfl rfl rfl rfl underlying26) <| bd 3 [(8, (I (a0.length : Int))), (9, (V.sl 0 1 (List.map sTerm a1)))] rfl rfl <| rl rfl (p_len (e := sTerm) rfl rfl rfl rfl rfl rfl underlying26) <| bind_end rfl
    refine kc rfl rfl (fun hc => ?_) fun hc => ?_
    · rw [hc]
      refine et k_assoc <| kr ⟨[(4, (Bo false))], [], 53⟩ rfl <| et k_ret ?_
      rfl
    · rw [hc]
      refine et k_skip <| et k_assoc <| kr ⟨[(0, (V.sl 0 1 (List.map sTerm a0))), (1, (V.sl 0 1 (List.map sTerm a1))), (5, (I 0))], [], 53⟩ rfl <| et (k_block rfl) <| et k_loop ?_
      refine ref12_Same_L1_ok k a0 a1 _ _ ?h_ref12_Same_L1_0 ?hr_ref12_Same_L1 k 0
      · intro y40
        refine et blk_exit <| kr ⟨[(4, (Bo true))], [], 53⟩ rfl <| et k_lret ?_
        rfl
      · intro s; exact rfl
def slices_EqualFunc_TermL_v20_fin : Bool → V × List V := fun r => ((Bo r), [])
theorem slices_EqualFunc_TermL_v20_L1_ok (k : Nat) (a0 : (List (List T_api_Term))) (a1 : (List (List T_api_Term))) (a2 : Nat → (List T_api_Term) → (List T_api_Term) → Option Bool) (a2_fid : Go.FuncId)  (a2_hok : ∀ j x0 x1, EV j a2_fid [(sTerm x0), (sTerm x1)] = (a2 j x0 x1).map fun b => ((Bo b), [])) (K0 : Int → Option Bool) (Kst : X × St → Option (V × List V)) (hK0 : ∀ (y0 : Int), Kst (X.exit 0, ⟨[(1, (V.sl 0 1 (List.map sTerm a1))), (2, (V.fn a2_fid [] [])), (15, (V.sl 0 1 (List.map sTerm a0))), (16, (I (a0.length : Int))), (17, (I y0)), (18, (Bo false))], [], 32⟩) = (K0 y0).map slices_EqualFunc_TermL_v20_fin) (hret : ∀ s, Kst (X.ret, s) = endK prog 32 [(V.sl 0 1 (List.map sTerm a0)), (V.sl 0 1 (List.map sTerm a1)), (V.fn a2_fid [] [])] [] [.tmp 6] (X.ret, s)) :
    ∀ (m : Nat) (x7 : Int), (iter (exec prog (EV k) f26v20n k f26v20b0) m ⟨[(1, (V.sl 0 1 (List.map sTerm a1))), (2, (V.fn a2_fid [] [])), (15, (V.sl 0 1 (List.map sTerm a0))), (16, (I (a0.length : Int))), (17, (I x7))], [], 32⟩).bind Kst = (slices_EqualFunc_TermL_v20_L1 k a0 a1 a2 K0 m x7).map slices_EqualFunc_TermL_v20_fin := by
  intro m
  induction m with
  | zero => intros; rfl
  | succ m ih =>
    intro x7
    unfold slices_EqualFunc_TermL_v20_L1
    refine et k_round <| kra [(18, (Bo (decide (x7 < (a0.length : Int)))))] rfl <| kc rfl rfl (fun hc => ?_) fun hc => ?_
    · rw [hc]
      refine et k_skip <| et (k_block rfl) <| kg f26v20a5 rfl (fun (o9 : Int × (List T_api_Term)) => ⟨[(1, (V.sl 0 1 (List.map sTerm a1))), (2, (V.fn a2_fid [] [])), (7, (I o9.1)), (8, (sTerm o9.2)), (15, (V.sl 0 1 (List.map sTerm a0))), (16, (I (a0.length : Int))), (17, (I x7))], [], 32⟩) (rd 1 [(19, (I x7))] rfl rfl <| rp rfl (p_index (e := sTerm) rfl rfl rfl underlying26 rfl (by decide)) fun v8 => bind_end rfl) fun o9 => kg f26v20a6 rfl (fun (o11 : (List T_api_Term)) => ⟨[(1, (V.sl 0 1 (List.map sTerm a1))), (2, (V.fn a2_fid [] [])), (8, (sTerm o9.2)), (9, (sTerm o11)), (15, (V.sl 0 1 (List.map sTerm a0))), (16, (I (a0.length : Int))), (17, (I x7))], [], 32⟩) (rd 2 [(22, (V.sl 0 1 (List.map sTerm a1))), (23, (I o9.1))] rfl rfl <| rs rfl (p_index (e := sTerm) rfl rfl rfl underlying26 rfl (by decide)) fun v10 => bind_end rfl) fun o11 => kg f26v20a7 rfl (fun (o13 : Bool) => ⟨[(1, (V.sl 0 1 (List.map sTerm a1))), (2, (V.fn a2_fid [] [])), (15, (V.sl 0 1 (List.map sTerm a0))), (16, (I (a0.length : Int))), (17, (I x7)), (30, (Bo o13))], [], 32⟩) (rd 3 [(26, (V.fn a2_fid [] [])), (27, (sTerm o9.2)), (28, (sTerm o11))] rfl rfl <| rp rfl (p_call rfl rfl rfl rfl rfl (a2_hok k o9.2 o11) (.inl rfl)) fun v12 => bind_end rfl) fun o13 => kcl rfl rfl (fun hc => ?_) fun hc => ?_
      · rw [hc]
        refine kr ⟨[(6, (Bo false))], [], 32⟩ rfl <| et k_lret <| et blk_ret <| et loop_ret <| et (hret _) ?_
        rfl
      · rw [hc]
        exact et k_lskip <| et blk_normal <| kl ⟨[(1, (V.sl 0 1 (List.map sTerm a1))), (2, (V.fn a2_fid [] [])), (15, (V.sl 0 1 (List.map sTerm a0))), (16, (I (a0.length : Int))), (17, (I (Go.IntKind.wrap .i64 (x7 + 1))))], [], 32⟩ rfl <| et loop_normal <| ih (Go.IntKind.wrap .i64 (x7 + 1))
    · rw [hc]
      exact et k_exit <| et loop_exit <| hK0 x7
theorem slices_EqualFunc_TermL_v20_ok (k : Nat) (a0 : (List (List T_api_Term))) (a1 : (List (List T_api_Term))) (a2 : Nat → (List T_api_Term) → (List T_api_Term) → Option Bool) (a2_fid : Go.FuncId)  (a2_hok : ∀ j x0 x1, EV j a2_fid [(sTerm x0), (sTerm x1)] = (a2 j x0 x1).map fun b => ((Bo b), [])) : EV k 26 [(V.sl 0 1 (List.map sTerm a0)), (V.sl 0 1 (List.map sTerm a1)), (V.fn a2_fid [] [])] = (slices_EqualFunc_TermL_v20 k a0 a1 a2).map slices_EqualFunc_TermL_v20_fin := by
  cases k with
  | zero => rfl
  | succ k =>
    unfold slices_EqualFunc_TermL_v20
    refine et (evF_succ (c := f26v20c) (N := 32) (regs := f26v20n) rfl func26 rfl (by decide) rfl rfl rfl) <| kra [] rfl <| et k_assoc <| krp f26v20a1 rfl ⟨[(0, (V.sl 0 1 (List.map sTerm a0))), (1, (V.sl 0 1 (List.map sTerm a1))), (2, (V.fn a2_fid [] [])), (14, (Bo ((a0.length : Int) != (a1.length : Int))))], [], 32⟩ ?_ ?_
    · exact rd 1 [(10, (V.sl 0 1 (List.map sTerm a0)))] rfl rfl <| rl rfl (p_len (e := sTerm) rfl rfl rfl rfl rfl rfl underlying26) <| bd 3 [(11, (I (a0.length : Int))), (12, (V.sl 0 1 (List.map sTerm a1)))] rfl rfl <| rl rfl (p_len (e := sTerm) rfl rfl rfl rfl rfl rfl underlying26) <| bind_end rfl
    refine kc rfl rfl (fun hc => ?_) fun hc => ?_
    · rw [hc]
      refine et k_assoc <| kr ⟨[(6, (Bo false))], [], 32⟩ rfl <| et k_ret ?_
      rfl
    · rw [hc]
      refine et k_skip <| et k_assoc <| krp f26v20a3 rfl ⟨[(1, (V.sl 0 1 (List.map sTerm a1))), (2, (V.fn a2_fid [] [])), (15, (V.sl 0 1 (List.map sTerm a0))), (16, (I (a0.length : Int))), (17, (I 0))], [], 32⟩ ?_ ?_
      · exact rd 1 [(15, (V.sl 0 1 (List.map sTerm a0)))] rfl rfl <| rl rfl (p_len (e := sTerm) rfl rfl rfl rfl rfl rfl underlying26) <| bind_end rfl
      refine et (k_block rfl) <| et k_loop ?_
      refine slices_EqualFunc_TermL_v20_L1_ok k a0 a1 a2 a2_fid a2_hok _ _ ?h_slices_EqualFunc_TermL_v20_L1_0 ?hr_slices_EqualFunc_TermL_v20_L1 k 0
      · intro y14
        refine et blk_exit <| kr ⟨[(6, (Bo true))], [], 32⟩ rfl <| et k_lret ?_
        rfl
      · intro s; exact rfl
def slices_Equal_Term_fin : Bool → V × List V := fun r => ((Bo r), [])
theorem slices_Equal_Term_L1_ok (k : Nat) (a0 : (List T_api_Term)) (a1 : (List T_api_Term))  (K0 : Int → Option Bool) (Kst : X × St → Option (V × List V)) (hK0 : ∀ (y0 : Int), Kst (X.exit 0, ⟨[(0, (sTerm a0)), (1, (sTerm a1)), (12, (I (a0.length : Int))), (13, (I y0)), (14, (Bo false))], [], 26⟩) = (K0 y0).map slices_Equal_Term_fin) (hret : ∀ s, Kst (X.ret, s) = endK prog 26 [(sTerm a0), (sTerm a1)] [] [.tmp 4] (X.ret, s)) :
    ∀ (m : Nat) (x4 : Int), (iter (exec prog (EV k) f27n k f27b0) m ⟨[(0, (sTerm a0)), (1, (sTerm a1)), (12, (I (a0.length : Int))), (13, (I x4))], [], 26⟩).bind Kst = (slices_Equal_Term_L1 a0 a1 K0 m x4).map slices_Equal_Term_fin := by
  intro m
  induction m with
  | zero => intros; rfl
  | succ m ih =>
    intro x4
    unfold slices_Equal_Term_L1
    refine et k_round <| kra [(14, (Bo (decide (x4 < (a0.length : Int)))))] rfl <| kc rfl rfl (fun hc => ?_) fun hc => ?_
    · rw [hc]
      refine et k_skip <| et (k_block rfl) <| kr ⟨[(0, (sTerm a0)), (1, (sTerm a1)), (5, (I x4)), (12, (I (a0.length : Int))), (13, (I x4))], [], 26⟩ rfl <| kd f27a6 rfl (fun (o7 : Bool) => ⟨[(0, (sTerm a0)), (1, (sTerm a1)), (12, (I (a0.length : Int))), (13, (I x4)), (24, (Bo o7))], [], 26⟩) (et (regionE_regp (p := 9) (dk := true) (t := [(0, (sTerm a0)), (1, (sTerm a1)), (5, (I x4)), (12, (I (a0.length : Int))), (13, (I x4))]) (σ := []) (n := 26) rfl (by decide) (by decide) rfl) <| et (regp_adv (m := 2) (j := 2) (t' := [(0, (sTerm a0)), (1, (sTerm a1)), (5, (I x4)), (12, (I (a0.length : Int))), (13, (I x4)), (16, (sTerm a0)), (17, (I x4))]) rfl rfl rfl) <| et (regp_pure (x := (idx a0 x4)) (w := fun v5 => (Pr (eTerm v5))) rfl rfl rfl rfl rfl (p_index (e := eTerm) rfl rfl rfl underlying46 rfl (by decide))) <| bindE fun v5 => et (putp_adv (m := 3) (j := 6) (t' := [(0, (sTerm a0)), (1, (sTerm a1)), (5, (I x4)), (12, (I (a0.length : Int))), (13, (I x4)), (16, (sTerm a0)), (17, (I x4)), (18, (Pr (eTerm v5))), (19, (eTerm v5)), (20, (sTerm a1)), (21, (I x4))]) rfl rfl rfl) <| et (regp_pure (x := (idx a1 x4)) (w := fun v6 => (Pr (eTerm v6))) rfl rfl rfl rfl rfl (p_index (e := eTerm) rfl rfl rfl underlying46 rfl (by decide))) <| bindE fun v6 => et (putp_adv (m := 1) (j := 8) (t' := [(0, (sTerm a0)), (1, (sTerm a1)), (5, (I x4)), (12, (I (a0.length : Int))), (13, (I x4)), (16, (sTerm a0)), (17, (I x4)), (18, (Pr (eTerm v5))), (19, (eTerm v5)), (20, (sTerm a1)), (21, (I x4)), (22, (Pr (eTerm v6))), (23, (eTerm v6))]) rfl rfl rfl) <| et (regp_pure (x := some ()) (w := fun _ => (Bo (!(v5.fField == v6.fField && (v5.fOp == v6.fOp && (v5.fValue == v6.fValue && true)))))) rfl rfl rfl rfl rfl (p_neS rfl rfl rfl underlying48 sih48 eqg48 rfl)) <| et some_bind <| regp_end rfl) fun o7 => kcl rfl rfl (fun hc => ?_) fun hc => ?_
      · rw [hc]
        refine kr ⟨[(4, (Bo false))], [], 26⟩ rfl <| et k_lret <| et blk_ret <| et loop_ret <| et (hret _) ?_
        rfl
      · rw [hc]
        exact et k_lskip <| et blk_normal <| kl ⟨[(0, (sTerm a0)), (1, (sTerm a1)), (12, (I (a0.length : Int))), (13, (I (Go.IntKind.wrap .i64 (x4 + 1))))], [], 26⟩ rfl <| et loop_normal <| ih (Go.IntKind.wrap .i64 (x4 + 1))
    · rw [hc]
      exact et k_exit <| et loop_exit <| hK0 x4
theorem slices_Equal_Term_ok (k : Nat) (a0 : (List T_api_Term)) (a1 : (List T_api_Term)) : EV k 27 [(sTerm a0), (sTerm a1)] = (slices_Equal_Term k a0 a1).map slices_Equal_Term_fin := by
  cases k with
  | zero => rfl
  | succ k =>
    unfold slices_Equal_Term
    refine et (evF_succ (c := f27c) (N := 26) (regs := f27n) rfl func27 rfl (by decide) rfl rfl rfl) <| kra [] rfl <| et k_assoc <| krp f27a1 rfl ⟨[(0, (sTerm a0)), (1, (sTerm a1)), (10, (Bo ((a0.length : Int) != (a1.length : Int))))], [], 26⟩ ?_ ?_
    · exact rd 1 [(6, (sTerm a0))] rfl rfl <| rl rfl (p_len (e := eTerm) rfl rfl rfl rfl rfl rfl underlying46) <| bd 3 [(7, (I (a0.length : Int))), (8, (sTerm a1))] rfl rfl <| rl rfl (p_len (e := eTerm) rfl rfl rfl rfl rfl rfl underlying46) <| bind_end rfl
    refine kc rfl rfl (fun hc => ?_) fun hc => ?_
    · rw [hc]
      refine et k_assoc <| kr ⟨[(4, (Bo false))], [], 26⟩ rfl <| et k_ret ?_
      rfl
    · rw [hc]
      refine et k_skip <| et k_assoc <| krp f27a3 rfl ⟨[(0, (sTerm a0)), (1, (sTerm a1)), (12, (I (a0.length : Int))), (13, (I 0))], [], 26⟩ ?_ ?_
      · exact rd 1 [(11, (sTerm a0))] rfl rfl <| rl rfl (p_len (e := eTerm) rfl rfl rfl rfl rfl rfl underlying46) <| bind_end rfl
      refine et (k_block rfl) <| et k_loop ?_
      refine slices_Equal_Term_L1_ok k a0 a1 _ _ ?h_slices_Equal_Term_L1_0 ?hr_slices_Equal_Term_L1 k 0
      · intro y8
        refine et blk_exit <| kr ⟨[(4, (Bo true))], [], 26⟩ rfl <| et k_lret ?_
        rfl
      · intro s; exact rfl
def match_Same_fin : Bool → V × List V := fun r => ((Bo r), [])
theorem match_Same_ok (k : Nat) (a0 : (List (List T_api_Term))) (a1 : (List (List T_api_Term))) : EV k 12 [(V.sl 0 1 (List.map sTerm a0)), (V.sl 0 1 (List.map sTerm a1))] = (match_Same k a0 a1).map match_Same_fin := by
  cases k with
  | zero => rfl
  | succ k =>
    unfold match_Same
    refine et (evF_succ (c := f12c) (N := 8) (regs := f12n) rfl func12 rfl (by decide) rfl rfl rfl) <| kra [] rfl <| kg f12a1 rfl (fun (o2 : Bool) => ⟨[(4, (Bo o2))], [], 8⟩) (rd 2 [(5, (V.sl 0 1 (List.map sTerm a0))), (6, (V.sl 0 1 (List.map sTerm a1)))] rfl rfl <| rs rfl (p_call rfl rfl rfl rfl rfl (slices_EqualFunc_TermL_v20_ok k a0 a1 (fun j x0 x1 => (slices_Equal_Term j x0 x1)) 27 (fun j x0 x1 => (slices_Equal_Term_ok j x0 x1))) (.inl rfl)) fun v1 => bind_end rfl) fun o2 => et k_lret ?_
    rfl
def law12_MatchTexts_fin : Bool → V × List V := fun r => ((Bo r), [])
theorem law12_MatchTexts_ok (k : Nat) (a0 : T_progenylaw12_Case) (a1 : Str) : EV k 3 [(eCase a0), (Sr a1)] = (law12_MatchTexts k a0 a1).map law12_MatchTexts_fin := by
  cases k with
  | zero => rfl
  | succ k =>
    unfold law12_MatchTexts
    refine et (evF_succ (c := f3c) (N := 127) (regs := f3n) rfl func3 rfl (by decide) rfl rfl rfl) <| kr ⟨[(1, (Sr a1)), (2, (Pt 2))], [(2, vS 6 (eCase a0))], 127⟩ rfl <| et k_assoc <| kga f3a1 rfl (fun (o3 : Bool) => [(29, (Bo o3))]) ?_ fun o3 => ?_
    · refine rd 2 [(17, (Pt 2)), (18, (eBase a0.fBase))] rfl rfl <| rp rfl (p_call rfl rfl rfl rfl rfl (law12_Large_ok k a0.fBase) (.inl rfl)) fun v1 => bd 4 [(19, (Bo v1)), (20, (Bo v1))] rfl rfl <| bifE (fun hc => ?_) fun hc => ?_
      · rw [hc]
        exact reg_end rfl
      · rw [hc]
        refine rd 6 [(21, (V.ptr 2 0 5)), (22, (V.sl 0 1 (List.map sTerm a0.fWhen)))] rfl rfl <| rp rfl (p_call rfl rfl rfl rfl rfl (law12_Long_ok k a0.fWhen) (.inl rfl)) fun v2 => bd 9 [(23, (Bo v2)), (24, (Bo v2)), (25, (Bo v2))] rfl rfl <| bifE (fun hc => ?_) fun hc => ?_
        · rw [hc]
          exact reg_end rfl
        · rw [hc]
          exact reg_end rfl
    refine kc rfl rfl (fun hc => ?_) fun hc => ?_
    · rw [hc]
      refine et k_assoc <| kg f3a2 rfl (fun (o5 : Bool) => ⟨[(4, (Bo o5))], [], 127⟩) (rs rfl (p_call rfl rfl rfl rfl rfl (law12_Awake_ok k) (.inl rfl)) fun v4 => bind_end rfl) fun o5 => et k_ret ?_
      rfl
    · rw [hc]
      refine et k_skip <| kg f3a3 rfl (fun (o7 : Str × Int) => ⟨[(1, (Sr a1)), (2, (Pt 2)), (5, (Sr o7.1)), (6, (I o7.2))], [(2, vS 6 (eCase a0))], 127⟩) (rd 6 [(32, (Pt 2)), (33, (eBase a0.fBase)), (34, (V.ptr 2 0 4)), (35, (I a0.fType)), (36, (V.ptr 2 0 5)), (37, (V.sl 0 1 (List.map sTerm a0.fWhen)))] rfl rfl <| rp rfl (p_call rfl rfl rfl rfl rfl (match_Format_ok k a0.fBase a0.fType a0.fWhen) (.inl rfl)) fun v6 => bind_end rfl) fun o7 => kga f3a4 rfl (fun (o9 : Str × Int) => [(7, (Sr o9.1)), (8, (I o9.2))]) (rd 6 [(42, (Pt 2)), (43, (eBase a0.fBase)), (44, (V.ptr 2 0 4)), (45, (I a0.fType)), (46, (V.ptr 2 0 5)), (47, (V.sl 0 1 (List.map sTerm a0.fWhen)))] rfl rfl <| rp rfl (p_call rfl rfl rfl rfl rfl (ref12_Format_ok k a0.fBase a0.fType a0.fWhen) (.inl rfl)) fun v8 => bind_end rfl) fun o9 => kga f3a5 rfl (fun (o11 : (List (List T_api_Term)) × Int) => [(9, (V.sl 0 1 (List.map sTerm o11.1))), (10, (I o11.2))]) (rd 5 [(52, (Pt 2)), (53, (eBase a0.fBase)), (54, (V.ptr 2 0 4)), (55, (I a0.fType)), (56, (Sr a1))] rfl rfl <| rp rfl (p_call rfl rfl rfl rfl rfl (match_Parse_ok k a0.fBase a0.fType a1) (.inl rfl)) fun v10 => bind_end rfl) fun o11 => kga f3a6 rfl (fun (o13 : (List (List T_api_Term)) × Int) => [(11, (V.sl 0 1 (List.map sTerm o13.1))), (12, (I o13.2))]) (rd 5 [(61, (Pt 2)), (62, (eBase a0.fBase)), (63, (V.ptr 2 0 4)), (64, (I a0.fType)), (65, (Sr a1))] rfl rfl <| rp rfl (p_call rfl rfl rfl rfl rfl (ref12_Parse_ok k a0.fBase a0.fType a1) (.inl rfl)) fun v12 => bind_end rfl) fun o13 => et k_assoc <| kg f3a7 rfl (fun (o15 : Bool) => ⟨[(1, (Sr a1)), (2, (Pt 2)), (5, (Sr o7.1)), (6, (I o7.2)), (9, (V.sl 0 1 (List.map sTerm o11.1))), (10, (I o11.2)), (87, (Bo o15))], [(2, vS 6 (eCase a0))], 127⟩) ?_ fun o15 => ?_
      · refine rd 4 [(69, (Sr o7.1)), (70, (Sr o9.1)), (71, (Bo (!(o7.1 == o9.1)))), (72, (Bo (!(o7.1 == o9.1))))] rfl rfl <| bifE (fun hc => ?_) fun hc => ?_
        · rw [hc]
          exact reg_end rfl
        · rw [hc]
          refine rd 9 [(73, (I o7.2)), (74, (I o9.2)), (75, (Bo (o7.2 != o9.2))), (76, (Bo (o7.2 != o9.2))), (77, (Bo (o7.2 != o9.2)))] rfl rfl <| bifE (fun hc => ?_) fun hc => ?_
          · rw [hc]
            exact reg_end rfl
          · rw [hc]
            refine rd 11 [(78, (V.sl 0 1 (List.map sTerm o11.1))), (79, (V.sl 0 1 (List.map sTerm o13.1)))] rfl rfl <| rp rfl (p_call rfl rfl rfl rfl rfl (ref12_Same_ok k o11.1 o13.1) (.inl rfl)) fun v14 => bd 15 [(80, (Bo v14)), (81, (Bo (!v14))), (82, (Bo (!v14))), (83, (Bo (!v14)))] rfl rfl <| bifE (fun hc => ?_) fun hc => ?_
            · rw [hc]
              exact reg_end rfl
            · rw [hc]
              exact reg_end rfl
      refine kc rfl rfl (fun hc => ?_) fun hc => ?_
      · rw [hc]
        refine et k_assoc <| kr ⟨[(4, (Bo false))], [], 127⟩ rfl <| et k_ret ?_
        rfl
      · rw [hc]
        refine et k_skip <| et k_assoc <| kr ⟨[(1, (Sr a1)), (2, (Pt 2)), (5, (Sr o7.1)), (9, (V.sl 0 1 (List.map sTerm o11.1))), (10, (I o11.2)), (89, (Bo (o7.2 == 0)))], [(2, vS 6 (eCase a0))], 127⟩ rfl <| kc rfl rfl (fun hc => ?_) fun hc => ?_
        · rw [hc]
          refine et k_assoc <| kg f3a10 rfl (fun (o17 : (List (List T_api_Term)) × Int) => ⟨[(1, (Sr a1)), (2, (Pt 2)), (9, (V.sl 0 1 (List.map sTerm o11.1))), (10, (I o11.2)), (13, (V.sl 0 1 (List.map sTerm o17.1))), (14, (I o17.2))], [(2, vS 6 (eCase a0))], 127⟩) (rd 5 [(91, (Pt 2)), (92, (eBase a0.fBase)), (93, (V.ptr 2 0 4)), (94, (I a0.fType)), (95, (Sr o7.1))] rfl rfl <| rp rfl (p_call rfl rfl rfl rfl rfl (match_Parse_ok k a0.fBase a0.fType o7.1) (.inl rfl)) fun v16 => bind_end rfl) fun o17 => et k_assoc <| kg f3a11 rfl (fun (o19 : Bool) => ⟨[(1, (Sr a1)), (2, (Pt 2)), (9, (V.sl 0 1 (List.map sTerm o11.1))), (10, (I o11.2)), (107, (Bo o19))], [(2, vS 6 (eCase a0))], 127⟩) ?_ fun o19 => ?_
          · refine rd 3 [(99, (I o17.2)), (100, (Bo (o17.2 != 0))), (101, (Bo (o17.2 != 0)))] rfl rfl <| bifE (fun hc => ?_) fun hc => ?_
            · rw [hc]
              exact reg_end rfl
            · rw [hc]
              exact rd 6 [(102, (V.sl 0 1 (List.map sTerm o17.1))), (103, (V.ptr 2 0 5)), (104, (V.sl 0 1 (List.map sTerm a0.fWhen)))] rfl rfl <| rp rfl (p_call rfl rfl rfl rfl rfl (match_Same_ok k o17.1 a0.fWhen) (.inl rfl)) fun v18 => bind_end rfl
          refine kc rfl rfl (fun hc => ?_) fun hc => ?_
          · rw [hc]
            refine et k_assoc <| kr ⟨[(4, (Bo false))], [], 127⟩ rfl <| et k_ret ?_
            rfl
          · rw [hc]
            refine et k_skip <| et k_assoc <| kr ⟨[(1, (Sr a1)), (2, (Pt 2)), (9, (V.sl 0 1 (List.map sTerm o11.1))), (109, (Bo (o11.2 == 0)))], [(2, vS 6 (eCase a0))], 127⟩ rfl <| kc rfl rfl (fun hc => ?_) fun hc => ?_
            · rw [hc]
              refine et k_assoc <| kg f3a14 rfl (fun (o21 : Str × Int) => ⟨[(1, (Sr a1)), (15, (Sr o21.1)), (16, (I o21.2))], [], 127⟩) (rd 5 [(111, (Pt 2)), (112, (eBase a0.fBase)), (113, (V.ptr 2 0 4)), (114, (I a0.fType)), (115, (V.sl 0 1 (List.map sTerm o11.1)))] rfl rfl <| rp rfl (p_call rfl rfl rfl rfl rfl (match_Format_ok k a0.fBase a0.fType o11.1) (.inl rfl)) fun v20 => bind_end rfl) fun o21 => et k_assoc <| kg f3a15 rfl (fun (o22 : Bool) => ⟨[(125, (Bo o22))], [], 127⟩) ?_ fun o22 => ?_
              · refine rd 3 [(119, (I o21.2)), (120, (Bo (o21.2 != 0))), (121, (Bo (o21.2 != 0)))] rfl rfl <| bifE (fun hc => ?_) fun hc => ?_
                · rw [hc]
                  exact reg_end rfl
                · rw [hc]
                  exact reg_end rfl
              refine kc rfl rfl (fun hc => ?_) fun hc => ?_
              · rw [hc]
                refine et k_assoc <| kr ⟨[(4, (Bo false))], [], 127⟩ rfl <| et k_ret ?_
                rfl
              · rw [hc]
                refine et k_skip <| kg f3a17 rfl (fun (o24 : Bool) => ⟨[(4, (Bo o24))], [], 127⟩) (rs rfl (p_call rfl rfl rfl rfl rfl (law12_Awake_ok k) (.inl rfl)) fun v23 => bind_end rfl) fun o24 => et k_lret ?_
                rfl
            · rw [hc]
              refine et k_skip <| kg f3a17 rfl (fun (o26 : Bool) => ⟨[(4, (Bo o26))], [], 127⟩) (rs rfl (p_call rfl rfl rfl rfl rfl (law12_Awake_ok k) (.inl rfl)) fun v25 => bind_end rfl) fun o26 => et k_lret ?_
              rfl
        · rw [hc]
          refine et k_skip <| et k_assoc <| kr ⟨[(1, (Sr a1)), (2, (Pt 2)), (9, (V.sl 0 1 (List.map sTerm o11.1))), (109, (Bo (o11.2 == 0)))], [(2, vS 6 (eCase a0))], 127⟩ rfl <| kc rfl rfl (fun hc => ?_) fun hc => ?_
          · rw [hc]
            refine et k_assoc <| kg f3a14 rfl (fun (o27 : Str × Int) => ⟨[(1, (Sr a1)), (15, (Sr o27.1)), (16, (I o27.2))], [], 127⟩) (rd 5 [(111, (Pt 2)), (112, (eBase a0.fBase)), (113, (V.ptr 2 0 4)), (114, (I a0.fType)), (115, (V.sl 0 1 (List.map sTerm o11.1)))] rfl rfl <| rp rfl (p_call rfl rfl rfl rfl rfl (match_Format_ok k a0.fBase a0.fType o11.1) (.inl rfl)) fun v20 => bind_end rfl) fun o27 => et k_assoc <| kg f3a15 rfl (fun (o28 : Bool) => ⟨[(125, (Bo o28))], [], 127⟩) ?_ fun o28 => ?_
            · refine rd 3 [(119, (I o27.2)), (120, (Bo (o27.2 != 0))), (121, (Bo (o27.2 != 0)))] rfl rfl <| bifE (fun hc => ?_) fun hc => ?_
              · rw [hc]
                exact reg_end rfl
              · rw [hc]
                exact reg_end rfl
            refine kc rfl rfl (fun hc => ?_) fun hc => ?_
            · rw [hc]
              refine et k_assoc <| kr ⟨[(4, (Bo false))], [], 127⟩ rfl <| et k_ret ?_
              rfl
            · rw [hc]
              refine et k_skip <| kg f3a17 rfl (fun (o29 : Bool) => ⟨[(4, (Bo o29))], [], 127⟩) (rs rfl (p_call rfl rfl rfl rfl rfl (law12_Awake_ok k) (.inl rfl)) fun v23 => bind_end rfl) fun o29 => et k_lret ?_
              rfl
          · rw [hc]
            refine et k_skip <| kg f3a17 rfl (fun (o30 : Bool) => ⟨[(4, (Bo o30))], [], 127⟩) (rs rfl (p_call rfl rfl rfl rfl rfl (law12_Awake_ok k) (.inl rfl)) fun v25 => bind_end rfl) fun o30 => et k_lret ?_
            rfl
end
end Go.AE
