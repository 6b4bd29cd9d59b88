/- The program, function by function: the evaluator comes to the typed functions. Conditions: none. -/
import Derived.Test.YtgpblbjceghpjaaGreatA3
import Derived.KernelRfl
import Derived.Test.YtgpblbjceghpjaaGreatProg
import Derived.Test.YtgpblbjceghpjaaGreatB1
import Derived.Test.YtgpblbjceghpjaaGreatE1
namespace Go.AE
open Go.Proofs.Tryz Go.Sh
set_option linter.unusedSimpArgs false
set_option linter.unusedVariables false
set_option maxRecDepth 100000
set_option maxHeartbeats 4000000
noncomputable section
theorem ref11_Valid_L1_ok (k : Nat) (a0 : T_api_Base)  (K0 : Int → Option Bool) (Kst : X × St → Option (V × List V)) (hK0 : ∀ (y0 : Int), Kst (X.exit 0, ⟨[(1, (Pt 1)), (3, (I y0)), (45, (Bo false))], [(1, vS 4 (eBase a0))], 232⟩) = (K0 y0).map ref11_Valid_fin) (hret : ∀ s, Kst (X.ret, s) = endK prog 232 [(eBase a0)] [] [.tmp 2] (X.ret, s)) :
    ∀ (m : Nat) (x20 : Int), (iter (exec prog (EV k) f26n k f26b1) m ⟨[(1, (Pt 1)), (3, (I x20))], [(1, vS 4 (eBase a0))], 232⟩).bind Kst = (ref11_Valid_L1 k a0 K0 m x20).map ref11_Valid_fin := by
  intro m
  induction m with
  | zero => intros; rfl
  | succ m ih =>
    intro x20
    unfold ref11_Valid_L1
    refine et k_round <| et k_assoc <| krp f26a4 rfl ⟨[(1, (Pt 1)), (3, (I x20)), (45, (Bo (decide (x20 < (a0.fTypes.length : Int)))))], [(1, vS 4 (eBase a0))], 232⟩ ?_ ?_
    · exact rd 3 [(41, (I x20)), (42, (V.ptr 1 0 2)), (43, (sType a0.fTypes))] rfl rfl <| rl rfl (p_len (e := eType) rfl rfl rfl rfl rfl rfl underlying22) <| bind_end rfl
    refine kc rfl rfl (fun hc => ?_) fun hc => ?_
    · rw [hc]
      refine et k_skip <| et (k_block rfl) <| kg f26a6 rfl (fun (o22 : T_api_Type) => ⟨[(1, (Pt 1)), (3, (I x20)), (4, (Pt 4))], [(1, vS 4 (eBase a0)), (4, vS 8 (eType o22))], 232⟩) (rd 3 [(48, (V.ptr 1 0 2)), (49, (sType a0.fTypes)), (50, (I x20))] rfl rfl <| rs rfl (p_index (e := eType) rfl rfl rfl underlying22 rfl (by decide)) fun v21 => bind_end rfl) fun o22 => et k_assoc <| kga f26a7 rfl (fun (o25 : Bool) => [(78, (Bo o25))]) ?_ fun o25 => ?_
      · refine rd 2 [(53, (Pt 4)), (54, (Sr o22.fName))] rfl rfl <| rp rfl (p_call rfl rfl rfl rfl rfl (ref11_IsName_ok k o22.fName) (.inl rfl)) fun v23 => bd 5 [(55, (Bo v23)), (56, (Bo (!v23))), (57, (Bo (!v23)))] rfl rfl <| bifE (fun hc => ?_) fun hc => ?_
        · rw [hc]
          exact reg_end rfl
        · rw [hc]
          refine rd 10 [(58, (V.ptr 4 0 2)), (59, (I o22.fMin)), (60, (Bo (decide (o22.fMin < 1)))), (61, (Bo (decide (o22.fMin < 1)))), (62, (Bo (decide (o22.fMin < 1))))] rfl rfl <| bifE (fun hc => ?_) fun hc => ?_
          · rw [hc]
            exact reg_end rfl
          · rw [hc]
            refine rd 17 [(63, (V.ptr 4 0 2)), (64, (I o22.fMin)), (65, (V.ptr 4 0 3)), (66, (I o22.fSize)), (67, (Bo (decide (o22.fMin > o22.fSize)))), (68, (Bo (decide (o22.fMin > o22.fSize)))), (69, (Bo (decide (o22.fMin > o22.fSize))))] rfl rfl <| bifE (fun hc => ?_) fun hc => ?_
            · rw [hc]
              exact reg_end rfl
            · rw [hc]
              refine rd 22 [(70, (V.ptr 4 0 3)), (71, (I o22.fSize)), (72, (Bo (decide (o22.fSize > 40)))), (73, (Bo (decide (o22.fSize > 40)))), (74, (Bo (decide (o22.fSize > 40))))] rfl rfl <| bifE (fun hc => ?_) fun hc => ?_
              · rw [hc]
                exact reg_end rfl
              · rw [hc]
                exact rd 23 [(75, (eType o22))] rfl rfl <| rp rfl (p_call rfl rfl rfl rfl rfl (ref11_fields_ok k o22) (.inl rfl)) fun v24 => bind_end rfl
      refine kc rfl rfl (fun hc => ?_) fun hc => ?_
      · rw [hc]
        refine et k_assoc <| kr ⟨[(2, (Bo false))], [], 232⟩ rfl <| et k_ret <| et blk_ret <| et loop_ret <| et (hret _) ?_
        rfl
      · rw [hc]
        refine et k_skip <| et k_assoc <| kr ⟨[(1, (Pt 1)), (3, (I x20)), (4, (Pt 4)), (5, (I 0))], [(1, vS 4 (eBase a0)), (4, vS 8 (eType o22))], 232⟩ rfl <| et (k_block rfl) <| et k_loop ?_
        refine ref11_Valid_L2_ok k a0 x20 o22 _ _ ?h_ref11_Valid_L2_0 ?hr_ref11_Valid_L2 k 0
        · intro y31
          refine et blk_exit <| et k_assoc <| kr ⟨[(1, (Pt 1)), (3, (I x20)), (4, (Pt 4)), (94, (Bo (x20 == 0)))], [(1, vS 4 (eBase a0)), (4, vS 8 (eType o22))], 232⟩ rfl <| kc rfl rfl (fun hc => ?_) fun hc => ?_
          · rw [hc]
            refine et k_assoc <| et k_assoc <| kg f26a15 rfl (fun (o33 : Bool) => ⟨[(1, (Pt 1)), (3, (I x20)), (117, (Bo o33))], [(1, vS 4 (eBase a0))], 232⟩) ?_ fun o33 => ?_
            · refine rd 4 [(95, (V.ptr 4 0 1)), (96, (I o22.fParent)), (97, (Bo (o22.fParent != (-1)))), (98, (Bo (o22.fParent != (-1))))] rfl rfl <| bifE (fun hc => ?_) fun hc => ?_
              · rw [hc]
                exact reg_end rfl
              · rw [hc]
                refine rd 9 [(99, (V.ptr 4 0 5)), (100, (I o22.fKey)), (101, (Bo (decide (o22.fKey < 0)))), (102, (Bo (decide (o22.fKey < 0)))), (103, (Bo (decide (o22.fKey < 0))))] rfl rfl <| bifE (fun hc => ?_) fun hc => ?_
                · rw [hc]
                  exact reg_end rfl
                · rw [hc]
                  refine rd 14 [(104, (V.ptr 4 0 6)), (105, (Bo o22.fUnique)), (106, (Bo (!o22.fUnique))), (107, (Bo (!o22.fUnique))), (108, (Bo (!o22.fUnique)))] rfl rfl <| bifE (fun hc => ?_) fun hc => ?_
                  · rw [hc]
                    exact reg_end rfl
                  · rw [hc]
                    exact rd 18 [(109, (V.ptr 4 0 4)), (110, (sField o22.fFields)), (111, (V.ptr 4 0 5)), (112, (I o22.fKey))] rfl rfl <| rp rfl (p_index (e := eField) rfl rfl rfl underlying39 rfl (by decide)) fun v32 => bind_end rfl
            refine kc rfl rfl (fun hc => ?_) fun hc => ?_
            · rw [hc]
              refine et k_assoc <| kr ⟨[(2, (Bo false))], [], 232⟩ rfl <| et k_ret <| et blk_ret <| et loop_ret <| et (hret _) ?_
              rfl
            · rw [hc]
              exact et k_skip <| et k_exit <| et blk_exit <| kl ⟨[(1, (Pt 1)), (3, (I (Go.IntKind.wrap .i64 (x20 + 1))))], [(1, vS 4 (eBase a0))], 232⟩ rfl <| et loop_normal <| ih (Go.IntKind.wrap .i64 (x20 + 1))
          · rw [hc]
            refine et k_skip <| kg f26a17 rfl (fun (o37 : Bool) => ⟨[(1, (Pt 1)), (3, (I x20)), (149, (Bo o37))], [(1, vS 4 (eBase a0))], 232⟩) ?_ fun o37 => ?_
            · refine rd 4 [(118, (V.ptr 4 0 1)), (119, (I o22.fParent)), (120, (Bo (decide (o22.fParent < 0)))), (121, (Bo (decide (o22.fParent < 0))))] rfl rfl <| bifE (fun hc => ?_) fun hc => ?_
              · rw [hc]
                exact reg_end rfl
              · rw [hc]
                refine rd 10 [(122, (V.ptr 4 0 1)), (123, (I o22.fParent)), (124, (I x20)), (125, (Bo (decide (o22.fParent ≥ x20)))), (126, (Bo (decide (o22.fParent ≥ x20)))), (127, (Bo (decide (o22.fParent ≥ x20))))] rfl rfl <| bifE (fun hc => ?_) fun hc => ?_
                · rw [hc]
                  exact reg_end rfl
                · rw [hc]
                  refine rd 16 [(128, (V.ptr 4 0 1)), (129, (I o22.fParent)), (130, (I x20)), (131, (I (Go.IntKind.wrap .i64 (x20 - 1)))), (132, (Bo (o22.fParent != (Go.IntKind.wrap .i64 (x20 - 1))))), (133, (Bo (o22.fParent != (Go.IntKind.wrap .i64 (x20 - 1)))))] rfl rfl <| bifE (fun hc => ?_) fun hc => ?_
                  · rw [hc]
                    refine rd 21 [(134, (eBase a0)), (135, (V.ptr 4 0 1)), (136, (I o22.fParent)), (137, (I x20)), (138, (I (Go.IntKind.wrap .i64 (x20 - 1))))] rfl rfl <| rp rfl (p_call rfl rfl rfl rfl rfl (ref11_above_ok k a0 o22.fParent (Go.IntKind.wrap .i64 (x20 - 1))) (.inl rfl)) fun v34 => bd 26 [(139, (Bo v34)), (140, (Bo (!v34))), (141, (Bo (!v34))), (142, (Bo (!v34))), (143, (Bo (!v34)))] rfl rfl <| bifE (fun hc => ?_) fun hc => ?_
                    · rw [hc]
                      exact reg_end rfl
                    · rw [hc]
                      exact rd 28 [(144, (eBase a0)), (145, (I x20))] rfl rfl <| rp rfl (p_call rfl rfl rfl rfl rfl (ref11_way_ok k a0 x20) (.inl rfl)) fun v35 => bd 29 [(146, (sI v35))] rfl rfl <| rl rfl (p_len (e := I) rfl rfl rfl rfl rfl rfl underlying107) <| bind_end rfl
                  · rw [hc]
                    exact rd 28 [(134, (V.tup [])), (135, (V.tup [])), (136, (V.tup [])), (137, (V.tup [])), (138, (V.tup [])), (139, (V.tup [])), (140, (V.tup [])), (141, (Bo false)), (142, (Bo false)), (143, (Bo false)), (144, (eBase a0)), (145, (I x20))] rfl rfl <| rp rfl (p_call rfl rfl rfl rfl rfl (ref11_way_ok k a0 x20) (.inl rfl)) fun v36 => bd 29 [(146, (sI v36))] rfl rfl <| rl rfl (p_len (e := I) rfl rfl rfl rfl rfl rfl underlying107) <| bind_end rfl
            refine kcl rfl rfl (fun hc => ?_) fun hc => ?_
            · rw [hc]
              refine kr ⟨[(2, (Bo false))], [], 232⟩ rfl <| et k_lret <| et blk_ret <| et loop_ret <| et (hret _) ?_
              rfl
            · rw [hc]
              exact et k_lskip <| et blk_normal <| kl ⟨[(1, (Pt 1)), (3, (I (Go.IntKind.wrap .i64 (x20 + 1))))], [(1, vS 4 (eBase a0))], 232⟩ rfl <| et loop_normal <| ih (Go.IntKind.wrap .i64 (x20 + 1))
        · intro s; exact hret s
    · rw [hc]
      exact et k_exit <| et loop_exit <| hK0 x20
theorem ref11_Valid_L4_ok (k : Nat) (a0 : T_api_Base) (x52 : Int) (o54 : T_api_Search)  (K0 : Int → Option Bool) (Kst : X × St → Option (V × List V)) (hK0 : ∀ (y0 : Int), Kst (X.exit 6, ⟨[(1, (Pt 1)), (6, (I x52)), (7, (Pt 7)), (8, (I y0)), (220, (Bo false))], [(1, vS 4 (eBase a0)), (7, vS 4 (eSearch o54))], 232⟩) = (K0 y0).map ref11_Valid_fin) (hret : ∀ s, Kst (X.ret, s) = endK prog 232 [(eBase a0)] [] [.tmp 2] (X.ret, s)) :
    ∀ (m : Nat) (x62 : Int), (iter (exec prog (EV k) f26n k f26b2) m ⟨[(1, (Pt 1)), (6, (I x52)), (7, (Pt 7)), (8, (I x62))], [(1, vS 4 (eBase a0)), (7, vS 4 (eSearch o54))], 232⟩).bind Kst = (ref11_Valid_L4 a0 x52 o54 K0 m x62).map ref11_Valid_fin := by
  intro m
  induction m with
  | zero => intros; rfl
  | succ m ih =>
    intro x62
    unfold ref11_Valid_L4
    refine et k_round <| et k_assoc <| kra [(220, (Bo (decide (x62 < x52))))] rfl <| kc rfl rfl (fun hc => ?_) fun hc => ?_
    · rw [hc]
      refine et k_skip <| et (k_block rfl) <| kd f26a28 rfl (fun (o64 : Bool) => ⟨[(1, (Pt 1)), (6, (I x52)), (7, (Pt 7)), (8, (I x62)), (231, (Bo o64))], [(1, vS 4 (eBase a0)), (7, vS 4 (eSearch o54))], 232⟩) (et (regionE_regp (p := 9) (dk := true) (t := [(1, (Pt 1)), (6, (I x52)), (7, (Pt 7)), (8, (I x62)), (220, (Bo true))]) (σ := [(1, vS 4 (eBase a0)), (7, vS 4 (eSearch o54))]) (n := 232) rfl (by decide) (by decide) rfl) <| et (regp_adv (m := 3) (j := 3) (t' := [(1, (Pt 1)), (6, (I x52)), (7, (Pt 7)), (8, (I x62)), (220, (Bo true)), (223, (V.ptr 1 0 3)), (224, (sSearch a0.fIndexes)), (225, (I x62))]) rfl rfl rfl) <| et (regp_pure (x := (idx a0.fIndexes x62)) (w := fun v63 => (Pr (eSearch v63))) rfl rfl rfl rfl rfl (p_index (e := eSearch) rfl rfl rfl underlying23 rfl (by decide))) <| bindE fun v63 => regp_end rfl) fun o64 => kcl rfl rfl (fun hc => ?_) fun hc => ?_
      · rw [hc]
        refine kr ⟨[(2, (Bo false))], [], 232⟩ rfl <| et k_lret <| et blk_ret <| et loop_ret <| et (hret _) ?_
        rfl
      · rw [hc]
        exact et k_lskip <| et blk_normal <| kl ⟨[(1, (Pt 1)), (6, (I x52)), (7, (Pt 7)), (8, (I (Go.IntKind.wrap .i64 (x62 + 1))))], [(1, vS 4 (eBase a0)), (7, vS 4 (eSearch o54))], 232⟩ rfl <| et loop_normal <| ih (Go.IntKind.wrap .i64 (x62 + 1))
    · rw [hc]
      exact et k_exit <| et loop_exit <| hK0 x62
theorem ref11_Valid_L3_ok (k : Nat) (a0 : T_api_Base)  (K0 : Int → Option Bool) (Kst : X × St → Option (V × List V)) (hK0 : ∀ (y0 : Int), Kst (X.exit 4, ⟨[(1, (Pt 1)), (6, (I y0)), (154, (Bo false))], [(1, vS 4 (eBase a0))], 232⟩) = (K0 y0).map ref11_Valid_fin) (hret : ∀ s, Kst (X.ret, s) = endK prog 232 [(eBase a0)] [] [.tmp 2] (X.ret, s)) :
    ∀ (m : Nat) (x52 : Int), (iter (exec prog (EV k) f26n k f26b3) m ⟨[(1, (Pt 1)), (6, (I x52))], [(1, vS 4 (eBase a0))], 232⟩).bind Kst = (ref11_Valid_L3 k a0 K0 m x52).map ref11_Valid_fin := by
  intro m
  induction m with
  | zero => intros; rfl
  | succ m ih =>
    intro x52
    unfold ref11_Valid_L3
    refine et k_round <| et k_assoc <| krp f26a20 rfl ⟨[(1, (Pt 1)), (6, (I x52)), (154, (Bo (decide (x52 < (a0.fIndexes.length : Int)))))], [(1, vS 4 (eBase a0))], 232⟩ ?_ ?_
    · exact rd 3 [(150, (I x52)), (151, (V.ptr 1 0 3)), (152, (sSearch a0.fIndexes))] rfl rfl <| rl rfl (p_len (e := eSearch) rfl rfl rfl rfl rfl rfl underlying23) <| bind_end rfl
    refine kc rfl rfl (fun hc => ?_) fun hc => ?_
    · rw [hc]
      refine et k_skip <| et (k_block rfl) <| kg f26a22 rfl (fun (o54 : T_api_Search) => ⟨[(1, (Pt 1)), (6, (I x52)), (7, (Pt 7))], [(1, vS 4 (eBase a0)), (7, vS 4 (eSearch o54))], 232⟩) (rd 3 [(157, (V.ptr 1 0 3)), (158, (sSearch a0.fIndexes)), (159, (I x52))] rfl rfl <| rs rfl (p_index (e := eSearch) rfl rfl rfl underlying23 rfl (by decide)) fun v53 => bind_end rfl) fun o54 => et k_assoc <| kd f26a23 rfl (fun (o59 : Bool) => ⟨[(1, (Pt 1)), (6, (I x52)), (7, (Pt 7)), (217, (Bo o59))], [(1, vS 4 (eBase a0)), (7, vS 4 (eSearch o54))], 232⟩) ?_ fun o59 => ?_
      · refine et (regionE_regp (p := 56) (dk := true) (t := [(1, (Pt 1)), (6, (I x52)), (7, (Pt 7))]) (σ := [(1, vS 4 (eBase a0)), (7, vS 4 (eSearch o54))]) (n := 232) rfl (by decide) (by decide) rfl) <| et (regp_adv (m := 2) (j := 2) (t' := [(1, (Pt 1)), (6, (I x52)), (7, (Pt 7)), (162, (Pt 7)), (163, (Sr o54.fName))]) rfl rfl rfl) <| et (regp_pure (x := (ref11_IsName k o54.fName)) (w := fun v55 => (Bo v55)) rfl rfl rfl rfl rfl (p_call rfl rfl rfl rfl rfl (ref11_IsName_ok k o54.fName) (.inl rfl))) <| bindE fun v55 => et (putp_adv (m := 2) (j := 5) (t' := [(1, (Pt 1)), (6, (I x52)), (7, (Pt 7)), (162, (Pt 7)), (163, (Sr o54.fName)), (164, (Bo v55)), (165, (Bo (!v55))), (166, (Bo (!v55)))]) rfl rfl rfl) <| bifE (fun hc => ?_) fun hc => ?_
        · rw [hc]
          exact regp_end rfl
        · rw [hc]
          refine et (regp_adv (m := 5) (j := 10) (t' := [(1, (Pt 1)), (6, (I x52)), (7, (Pt 7)), (162, (Pt 7)), (163, (Sr o54.fName)), (164, (Bo v55)), (165, (Bo false)), (166, (Bo false)), (167, (V.ptr 7 0 1)), (168, (I o54.fType)), (169, (Bo (decide (o54.fType < 0)))), (170, (Bo (decide (o54.fType < 0)))), (171, (Bo (decide (o54.fType < 0))))]) rfl rfl rfl) <| bifE (fun hc => ?_) fun hc => ?_
          · rw [hc]
            exact regp_end rfl
          · rw [hc]
            refine et (regp_adv (m := 4) (j := 14) (t' := [(1, (Pt 1)), (6, (I x52)), (7, (Pt 7)), (162, (Pt 7)), (163, (Sr o54.fName)), (164, (Bo v55)), (165, (Bo false)), (166, (Bo false)), (167, (V.ptr 7 0 1)), (168, (I o54.fType)), (169, (Bo false)), (170, (Bo false)), (171, (Bo false)), (172, (V.ptr 7 0 1)), (173, (I o54.fType)), (174, (V.ptr 1 0 2)), (175, (sType a0.fTypes))]) rfl rfl rfl) <| et (regp_pure (x := some ()) (w := fun _ => (I (a0.fTypes.length : Int))) rfl rfl rfl rfl rfl (p_len (e := eType) rfl rfl rfl rfl rfl rfl underlying22)) <| et some_bind <| et (putp_adv (m := 3) (j := 18) (t' := [(1, (Pt 1)), (6, (I x52)), (7, (Pt 7)), (162, (Pt 7)), (163, (Sr o54.fName)), (164, (Bo v55)), (165, (Bo false)), (166, (Bo false)), (167, (V.ptr 7 0 1)), (168, (I o54.fType)), (169, (Bo false)), (170, (Bo false)), (171, (Bo false)), (172, (V.ptr 7 0 1)), (173, (I o54.fType)), (174, (V.ptr 1 0 2)), (175, (sType a0.fTypes)), (176, (I (a0.fTypes.length : Int))), (177, (Bo (decide (o54.fType ≥ (a0.fTypes.length : Int))))), (178, (Bo (decide (o54.fType ≥ (a0.fTypes.length : Int))))), (179, (Bo (decide (o54.fType ≥ (a0.fTypes.length : Int)))))]) rfl rfl rfl) <| bifE (fun hc => ?_) fun hc => ?_
            · rw [hc]
              exact regp_end rfl
            · rw [hc]
              refine et (regp_adv (m := 5) (j := 23) (t' := [(1, (Pt 1)), (6, (I x52)), (7, (Pt 7)), (162, (Pt 7)), (163, (Sr o54.fName)), (164, (Bo v55)), (165, (Bo false)), (166, (Bo false)), (167, (V.ptr 7 0 1)), (168, (I o54.fType)), (169, (Bo false)), (170, (Bo false)), (171, (Bo false)), (172, (V.ptr 7 0 1)), (173, (I o54.fType)), (174, (V.ptr 1 0 2)), (175, (sType a0.fTypes)), (176, (I (a0.fTypes.length : Int))), (177, (Bo false)), (178, (Bo false)), (179, (Bo false)), (180, (V.ptr 7 0 2)), (181, (I o54.fField)), (182, (Bo (decide (o54.fField < 0)))), (183, (Bo (decide (o54.fField < 0)))), (184, (Bo (decide (o54.fField < 0))))]) rfl rfl rfl) <| bifE (fun hc => ?_) fun hc => ?_
              · rw [hc]
                exact regp_end rfl
              · rw [hc]
                refine et (regp_adv (m := 6) (j := 29) (t' := [(1, (Pt 1)), (6, (I x52)), (7, (Pt 7)), (162, (Pt 7)), (163, (Sr o54.fName)), (164, (Bo v55)), (165, (Bo false)), (166, (Bo false)), (167, (V.ptr 7 0 1)), (168, (I o54.fType)), (169, (Bo false)), (170, (Bo false)), (171, (Bo false)), (172, (V.ptr 7 0 1)), (173, (I o54.fType)), (174, (V.ptr 1 0 2)), (175, (sType a0.fTypes)), (176, (I (a0.fTypes.length : Int))), (177, (Bo false)), (178, (Bo false)), (179, (Bo false)), (180, (V.ptr 7 0 2)), (181, (I o54.fField)), (182, (Bo false)), (183, (Bo false)), (184, (Bo false)), (185, (V.ptr 7 0 2)), (186, (I o54.fField)), (187, (V.ptr 1 0 2)), (188, (sType a0.fTypes)), (189, (V.ptr 7 0 1)), (190, (I o54.fType))]) rfl rfl rfl) <| et (regp_pure (x := (idx a0.fTypes o54.fType)) (w := fun v56 => (Pr (eType v56))) rfl rfl rfl rfl rfl (p_index (e := eType) rfl rfl rfl underlying22 rfl (by decide))) <| bindE fun v56 => et (putp_adv (m := 2) (j := 32) (t' := [(1, (Pt 1)), (6, (I x52)), (7, (Pt 7)), (162, (Pt 7)), (163, (Sr o54.fName)), (164, (Bo v55)), (165, (Bo false)), (166, (Bo false)), (167, (V.ptr 7 0 1)), (168, (I o54.fType)), (169, (Bo false)), (170, (Bo false)), (171, (Bo false)), (172, (V.ptr 7 0 1)), (173, (I o54.fType)), (174, (V.ptr 1 0 2)), (175, (sType a0.fTypes)), (176, (I (a0.fTypes.length : Int))), (177, (Bo false)), (178, (Bo false)), (179, (Bo false)), (180, (V.ptr 7 0 2)), (181, (I o54.fField)), (182, (Bo false)), (183, (Bo false)), (184, (Bo false)), (185, (V.ptr 7 0 2)), (186, (I o54.fField)), (187, (V.ptr 1 0 2)), (188, (sType a0.fTypes)), (189, (V.ptr 7 0 1)), (190, (I o54.fType)), (191, (Pr (eType v56))), (192, (Pr (sField v56.fFields))), (193, (sField v56.fFields))]) rfl rfl rfl) <| et (regp_pure (x := some ()) (w := fun _ => (I (v56.fFields.length : Int))) rfl rfl rfl rfl rfl (p_len (e := eField) rfl rfl rfl rfl rfl rfl underlying39)) <| et some_bind <| et (putp_adv (m := 3) (j := 36) (t' := [(1, (Pt 1)), (6, (I x52)), (7, (Pt 7)), (162, (Pt 7)), (163, (Sr o54.fName)), (164, (Bo v55)), (165, (Bo false)), (166, (Bo false)), (167, (V.ptr 7 0 1)), (168, (I o54.fType)), (169, (Bo false)), (170, (Bo false)), (171, (Bo false)), (172, (V.ptr 7 0 1)), (173, (I o54.fType)), (174, (V.ptr 1 0 2)), (175, (sType a0.fTypes)), (176, (I (a0.fTypes.length : Int))), (177, (Bo false)), (178, (Bo false)), (179, (Bo false)), (180, (V.ptr 7 0 2)), (181, (I o54.fField)), (182, (Bo false)), (183, (Bo false)), (184, (Bo false)), (185, (V.ptr 7 0 2)), (186, (I o54.fField)), (187, (V.ptr 1 0 2)), (188, (sType a0.fTypes)), (189, (V.ptr 7 0 1)), (190, (I o54.fType)), (191, (Pr (eType v56))), (192, (Pr (sField v56.fFields))), (193, (sField v56.fFields)), (194, (I (v56.fFields.length : Int))), (195, (Bo (decide (o54.fField ≥ (v56.fFields.length : Int))))), (196, (Bo (decide (o54.fField ≥ (v56.fFields.length : Int))))), (197, (Bo (decide (o54.fField ≥ (v56.fFields.length : Int)))))]) rfl rfl rfl) <| bifE (fun hc => ?_) fun hc => ?_
                · rw [hc]
                  exact regp_end rfl
                · rw [hc]
                  refine et (regp_adv (m := 4) (j := 40) (t' := [(1, (Pt 1)), (6, (I x52)), (7, (Pt 7)), (162, (Pt 7)), (163, (Sr o54.fName)), (164, (Bo v55)), (165, (Bo false)), (166, (Bo false)), (167, (V.ptr 7 0 1)), (168, (I o54.fType)), (169, (Bo false)), (170, (Bo false)), (171, (Bo false)), (172, (V.ptr 7 0 1)), (173, (I o54.fType)), (174, (V.ptr 1 0 2)), (175, (sType a0.fTypes)), (176, (I (a0.fTypes.length : Int))), (177, (Bo false)), (178, (Bo false)), (179, (Bo false)), (180, (V.ptr 7 0 2)), (181, (I o54.fField)), (182, (Bo false)), (183, (Bo false)), (184, (Bo false)), (185, (V.ptr 7 0 2)), (186, (I o54.fField)), (187, (V.ptr 1 0 2)), (188, (sType a0.fTypes)), (189, (V.ptr 7 0 1)), (190, (I o54.fType)), (191, (Pr (eType v56))), (192, (Pr (sField v56.fFields))), (193, (sField v56.fFields)), (194, (I (v56.fFields.length : Int))), (195, (Bo false)), (196, (Bo false)), (197, (Bo false)), (198, (V.ptr 1 0 2)), (199, (sType a0.fTypes)), (200, (V.ptr 7 0 1)), (201, (I o54.fType))]) rfl rfl rfl) <| et (regp_pure (x := (idx a0.fTypes o54.fType)) (w := fun v57 => (Pr (eType v57))) rfl rfl rfl rfl rfl (p_index (e := eType) rfl rfl rfl underlying22 rfl (by decide))) <| bindE fun v57 => et (putp_adv (m := 4) (j := 45) (t' := [(1, (Pt 1)), (6, (I x52)), (7, (Pt 7)), (162, (Pt 7)), (163, (Sr o54.fName)), (164, (Bo v55)), (165, (Bo false)), (166, (Bo false)), (167, (V.ptr 7 0 1)), (168, (I o54.fType)), (169, (Bo false)), (170, (Bo false)), (171, (Bo false)), (172, (V.ptr 7 0 1)), (173, (I o54.fType)), (174, (V.ptr 1 0 2)), (175, (sType a0.fTypes)), (176, (I (a0.fTypes.length : Int))), (177, (Bo false)), (178, (Bo false)), (179, (Bo false)), (180, (V.ptr 7 0 2)), (181, (I o54.fField)), (182, (Bo false)), (183, (Bo false)), (184, (Bo false)), (185, (V.ptr 7 0 2)), (186, (I o54.fField)), (187, (V.ptr 1 0 2)), (188, (sType a0.fTypes)), (189, (V.ptr 7 0 1)), (190, (I o54.fType)), (191, (Pr (eType v56))), (192, (Pr (sField v56.fFields))), (193, (sField v56.fFields)), (194, (I (v56.fFields.length : Int))), (195, (Bo false)), (196, (Bo false)), (197, (Bo false)), (198, (V.ptr 1 0 2)), (199, (sType a0.fTypes)), (200, (V.ptr 7 0 1)), (201, (I o54.fType)), (202, (Pr (eType v57))), (203, (Pr (sField v57.fFields))), (204, (sField v57.fFields)), (205, (V.ptr 7 0 2)), (206, (I o54.fField))]) rfl rfl rfl) <| et (regp_pure (x := (idx v57.fFields o54.fField)) (w := fun v58 => (Pr (eField v58))) rfl rfl rfl rfl rfl (p_index (e := eField) rfl rfl rfl underlying39 rfl (by decide))) <| bindE fun v58 => et (putp_adv (m := 5) (j := 51) (t' := [(1, (Pt 1)), (6, (I x52)), (7, (Pt 7)), (162, (Pt 7)), (163, (Sr o54.fName)), (164, (Bo v55)), (165, (Bo false)), (166, (Bo false)), (167, (V.ptr 7 0 1)), (168, (I o54.fType)), (169, (Bo false)), (170, (Bo false)), (171, (Bo false)), (172, (V.ptr 7 0 1)), (173, (I o54.fType)), (174, (V.ptr 1 0 2)), (175, (sType a0.fTypes)), (176, (I (a0.fTypes.length : Int))), (177, (Bo false)), (178, (Bo false)), (179, (Bo false)), (180, (V.ptr 7 0 2)), (181, (I o54.fField)), (182, (Bo false)), (183, (Bo false)), (184, (Bo false)), (185, (V.ptr 7 0 2)), (186, (I o54.fField)), (187, (V.ptr 1 0 2)), (188, (sType a0.fTypes)), (189, (V.ptr 7 0 1)), (190, (I o54.fType)), (191, (Pr (eType v56))), (192, (Pr (sField v56.fFields))), (193, (sField v56.fFields)), (194, (I (v56.fFields.length : Int))), (195, (Bo false)), (196, (Bo false)), (197, (Bo false)), (198, (V.ptr 1 0 2)), (199, (sType a0.fTypes)), (200, (V.ptr 7 0 1)), (201, (I o54.fType)), (202, (Pr (eType v57))), (203, (Pr (sField v57.fFields))), (204, (sField v57.fFields)), (205, (V.ptr 7 0 2)), (206, (I o54.fField)), (207, (Pr (eField v58))), (208, (Pr (I v58.fBytes))), (209, (I v58.fBytes)), (210, (Bo (decide (v58.fBytes > 20)))), (211, (Bo (decide (v58.fBytes > 20)))), (212, (Bo (decide (v58.fBytes > 20))))]) rfl rfl rfl) <| bifE (fun hc => ?_) fun hc => ?_
                  · rw [hc]
                    exact regp_end rfl
                  · rw [hc]
                    exact regp_end rfl
      refine kc rfl rfl (fun hc => ?_) fun hc => ?_
      · rw [hc]
        refine et k_assoc <| kr ⟨[(2, (Bo false))], [], 232⟩ rfl <| et k_ret <| et blk_ret <| et loop_ret <| et (hret _) ?_
        rfl
      · rw [hc]
        refine et k_skip <| kr ⟨[(1, (Pt 1)), (6, (I x52)), (7, (Pt 7)), (8, (I 0))], [(1, vS 4 (eBase a0)), (7, vS 4 (eSearch o54))], 232⟩ rfl <| et (k_lblock rfl) <| et k_loop ?_
        refine ref11_Valid_L4_ok k a0 x52 o54 _ _ ?h_ref11_Valid_L4_0 ?hr_ref11_Valid_L4 k 0
        · intro y65
          exact et blk_exit <| et k_lskip <| et blk_normal <| kl ⟨[(1, (Pt 1)), (6, (I (Go.IntKind.wrap .i64 (x52 + 1))))], [(1, vS 4 (eBase a0))], 232⟩ rfl <| et loop_normal <| ih (Go.IntKind.wrap .i64 (x52 + 1))
        · intro s; exact hret s
    · rw [hc]
      exact et k_exit <| et loop_exit <| hK0 x52
theorem ref11_Valid_ok (k : Nat) (a0 : T_api_Base) : EV k 26 [(eBase a0)] = (ref11_Valid k a0).map ref11_Valid_fin := by
  cases k with
  | zero => rfl
  | succ k =>
    unfold ref11_Valid
    refine et (evF_succ (c := f26c) (N := 232) (regs := f26n) rfl func26 rfl (by decide) rfl rfl rfl) <| kr ⟨[(1, (Pt 1))], [(1, vS 4 (eBase a0))], 232⟩ rfl <| et k_assoc <| kga f26a1 rfl (fun (o2 : Bool) => [(40, (Bo o2))]) ?_ fun o2 => ?_
    · refine rd 2 [(9, (Pt 1)), (10, (Sr a0.fName))] rfl rfl <| rp rfl (p_call rfl rfl rfl rfl rfl (ref11_IsName_ok k a0.fName) (.inl rfl)) fun v1 => bd 5 [(11, (Bo v1)), (12, (Bo (!v1))), (13, (Bo (!v1)))] rfl rfl <| bifE (fun hc => ?_) fun hc => ?_
      · rw [hc]
        exact reg_end rfl
      · rw [hc]
        refine rd 10 [(14, (V.ptr 1 0 1)), (15, (I a0.fKind)), (16, (Bo (decide (a0.fKind < 1)))), (17, (Bo (decide (a0.fKind < 1)))), (18, (Bo (decide (a0.fKind < 1))))] rfl rfl <| bifE (fun hc => ?_) fun hc => ?_
        · rw [hc]
          exact reg_end rfl
        · rw [hc]
          refine rd 15 [(19, (V.ptr 1 0 1)), (20, (I a0.fKind)), (21, (Bo (decide (a0.fKind > 4)))), (22, (Bo (decide (a0.fKind > 4)))), (23, (Bo (decide (a0.fKind > 4))))] rfl rfl <| bifE (fun hc => ?_) fun hc => ?_
          · rw [hc]
            exact reg_end rfl
          · rw [hc]
            refine rd 17 [(24, (V.ptr 1 0 2)), (25, (sType a0.fTypes))] rfl rfl <| rl rfl (p_len (e := eType) rfl rfl rfl rfl rfl rfl underlying22) <| bd 21 [(26, (I (a0.fTypes.length : Int))), (27, (Bo (decide ((a0.fTypes.length : Int) < 1)))), (28, (Bo (decide ((a0.fTypes.length : Int) < 1)))), (29, (Bo (decide ((a0.fTypes.length : Int) < 1))))] rfl rfl <| bifE (fun hc => ?_) fun hc => ?_
            · rw [hc]
              exact reg_end rfl
            · rw [hc]
              refine rd 23 [(30, (V.ptr 1 0 2)), (31, (sType a0.fTypes))] rfl rfl <| rl rfl (p_len (e := eType) rfl rfl rfl rfl rfl rfl underlying22) <| bd 27 [(32, (I (a0.fTypes.length : Int))), (33, (Bo (decide ((a0.fTypes.length : Int) > 8)))), (34, (Bo (decide ((a0.fTypes.length : Int) > 8)))), (35, (Bo (decide ((a0.fTypes.length : Int) > 8))))] rfl rfl <| bifE (fun hc => ?_) fun hc => ?_
              · rw [hc]
                exact reg_end rfl
              · rw [hc]
                exact rd 29 [(36, (V.ptr 1 0 3)), (37, (sSearch a0.fIndexes))] rfl rfl <| rl rfl (p_len (e := eSearch) rfl rfl rfl rfl rfl rfl underlying23) <| bind_end rfl
    refine kc rfl rfl (fun hc => ?_) fun hc => ?_
    · rw [hc]
      refine et k_assoc <| kr ⟨[(2, (Bo false))], [], 232⟩ rfl <| et k_ret ?_
      rfl
    · rw [hc]
      refine et k_skip <| et k_assoc <| kr ⟨[(1, (Pt 1)), (3, (I 0))], [(1, vS 4 (eBase a0))], 232⟩ rfl <| et (k_block rfl) <| et k_loop ?_
      refine ref11_Valid_L1_ok k a0 _ _ ?h_ref11_Valid_L1_0 ?hr_ref11_Valid_L1 k 0
      · intro y38
        refine et blk_exit <| et k_assoc <| kr ⟨[(1, (Pt 1)), (6, (I 0))], [(1, vS 4 (eBase a0))], 232⟩ rfl <| et (k_block rfl) <| et k_loop ?_
        refine ref11_Valid_L3_ok k a0 _ _ ?h_ref11_Valid_L3_0 ?hr_ref11_Valid_L3 k 0
        · intro y66
          refine et blk_exit <| kr ⟨[(2, (Bo true))], [], 232⟩ rfl <| et k_lret ?_
          rfl
        · intro s; exact rfl
      · intro s; exact rfl
def ref12_isType_fin : Int → V × List V := fun r => ((I r), [])
theorem ref12_isType_ok (k : Nat) (a0 : T_api_Base) (a1 : Int) : EV k 14 [(eBase a0), (I a1)] = (ref12_isType k a0 a1).map ref12_isType_fin := by
  cases k with
  | zero => rfl
  | succ k =>
    unfold ref12_isType
    refine et (evF_succ (c := f14c) (N := 19) (regs := f14n) rfl func14 rfl (by decide) rfl rfl rfl) <| kr ⟨[(1, (I a1)), (2, (Pt 2))], [(2, vS 4 (eBase a0))], 19⟩ rfl <| et (k_block rfl) <| kga f14a1 rfl (fun (o2 : Bool) => [(5, (Bo o2))]) (rd 1 [(6, (eBase a0))] rfl rfl <| rp rfl (p_call rfl rfl rfl rfl rfl (ref11_Valid_ok k a0) (.inl rfl)) fun v1 => bind_end rfl) fun o2 => kcl rfl rfl (fun hc => ?_) fun hc => ?_
    · rw [hc]
      refine kr ⟨[(4, (I 100))], [], 19⟩ rfl <| et k_lret <| et blk_ret ?_
      rfl
    · rw [hc]
      refine kg f14a3 rfl (fun (o3 : Bool) => ⟨[(9, (Bo o3))], [], 19⟩) ?_ fun o3 => ?_
      · refine rd 3 [(10, (I a1)), (11, (Bo (decide (a1 < 0)))), (12, (Bo (decide (a1 < 0))))] rfl rfl <| bifE (fun hc => ?_) fun hc => ?_
        · rw [hc]
          exact reg_end rfl
        · rw [hc]
          exact rd 6 [(13, (I a1)), (14, (V.ptr 2 0 2)), (15, (sType a0.fTypes))] rfl rfl <| rl rfl (p_len (e := eType) rfl rfl rfl rfl rfl rfl underlying22) <| bind_end rfl
      refine kcl rfl rfl (fun hc => ?_) fun hc => ?_
      · rw [hc]
        refine kr ⟨[(4, (I 2))], [], 19⟩ rfl <| et k_lret <| et blk_ret ?_
        rfl
      · rw [hc]
        refine et k_lskip <| et blk_normal <| kr ⟨[(4, (I 0))], [], 19⟩ rfl <| et k_lret ?_
        rfl
def ref11_isType_fin : Bool → V × List V := fun r => ((Bo r), [])
theorem ref11_isType_ok (k : Nat) (a0 : T_api_Base) (a1 : Int) : EV k 58 [(eBase a0), (I a1)] = (ref11_isType k a0 a1).map ref11_isType_fin := by
  cases k with
  | zero => rfl
  | succ k =>
    unfold ref11_isType
    refine et (evF_succ (c := f58c) (N := 14) (regs := f58n) rfl func58 rfl (by decide) rfl rfl rfl) <| kr ⟨[(1, (I a1)), (2, (Pt 2))], [(2, vS 4 (eBase a0))], 14⟩ rfl <| kg f58a1 rfl (fun (o1 : Bool) => ⟨[(4, (Bo o1))], [], 14⟩) ?_ fun o1 => ?_
    · refine rd 3 [(5, (I a1)), (6, (Bo (decide (a1 ≥ 0)))), (7, (Bo (decide (a1 ≥ 0))))] rfl rfl <| bifE (fun hc => ?_) fun hc => ?_
      · rw [hc]
        exact rd 6 [(8, (I a1)), (9, (V.ptr 2 0 2)), (10, (sType a0.fTypes))] rfl rfl <| rl rfl (p_len (e := eType) rfl rfl rfl rfl rfl rfl underlying22) <| bind_end rfl
      · rw [hc]
        exact reg_end rfl
    refine et k_lret ?_
    rfl
def ref11_asked_fin : Int → V × List V := fun r => ((I r), [])
theorem ref11_asked_L1_ok (k : Nat) (a0 : T_api_Base) (a1 : (List Int))  (K0 : Int → Option Int) (Kst : X × St → Option (V × List V)) (hK0 : ∀ (y0 : Int), Kst (X.exit 0, ⟨[(1, (sI a1)), (2, (Pt 2)), (5, (I y0)), (12, (Bo false))], [(2, vS 4 (eBase a0))], 22⟩) = (K0 y0).map ref11_asked_fin) (hret : ∀ s, Kst (X.ret, s) = endK prog 22 [(eBase a0), (sI a1)] [] [.tmp 4] (X.ret, s)) :
    ∀ (m : Nat) (x6 : Int), (iter (exec prog (EV k) f27n k f27b0) m ⟨[(1, (sI a1)), (2, (Pt 2)), (5, (I x6))], [(2, vS 4 (eBase a0))], 22⟩).bind Kst = (ref11_asked_L1 k a0 a1 K0 m x6).map ref11_asked_fin := by
  intro m
  induction m with
  | zero => intros; rfl
  | succ m ih =>
    intro x6
    unfold ref11_asked_L1
    refine et k_round <| et k_assoc <| krp f27a4 rfl ⟨[(1, (sI a1)), (2, (Pt 2)), (5, (I x6)), (12, (Bo (decide (x6 < (a1.length : Int)))))], [(2, vS 4 (eBase a0))], 22⟩ ?_ ?_
    · exact rd 2 [(9, (I x6)), (10, (sI a1))] rfl rfl <| rl rfl (p_len (e := I) rfl rfl rfl rfl rfl rfl underlying107) <| bind_end rfl
    refine kc rfl rfl (fun hc => ?_) fun hc => ?_
    · rw [hc]
      refine et k_skip <| et (k_block rfl) <| kd f27a6 rfl (fun (o9 : Bool) => ⟨[(1, (sI a1)), (2, (Pt 2)), (5, (I x6)), (21, (Bo o9))], [(2, vS 4 (eBase a0))], 22⟩) (et (regionE_regp (p := 7) (dk := true) (t := [(1, (sI a1)), (2, (Pt 2)), (5, (I x6)), (12, (Bo true))]) (σ := [(2, vS 4 (eBase a0))]) (n := 22) rfl (by decide) (by decide) rfl) <| et (regp_adv (m := 3) (j := 3) (t' := [(1, (sI a1)), (2, (Pt 2)), (5, (I x6)), (12, (Bo true)), (15, (eBase a0)), (16, (sI a1)), (17, (I x6))]) rfl rfl rfl) <| et (regp_pure (x := (idx a1 x6)) (w := fun v7 => (Pr (I v7))) rfl rfl rfl rfl rfl (p_index (e := I) rfl rfl rfl underlying107 rfl (by decide))) <| bindE fun v7 => et (putp_adv (m := 1) (j := 5) (t' := [(1, (sI a1)), (2, (Pt 2)), (5, (I x6)), (12, (Bo true)), (15, (eBase a0)), (16, (sI a1)), (17, (I x6)), (18, (Pr (I v7))), (19, (I v7))]) rfl rfl rfl) <| et (regp_pure (x := (ref11_isType k a0 v7)) (w := fun v8 => (Bo v8)) rfl rfl rfl rfl rfl (p_call rfl rfl rfl rfl rfl (ref11_isType_ok k a0 v7) (.inl rfl))) <| bindE fun v8 => regp_end rfl) fun o9 => kcl rfl rfl (fun hc => ?_) fun hc => ?_
      · rw [hc]
        refine kr ⟨[(4, (I 2))], [], 22⟩ rfl <| et k_lret <| et blk_ret <| et loop_ret <| et (hret _) ?_
        rfl
      · rw [hc]
        exact et k_lskip <| et blk_normal <| kl ⟨[(1, (sI a1)), (2, (Pt 2)), (5, (I (Go.IntKind.wrap .i64 (x6 + 1))))], [(2, vS 4 (eBase a0))], 22⟩ rfl <| et loop_normal <| ih (Go.IntKind.wrap .i64 (x6 + 1))
    · rw [hc]
      exact et k_exit <| et loop_exit <| hK0 x6
theorem ref11_asked_ok (k : Nat) (a0 : T_api_Base) (a1 : (List Int)) : EV k 27 [(eBase a0), (sI a1)] = (ref11_asked k a0 a1).map ref11_asked_fin := by
  cases k with
  | zero => rfl
  | succ k =>
    unfold ref11_asked
    refine et (evF_succ (c := f27c) (N := 22) (regs := f27n) rfl func27 rfl (by decide) rfl rfl rfl) <| kr ⟨[(1, (sI a1)), (2, (Pt 2))], [(2, vS 4 (eBase a0))], 22⟩ rfl <| et k_assoc <| kga f27a1 rfl (fun (o2 : Bool) => [(8, (Bo o2))]) (rd 1 [(6, (eBase a0))] rfl rfl <| rp rfl (p_call rfl rfl rfl rfl rfl (ref11_Valid_ok k a0) (.inl rfl)) fun v1 => bind_end rfl) fun o2 => kc rfl rfl (fun hc => ?_) fun hc => ?_
    · rw [hc]
      refine et k_assoc <| kr ⟨[(4, (I 100))], [], 22⟩ rfl <| et k_ret ?_
      rfl
    · rw [hc]
      refine et k_skip <| et k_assoc <| kr ⟨[(1, (sI a1)), (2, (Pt 2)), (5, (I 0))], [(2, vS 4 (eBase a0))], 22⟩ rfl <| et (k_block rfl) <| et k_loop ?_
      refine ref11_asked_L1_ok k a0 a1 _ _ ?h_ref11_asked_L1_0 ?hr_ref11_asked_L1 k 0
      · intro y10
        refine et blk_exit <| kr ⟨[(4, (I 0))], [], 22⟩ rfl <| et k_lret ?_
        rfl
      · intro s; exact rfl
def ref11_Fits_fin : (Bool × Int) → V × List V := fun r => (.tup [(Bo r.1), (I r.2)], [])
theorem ref11_Fits_ok (k : Nat) (a0 : T_api_Base) (a1 : Int) (a2 : Str) : EV k 15 [(eBase a0), (I a1), (Sr a2)] = (ref11_Fits k a0 a1 a2).map ref11_Fits_fin := by
  cases k with
  | zero => rfl
  | succ k =>
    unfold ref11_Fits
    refine et (evF_succ (c := f15c) (N := 36) (regs := f15n) rfl func15 rfl (by decide) rfl rfl rfl) <| kr ⟨[(1, (I a1)), (2, (Sr a2)), (3, (Pt 3))], [(3, vS 4 (eBase a0))], 36⟩ rfl <| et k_assoc <| kga f15a1 rfl (fun (o2 : Int) => [(8, (I o2))]) (rd 3 [(9, (eBase a0)), (10, (I a1)), (11, (sI (([a1] : List Int))))] rfl rfl <| rs rfl (p_call rfl rfl rfl rfl rfl (ref11_asked_ok k a0 ([a1] : List Int)) (.inl rfl)) fun v1 => bind_end rfl) fun o2 => et k_assoc <| kra [(14, (Bo (o2 != 0)))] rfl <| kc rfl rfl (fun hc => ?_) fun hc => ?_
    · rw [hc]
      refine et k_assoc <| kr ⟨[(6, (Bo false)), (7, (I o2))], [], 36⟩ rfl <| et k_ret ?_
      rfl
    · rw [hc]
      refine et k_skip <| kg f15a4 rfl (fun (o5 : Bool × Int) => ⟨[(6, (Bo o5.1)), (7, (I o5.2))], [], 36⟩) ?_ fun o5 => ?_
      · refine rd 5 [(16, (Sr a2)), (17, (I (a2.length : Int))), (18, (V.ptr 3 0 2)), (19, (sType a0.fTypes)), (20, (I a1))] rfl rfl <| rp rfl (p_index (e := eType) rfl rfl rfl underlying22 rfl (by decide)) fun v3 => bd 10 [(21, (Pr (eType v3))), (22, (Pr (I v3.fMin))), (23, (I v3.fMin)), (24, (Bo (decide ((a2.length : Int) ≥ v3.fMin)))), (25, (Bo (decide ((a2.length : Int) ≥ v3.fMin))))] rfl rfl <| bifE (fun hc => ?_) fun hc => ?_
        · rw [hc]
          exact rd 15 [(26, (Sr a2)), (27, (I (a2.length : Int))), (28, (V.ptr 3 0 2)), (29, (sType a0.fTypes)), (30, (I a1))] rfl rfl <| rp rfl (p_index (e := eType) rfl rfl rfl underlying22 rfl (by decide)) fun v4 => bind_end rfl
        · rw [hc]
          exact reg_end rfl
      refine et k_lret ?_
      rfl
def ref11_Field_fin : (Int × Int) → V × List V := fun r => (.tup [(I r.1), (I r.2)], [])
theorem ref11_Field_L1_ok (k : Nat) (a0 : T_api_Base) (a1 : Int) (a2 : Str)  (K0 : Int → Option (Int × Int)) (Kst : X × St → Option (V × List V)) (hK0 : ∀ (y0 : Int), Kst (X.exit 0, ⟨[(1, (I a1)), (2, (Sr a2)), (3, (Pt 3)), (9, (I y0)), (25, (Bo false))], [(3, vS 4 (eBase a0))], 41⟩) = (K0 y0).map ref11_Field_fin) (hret : ∀ s, Kst (X.ret, s) = endK prog 41 [(eBase a0), (I a1), (Sr a2)] [] [.tmp 6, .tmp 7] (X.ret, s)) :
    ∀ (m : Nat) (x8 : Int), (iter (exec prog (EV k) f29n k f29b0) m ⟨[(1, (I a1)), (2, (Sr a2)), (3, (Pt 3)), (9, (I x8))], [(3, vS 4 (eBase a0))], 41⟩).bind Kst = (ref11_Field_L1 a0 a1 a2 K0 m x8).map ref11_Field_fin := by
  intro m
  induction m with
  | zero => intros; rfl
  | succ m ih =>
    intro x8
    unfold ref11_Field_L1
    refine et k_round <| et k_assoc <| kga f29a5 rfl (fun (o10 : Bool) => [(25, (Bo o10))]) (rd 4 [(17, (I x8)), (18, (V.ptr 3 0 2)), (19, (sType a0.fTypes)), (20, (I a1))] rfl rfl <| rp rfl (p_index (e := eType) rfl rfl rfl underlying22 rfl (by decide)) fun v9 => bd 7 [(21, (Pr (eType v9))), (22, (Pr (sField v9.fFields))), (23, (sField v9.fFields))] rfl rfl <| rl rfl (p_len (e := eField) rfl rfl rfl rfl rfl rfl underlying39) <| bind_end rfl) fun o10 => kc rfl rfl (fun hc => ?_) fun hc => ?_
    · rw [hc]
      refine et k_skip <| et (k_block rfl) <| kg f29a7 rfl (fun (o13 : Bool) => ⟨[(1, (I a1)), (2, (Sr a2)), (3, (Pt 3)), (9, (I x8)), (39, (Bo o13))], [(3, vS 4 (eBase a0))], 41⟩) (rd 3 [(28, (V.ptr 3 0 2)), (29, (sType a0.fTypes)), (30, (I a1))] rfl rfl <| rp rfl (p_index (e := eType) rfl rfl rfl underlying22 rfl (by decide)) fun v11 => bd 7 [(31, (Pr (eType v11))), (32, (Pr (sField v11.fFields))), (33, (sField v11.fFields)), (34, (I x8))] rfl rfl <| rp rfl (p_index (e := eField) rfl rfl rfl underlying39 rfl (by decide)) fun v12 => bind_end rfl) fun o13 => kcl rfl rfl (fun hc => ?_) fun hc => ?_
      · rw [hc]
        refine kr ⟨[(6, (I x8)), (7, (I 0))], [], 41⟩ rfl <| et k_lret <| et blk_ret <| et loop_ret <| et (hret _) ?_
        rfl
      · rw [hc]
        exact et k_lskip <| et blk_normal <| kl ⟨[(1, (I a1)), (2, (Sr a2)), (3, (Pt 3)), (9, (I (Go.IntKind.wrap .i64 (x8 + 1))))], [(3, vS 4 (eBase a0))], 41⟩ rfl <| et loop_normal <| ih (Go.IntKind.wrap .i64 (x8 + 1))
    · rw [hc]
      exact et k_exit <| et loop_exit <| hK0 x8
theorem ref11_Field_ok (k : Nat) (a0 : T_api_Base) (a1 : Int) (a2 : Str) : EV k 29 [(eBase a0), (I a1), (Sr a2)] = (ref11_Field k a0 a1 a2).map ref11_Field_fin := by
  cases k with
  | zero => rfl
  | succ k =>
    unfold ref11_Field
    refine et (evF_succ (c := f29c) (N := 41) (regs := f29n) rfl func29 rfl (by decide) rfl rfl rfl) <| kr ⟨[(1, (I a1)), (2, (Sr a2)), (3, (Pt 3))], [(3, vS 4 (eBase a0))], 41⟩ rfl <| et k_assoc <| kga f29a1 rfl (fun (o2 : Int) => [(8, (I o2))]) (rd 3 [(10, (eBase a0)), (11, (I a1)), (12, (sI (([a1] : List Int))))] rfl rfl <| rs rfl (p_call rfl rfl rfl rfl rfl (ref11_asked_ok k a0 ([a1] : List Int)) (.inl rfl)) fun v1 => bind_end rfl) fun o2 => et k_assoc <| kra [(15, (Bo (o2 != 0)))] rfl <| kc rfl rfl (fun hc => ?_) fun hc => ?_
    · rw [hc]
      refine et k_assoc <| kr ⟨[(6, (I 0)), (7, (I o2))], [], 41⟩ rfl <| et k_ret ?_
      rfl
    · rw [hc]
      refine et k_skip <| et k_assoc <| kr ⟨[(1, (I a1)), (2, (Sr a2)), (3, (Pt 3)), (9, (I 0))], [(3, vS 4 (eBase a0))], 41⟩ rfl <| et (k_block rfl) <| et k_loop ?_
      refine ref11_Field_L1_ok k a0 a1 a2 _ _ ?h_ref11_Field_L1_0 ?hr_ref11_Field_L1 k 0
      · intro y14
        refine et blk_exit <| kr ⟨[(6, (I 0)), (7, (I 5))], [], 41⟩ rfl <| et k_lret ?_
        rfl
      · intro s; exact rfl
def ref12_isTerm_fin : Bool → V × List V := fun r => ((Bo r), [])
theorem ref12_isTerm_ok (k : Nat) (a0 : T_api_Base) (a1 : Int) (a2 : T_api_Term) : EV k 28 [(eBase a0), (I a1), (eTerm a2)] = (ref12_isTerm k a0 a1 a2).map ref12_isTerm_fin := by
  cases k with
  | zero => rfl
  | succ k =>
    unfold ref12_isTerm
    refine et (evF_succ (c := f28c) (N := 45) (regs := f28n) rfl func28 rfl (by decide) rfl rfl rfl) <| kr ⟨[(1, (I a1)), (3, (Pt 3)), (5, (Pt 5))], [(3, vS 4 (eBase a0)), (5, vS 3 (eTerm a2))], 45⟩ rfl <| kga f28a1 rfl (fun (o2 : Int × Int) => [(7, (I o2.1)), (8, (I o2.2))]) (rd 4 [(10, (eBase a0)), (11, (I a1)), (12, (Pt 5)), (13, (Sr a2.fField))] rfl rfl <| rp rfl (p_call rfl rfl rfl rfl rfl (ref11_Field_ok k a0 a1 a2.fField) (.inl rfl)) fun v1 => bind_end rfl) fun o2 => kd f28a2 rfl (fun (o5 : Bool) => ⟨[(6, (Bo o5))], [], 45⟩) ?_ fun o5 => ?_
    · refine et (regionE_regp (p := 29) (dk := true) (t := [(1, (I a1)), (3, (Pt 3)), (5, (Pt 5)), (7, (I o2.1)), (8, (I o2.2))]) (σ := [(3, vS 4 (eBase a0)), (5, vS 3 (eTerm a2))]) (n := 45) rfl (by decide) (by decide) rfl) <| et (regp_adv (m := 3) (j := 3) (t' := [(1, (I a1)), (3, (Pt 3)), (5, (Pt 5)), (7, (I o2.1)), (8, (I o2.2)), (17, (I o2.2)), (18, (Bo (o2.2 == 0))), (19, (Bo (o2.2 == 0)))]) rfl rfl rfl) <| bifE (fun hc => ?_) fun hc => ?_
      · rw [hc]
        refine et (regp_adv (m := 5) (j := 8) (t' := [(1, (I a1)), (3, (Pt 3)), (5, (Pt 5)), (7, (I o2.1)), (8, (I o2.2)), (17, (I o2.2)), (18, (Bo true)), (19, (Bo true)), (20, (V.ptr 5 0 1)), (21, (I a2.fOp)), (22, (Bo (decide (a2.fOp ≥ 1)))), (23, (Bo (decide (a2.fOp ≥ 1)))), (24, (Bo (decide (a2.fOp ≥ 1))))]) rfl rfl rfl) <| bifE (fun hc => ?_) fun hc => ?_
        · rw [hc]
          refine et (regp_adv (m := 5) (j := 13) (t' := [(1, (I a1)), (3, (Pt 3)), (5, (Pt 5)), (7, (I o2.1)), (8, (I o2.2)), (17, (I o2.2)), (18, (Bo true)), (19, (Bo true)), (20, (V.ptr 5 0 1)), (21, (I a2.fOp)), (22, (Bo true)), (23, (Bo true)), (24, (Bo true)), (25, (V.ptr 5 0 1)), (26, (I a2.fOp)), (27, (Bo (decide (a2.fOp ≤ 6)))), (28, (Bo (decide (a2.fOp ≤ 6)))), (29, (Bo (decide (a2.fOp ≤ 6))))]) rfl rfl rfl) <| bifE (fun hc => ?_) fun hc => ?_
          · rw [hc]
            exact et (regp_adv (m := 6) (j := 19) (t' := [(1, (I a1)), (3, (Pt 3)), (5, (Pt 5)), (7, (I o2.1)), (8, (I o2.2)), (17, (I o2.2)), (18, (Bo true)), (19, (Bo true)), (20, (V.ptr 5 0 1)), (21, (I a2.fOp)), (22, (Bo true)), (23, (Bo true)), (24, (Bo true)), (25, (V.ptr 5 0 1)), (26, (I a2.fOp)), (27, (Bo true)), (28, (Bo true)), (29, (Bo true)), (30, (V.ptr 5 0 2)), (31, (Sr a2.fValue)), (32, (I (a2.fValue.length : Int))), (33, (V.ptr 3 0 2)), (34, (sType a0.fTypes)), (35, (I a1))]) rfl rfl rfl) <| et (regp_pure (x := (idx a0.fTypes a1)) (w := fun v3 => (Pr (eType v3))) rfl rfl rfl rfl rfl (p_index (e := eType) rfl rfl rfl underlying22 rfl (by decide))) <| bindE fun v3 => et (putp_adv (m := 3) (j := 23) (t' := [(1, (I a1)), (3, (Pt 3)), (5, (Pt 5)), (7, (I o2.1)), (8, (I o2.2)), (17, (I o2.2)), (18, (Bo true)), (19, (Bo true)), (20, (V.ptr 5 0 1)), (21, (I a2.fOp)), (22, (Bo true)), (23, (Bo true)), (24, (Bo true)), (25, (V.ptr 5 0 1)), (26, (I a2.fOp)), (27, (Bo true)), (28, (Bo true)), (29, (Bo true)), (30, (V.ptr 5 0 2)), (31, (Sr a2.fValue)), (32, (I (a2.fValue.length : Int))), (33, (V.ptr 3 0 2)), (34, (sType a0.fTypes)), (35, (I a1)), (36, (Pr (eType v3))), (37, (Pr (sField v3.fFields))), (38, (sField v3.fFields)), (39, (I o2.1))]) rfl rfl rfl) <| et (regp_pure (x := (idx v3.fFields o2.1)) (w := fun v4 => (Pr (eField v4))) rfl rfl rfl rfl rfl (p_index (e := eField) rfl rfl rfl underlying39 rfl (by decide))) <| bindE fun v4 => regp_end rfl
          · rw [hc]
            exact regp_end rfl
        · rw [hc]
          exact regp_end rfl
      · rw [hc]
        exact regp_end rfl
    refine et k_lret ?_
    rfl
def ref12_isCondition_fin : Bool → V × List V := fun r => ((Bo r), [])
theorem ref12_isCondition_L2_ok (k : Nat) (a0 : T_api_Base) (a1 : Int) (a2 : (List (List T_api_Term))) (x18 : Int)  (K0 : Int → Option Bool) (Kst : X × St → Option (V × List V)) (hK0 : ∀ (y0 : Int), Kst (X.exit 2, ⟨[(1, (I a1)), (2, (V.sl 0 1 (List.map sTerm a2))), (3, (Pt 3)), (7, (I x18)), (8, (I y0)), (35, (Bo false))], [(3, vS 4 (eBase a0))], 52⟩) = (K0 y0).map ref12_isCondition_fin) (hret : ∀ s, Kst (X.ret, s) = endK prog 52 [(eBase a0), (I a1), (V.sl 0 1 (List.map sTerm a2))] [] [.tmp 6] (X.ret, s)) :
    ∀ (m : Nat) (x28 : Int), (iter (exec prog (EV k) f16n k f16b0) m ⟨[(1, (I a1)), (2, (V.sl 0 1 (List.map sTerm a2))), (3, (Pt 3)), (7, (I x18)), (8, (I x28))], [(3, vS 4 (eBase a0))], 52⟩).bind Kst = (ref12_isCondition_L2 k a0 a1 a2 x18 K0 m x28).map ref12_isCondition_fin := by
  intro m
  induction m with
  | zero => intros; rfl
  | succ m ih =>
    intro x28
    unfold ref12_isCondition_L2
    refine et k_round <| et k_assoc <| kga f16a7 rfl (fun (o30 : Bool) => [(35, (Bo o30))]) (rd 3 [(29, (I x28)), (30, (V.sl 0 1 (List.map sTerm a2))), (31, (I x18))] rfl rfl <| rp rfl (p_index (e := sTerm) rfl rfl rfl underlying26 rfl (by decide)) fun v29 => bd 5 [(32, (Pr (sTerm v29))), (33, (sTerm v29))] rfl rfl <| rl rfl (p_len (e := eTerm) rfl rfl rfl rfl rfl rfl underlying46) <| bind_end rfl) fun o30 => kc rfl rfl (fun hc => ?_) fun hc => ?_
    · rw [hc]
      refine et k_skip <| et (k_block rfl) <| kd f16a9 rfl (fun (o34 : Bool) => ⟨[(1, (I a1)), (2, (V.sl 0 1 (List.map sTerm a2))), (3, (Pt 3)), (7, (I x18)), (8, (I x28)), (48, (Bo o34))], [(3, vS 4 (eBase a0))], 52⟩) (et (regionE_regp (p := 11) (dk := true) (t := [(1, (I a1)), (2, (V.sl 0 1 (List.map sTerm a2))), (3, (Pt 3)), (7, (I x18)), (8, (I x28)), (35, (Bo true))]) (σ := [(3, vS 4 (eBase a0))]) (n := 52) rfl (by decide) (by decide) rfl) <| et (regp_adv (m := 4) (j := 4) (t' := [(1, (I a1)), (2, (V.sl 0 1 (List.map sTerm a2))), (3, (Pt 3)), (7, (I x18)), (8, (I x28)), (35, (Bo true)), (38, (eBase a0)), (39, (I a1)), (40, (V.sl 0 1 (List.map sTerm a2))), (41, (I x18))]) rfl rfl rfl) <| et (regp_pure (x := (idx a2 x18)) (w := fun v31 => (Pr (sTerm v31))) rfl rfl rfl rfl rfl (p_index (e := sTerm) rfl rfl rfl underlying26 rfl (by decide))) <| bindE fun v31 => et (putp_adv (m := 2) (j := 7) (t' := [(1, (I a1)), (2, (V.sl 0 1 (List.map sTerm a2))), (3, (Pt 3)), (7, (I x18)), (8, (I x28)), (35, (Bo true)), (38, (eBase a0)), (39, (I a1)), (40, (V.sl 0 1 (List.map sTerm a2))), (41, (I x18)), (42, (Pr (sTerm v31))), (43, (sTerm v31)), (44, (I x28))]) rfl rfl rfl) <| et (regp_pure (x := (idx v31 x28)) (w := fun v32 => (Pr (eTerm v32))) rfl rfl rfl rfl rfl (p_index (e := eTerm) rfl rfl rfl underlying46 rfl (by decide))) <| bindE fun v32 => et (putp_adv (m := 1) (j := 9) (t' := [(1, (I a1)), (2, (V.sl 0 1 (List.map sTerm a2))), (3, (Pt 3)), (7, (I x18)), (8, (I x28)), (35, (Bo true)), (38, (eBase a0)), (39, (I a1)), (40, (V.sl 0 1 (List.map sTerm a2))), (41, (I x18)), (42, (Pr (sTerm v31))), (43, (sTerm v31)), (44, (I x28)), (45, (Pr (eTerm v32))), (46, (eTerm v32))]) rfl rfl rfl) <| et (regp_pure (x := (ref12_isTerm k a0 a1 v32)) (w := fun v33 => (Bo v33)) rfl rfl rfl rfl rfl (p_call rfl rfl rfl rfl rfl (ref12_isTerm_ok k a0 a1 v32) (.inl rfl))) <| bindE fun v33 => regp_end rfl) fun o34 => kcl rfl rfl (fun hc => ?_) fun hc => ?_
      · rw [hc]
        refine kr ⟨[(6, (Bo false))], [], 52⟩ rfl <| et k_lret <| et blk_ret <| et loop_ret <| et (hret _) ?_
        rfl
      · rw [hc]
        exact et k_lskip <| et blk_normal <| kl ⟨[(1, (I a1)), (2, (V.sl 0 1 (List.map sTerm a2))), (3, (Pt 3)), (7, (I x18)), (8, (I (Go.IntKind.wrap .i64 (x28 + 1))))], [(3, vS 4 (eBase a0))], 52⟩ rfl <| et loop_normal <| ih (Go.IntKind.wrap .i64 (x28 + 1))
    · rw [hc]
      exact et k_exit <| et loop_exit <| hK0 x28
theorem ref12_isCondition_L1_ok (k : Nat) (a0 : T_api_Base) (a1 : Int) (a2 : (List (List T_api_Term)))  (K0 : Int → Option Bool) (Kst : X × St → Option (V × List V)) (hK0 : ∀ (y0 : Int), Kst (X.exit 0, ⟨[(1, (I a1)), (2, (V.sl 0 1 (List.map sTerm a2))), (3, (Pt 3)), (7, (I y0)), (12, (Bo false))], [(3, vS 4 (eBase a0))], 52⟩) = (K0 y0).map ref12_isCondition_fin) (hret : ∀ s, Kst (X.ret, s) = endK prog 52 [(eBase a0), (I a1), (V.sl 0 1 (List.map sTerm a2))] [] [.tmp 6] (X.ret, s)) :
    ∀ (m : Nat) (x18 : Int), (iter (exec prog (EV k) f16n k f16b1) m ⟨[(1, (I a1)), (2, (V.sl 0 1 (List.map sTerm a2))), (3, (Pt 3)), (7, (I x18))], [(3, vS 4 (eBase a0))], 52⟩).bind Kst = (ref12_isCondition_L1 k a0 a1 a2 K0 m x18).map ref12_isCondition_fin := by
  intro m
  induction m with
  | zero => intros; rfl
  | succ m ih =>
    intro x18
    unfold ref12_isCondition_L1
    refine et k_round <| et k_assoc <| krp f16a2 rfl ⟨[(1, (I a1)), (2, (V.sl 0 1 (List.map sTerm a2))), (3, (Pt 3)), (7, (I x18)), (12, (Bo (decide (x18 < (a2.length : Int)))))], [(3, vS 4 (eBase a0))], 52⟩ ?_ ?_
    · exact rd 2 [(9, (I x18)), (10, (V.sl 0 1 (List.map sTerm a2)))] rfl rfl <| rl rfl (p_len (e := sTerm) rfl rfl rfl rfl rfl rfl underlying26) <| bind_end rfl
    refine kc rfl rfl (fun hc => ?_) fun hc => ?_
    · rw [hc]
      refine et k_skip <| et (k_block rfl) <| et k_assoc <| kg f16a4 rfl (fun (o21 : Bool) => ⟨[(1, (I a1)), (2, (V.sl 0 1 (List.map sTerm a2))), (3, (Pt 3)), (7, (I x18)), (28, (Bo o21))], [(3, vS 4 (eBase a0))], 52⟩) ?_ fun o21 => ?_
      · refine rd 2 [(15, (V.sl 0 1 (List.map sTerm a2))), (16, (I x18))] rfl rfl <| rp rfl (p_index (e := sTerm) rfl rfl rfl underlying26 rfl (by decide)) fun v19 => bd 4 [(17, (Pr (sTerm v19))), (18, (sTerm v19))] rfl rfl <| rl rfl (p_len (e := eTerm) rfl rfl rfl rfl rfl rfl underlying46) <| bd 7 [(19, (I (v19.length : Int))), (20, (Bo (decide ((v19.length : Int) < 1)))), (21, (Bo (decide ((v19.length : Int) < 1))))] rfl rfl <| bifE (fun hc => ?_) fun hc => ?_
        · rw [hc]
          exact reg_end rfl
        · rw [hc]
          exact rd 9 [(22, (V.sl 0 1 (List.map sTerm a2))), (23, (I x18))] rfl rfl <| rp rfl (p_index (e := sTerm) rfl rfl rfl underlying26 rfl (by decide)) fun v20 => bd 11 [(24, (Pr (sTerm v20))), (25, (sTerm v20))] rfl rfl <| rl rfl (p_len (e := eTerm) rfl rfl rfl rfl rfl rfl underlying46) <| bind_end rfl
      refine kc rfl rfl (fun hc => ?_) fun hc => ?_
      · rw [hc]
        refine et k_assoc <| kr ⟨[(6, (Bo false))], [], 52⟩ rfl <| et k_ret <| et blk_ret <| et loop_ret <| et (hret _) ?_
        rfl
      · rw [hc]
        refine et k_skip <| kr ⟨[(1, (I a1)), (2, (V.sl 0 1 (List.map sTerm a2))), (3, (Pt 3)), (7, (I x18)), (8, (I 0))], [(3, vS 4 (eBase a0))], 52⟩ rfl <| et (k_lblock rfl) <| et k_loop ?_
        refine ref12_isCondition_L2_ok k a0 a1 a2 x18 _ _ ?h_ref12_isCondition_L2_0 ?hr_ref12_isCondition_L2 k 0
        · intro y35
          exact et blk_exit <| et k_lskip <| et blk_normal <| kl ⟨[(1, (I a1)), (2, (V.sl 0 1 (List.map sTerm a2))), (3, (Pt 3)), (7, (I (Go.IntKind.wrap .i64 (x18 + 1))))], [(3, vS 4 (eBase a0))], 52⟩ rfl <| et loop_normal <| ih (Go.IntKind.wrap .i64 (x18 + 1))
        · intro s; exact hret s
    · rw [hc]
      exact et k_exit <| et loop_exit <| hK0 x18
theorem ref12_isCondition_ok (k : Nat) (a0 : T_api_Base) (a1 : Int) (a2 : (List (List T_api_Term))) : EV k 16 [(eBase a0), (I a1), (V.sl 0 1 (List.map sTerm a2))] = (ref12_isCondition k a0 a1 a2).map ref12_isCondition_fin := by
  cases k with
  | zero => rfl
  | succ k =>
    unfold ref12_isCondition
    refine et (evF_succ (c := f16c) (N := 52) (regs := f16n) rfl func16 rfl (by decide) rfl rfl rfl) <| kr ⟨[(1, (I a1)), (2, (V.sl 0 1 (List.map sTerm a2))), (3, (Pt 3))], [(3, vS 4 (eBase a0))], 52⟩ rfl <| et k_assoc <| kra [(7, (I 0))] rfl <| et (k_block rfl) <| et k_loop ?_
    refine ref12_isCondition_L1_ok k a0 a1 a2 _ _ ?h_ref12_isCondition_L1_0 ?hr_ref12_isCondition_L1 k 0
    · intro y36
      refine et blk_exit <| krp f16a11 rfl ⟨[(6, (Bo (decide ((a2.length : Int) ≤ 4))))], [], 52⟩ ?_ ?_
      · exact rd 1 [(49, (V.sl 0 1 (List.map sTerm a2)))] rfl rfl <| rl rfl (p_len (e := sTerm) rfl rfl rfl rfl rfl rfl underlying26) <| bind_end rfl
      refine et k_lret ?_
      rfl
    · intro s; exact rfl
def ref11_Value_fin : (Str × Bool × Int) → V × List V := fun r => (.tup [(Sr r.1), (Bo r.2.1), (I r.2.2)], [])
theorem ref11_Value_ok (k : Nat) (a0 : T_api_Base) (a1 : Int) (a2 : Str) (a3 : Int) : EV k 30 [(eBase a0), (I a1), (Sr a2), (I a3)] = (ref11_Value k a0 a1 a2 a3).map ref11_Value_fin := by
  cases k with
  | zero => rfl
  | succ k =>
    unfold ref11_Value
    refine et (evF_succ (c := f30c) (N := 69) (regs := f30n) rfl func30 rfl (by decide) rfl rfl rfl) <| kr ⟨[(1, (I a1)), (2, (Sr a2)), (3, (I a3)), (4, (Pt 4))], [(4, vS 4 (eBase a0))], 69⟩ rfl <| kga f30a1 rfl (fun (o2 : Bool × Int) => [(11, (Bo o2.1)), (12, (I o2.2))]) (rd 3 [(15, (eBase a0)), (16, (I a1)), (17, (Sr a2))] rfl rfl <| rp rfl (p_call rfl rfl rfl rfl rfl (ref11_Fits_ok k a0 a1 a2) (.inl rfl)) fun v1 => bind_end rfl) fun o2 => et (k_block rfl) <| kra [(21, (Bo (o2.2 != 0)))] rfl <| kcl rfl rfl (fun hc => ?_) fun hc => ?_
    · rw [hc]
      refine kr ⟨[(8, (Sr ([] : Str))), (9, (Bo false)), (10, (I o2.2))], [], 69⟩ rfl <| et k_lret <| et blk_ret ?_
      rfl
    · rw [hc]
      refine kg f30a4 rfl (fun (o4 : Bool) => ⟨[(1, (I a1)), (2, (Sr a2)), (3, (I a3)), (4, (Pt 4)), (25, (Bo o4))], [(4, vS 4 (eBase a0))], 69⟩) ?_ fun o4 => ?_
      · refine rd 3 [(26, (Bo o2.1)), (27, (Bo (!o2.1))), (28, (Bo (!o2.1)))] rfl rfl <| bifE (fun hc => ?_) fun hc => ?_
        · rw [hc]
          exact reg_end rfl
        · rw [hc]
          refine rd 7 [(29, (I a3)), (30, (Bo (decide (a3 < 0)))), (31, (Bo (decide (a3 < 0)))), (32, (Bo (decide (a3 < 0))))] rfl rfl <| bifE (fun hc => ?_) fun hc => ?_
          · rw [hc]
            exact reg_end rfl
          · rw [hc]
            exact rd 11 [(33, (I a3)), (34, (V.ptr 4 0 2)), (35, (sType a0.fTypes)), (36, (I a1))] rfl rfl <| rp rfl (p_index (e := eType) rfl rfl rfl underlying22 rfl (by decide)) fun v3 => bd 14 [(37, (Pr (eType v3))), (38, (Pr (sField v3.fFields))), (39, (sField v3.fFields))] rfl rfl <| rl rfl (p_len (e := eField) rfl rfl rfl rfl rfl rfl underlying39) <| bind_end rfl
      refine kcl rfl rfl (fun hc => ?_) fun hc => ?_
      · rw [hc]
        refine kr ⟨[(8, (Sr ([] : Str))), (9, (Bo false)), (10, (I 2))], [], 69⟩ rfl <| et k_lret <| et blk_ret ?_
        rfl
      · rw [hc]
        refine et k_lskip <| et blk_normal <| kg f30a6 rfl (fun (o7 : T_api_Field) => ⟨[(2, (Sr a2)), (13, (Pt 13))], [(13, vS 3 (eField o7))], 69⟩) (rd 3 [(43, (V.ptr 4 0 2)), (44, (sType a0.fTypes)), (45, (I a1))] rfl rfl <| rp rfl (p_index (e := eType) rfl rfl rfl underlying22 rfl (by decide)) fun v5 => bd 7 [(46, (Pr (eType v5))), (47, (Pr (sField v5.fFields))), (48, (sField v5.fFields)), (49, (I a3))] rfl rfl <| rs rfl (p_index (e := eField) rfl rfl rfl underlying39 rfl (by decide)) fun v6 => bind_end rfl) fun o7 => et k_assoc <| kra [(59, (Bo (decide ((Go.IntKind.wrap .i64 (o7.fAt + o7.fBytes)) > (a2.length : Int)))))] rfl <| kc rfl rfl (fun hc => ?_) fun hc => ?_
        · rw [hc]
          refine et k_assoc <| kr ⟨[(8, (Sr ([] : Str))), (9, (Bo false)), (10, (I 0))], [], 69⟩ rfl <| et k_ret ?_
          rfl
        · rw [hc]
          refine et k_skip <| kg f30a9 rfl (fun (o9 : Str × Bool × Int) => ⟨[(8, (Sr o9.1)), (9, (Bo o9.2.1)), (10, (I o9.2.2))], [], 69⟩) (rd 8 [(60, (Sr a2)), (61, (V.ptr 13 0 1)), (62, (I o7.fAt)), (63, (V.ptr 13 0 1)), (64, (I o7.fAt)), (65, (V.ptr 13 0 2)), (66, (I o7.fBytes)), (67, (I (Go.IntKind.wrap .i64 (o7.fAt + o7.fBytes))))] rfl rfl <| rp rfl (p_sliceS rfl rfl rfl rfl rfl rfl underlying9) fun v8 => bind_end rfl) fun o9 => et k_lret ?_
          rfl
def ref12_stands_fin : Bool → V × List V := fun r => ((Bo r), [])
theorem ref12_stands_ok (k : Nat) (a0 : Str) (a1 : Int) (a2 : Str) : EV k 31 [(Sr a0), (I a1), (Sr a2)] = (ref12_stands k a0 a1 a2).map ref12_stands_fin := by
  cases k with
  | zero => rfl
  | succ k =>
    unfold ref12_stands
    refine et (evF_succ (c := f31c) (N := 36) (regs := f31n) rfl func31 rfl (by decide) rfl rfl rfl) <| kra [] rfl <| et k_assoc <| kr ⟨[(0, (Sr a0)), (2, (Sr a2)), (7, (I a1))], [], 36⟩ rfl <| et (k_block rfl) <| kra [(8, (Bo (a1 == 1)))] rfl <| kcl rfl rfl (fun hc => ?_) fun hc => ?_
    · rw [hc]
      refine kr ⟨[(6, (Bo (a0 == a2)))], [], 36⟩ rfl <| et k_lret <| et blk_ret ?_
      rfl
    · rw [hc]
      refine kr ⟨[(0, (Sr a0)), (2, (Sr a2)), (7, (I a1)), (13, (Bo (a1 == 2)))], [], 36⟩ rfl <| kcl rfl rfl (fun hc => ?_) fun hc => ?_
      · rw [hc]
        refine kr ⟨[(6, (Bo (!(a0 == a2))))], [], 36⟩ rfl <| et k_lret <| et blk_ret ?_
        rfl
      · rw [hc]
        refine kr ⟨[(0, (Sr a0)), (2, (Sr a2)), (7, (I a1)), (18, (Bo (a1 == 3)))], [], 36⟩ rfl <| kcl rfl rfl (fun hc => ?_) fun hc => ?_
        · rw [hc]
          refine kr ⟨[(6, (Bo (Go.AE.bytesLt a0 a2)))], [], 36⟩ rfl <| et k_lret <| et blk_ret ?_
          rfl
        · rw [hc]
          refine kr ⟨[(0, (Sr a0)), (2, (Sr a2)), (7, (I a1)), (23, (Bo (a1 == 4)))], [], 36⟩ rfl <| kcl rfl rfl (fun hc => ?_) fun hc => ?_
          · rw [hc]
            refine kr ⟨[(6, (Bo (Go.AE.bytesLt a0 a2 || a0 == a2)))], [], 36⟩ rfl <| et k_lret <| et blk_ret ?_
            rfl
          · rw [hc]
            refine kr ⟨[(0, (Sr a0)), (2, (Sr a2)), (28, (Bo (a1 == 5)))], [], 36⟩ rfl <| kcl rfl rfl (fun hc => ?_) fun hc => ?_
            · rw [hc]
              refine kr ⟨[(6, (Bo (!(Go.AE.bytesLt a0 a2 || a0 == a2))))], [], 36⟩ rfl <| et k_lret <| et blk_ret ?_
              rfl
            · rw [hc]
              refine et k_lskip <| et blk_normal <| kr ⟨[(6, (Bo (!Go.AE.bytesLt a0 a2)))], [], 36⟩ rfl <| et k_lret ?_
              rfl
def ref12_holds_fin : Bool → V × List V := fun r => ((Bo r), [])
theorem ref12_holds_ok (k : Nat) (a0 : T_api_Base) (a1 : Int) (a2 : T_api_Term) (a3 : Str) : EV k 17 [(eBase a0), (I a1), (eTerm a2), (Sr a3)] = (ref12_holds k a0 a1 a2 a3).map ref12_holds_fin := by
  cases k with
  | zero => rfl
  | succ k =>
    unfold ref12_holds
    refine et (evF_succ (c := f17c) (N := 44) (regs := f17n) rfl func17 rfl (by decide) rfl rfl rfl) <| kr ⟨[(1, (I a1)), (3, (Sr a3)), (4, (Pt 4)), (6, (Pt 6))], [(4, vS 4 (eBase a0)), (6, vS 3 (eTerm a2))], 44⟩ rfl <| kga f17a1 rfl (fun (o2 : Int) => [(9, (I o2))]) (rd 4 [(15, (eBase a0)), (16, (I a1)), (17, (Pt 6)), (18, (Sr a2.fField))] rfl rfl <| rp rfl (p_call rfl rfl rfl rfl rfl (ref11_Field_ok k a0 a1 a2.fField) (.inl rfl)) fun v1 => bind_end rfl) fun o2 => kg f17a2 rfl (fun (o4 : Str × Bool × Int) => ⟨[(6, (Pt 6)), (11, (Sr o4.1)), (12, (Bo o4.2.1)), (13, (I o4.2.2))], [(6, vS 3 (eTerm a2))], 44⟩) (rd 4 [(23, (eBase a0)), (24, (I a1)), (25, (Sr a3)), (26, (I o2))] rfl rfl <| rp rfl (p_call rfl rfl rfl rfl rfl (ref11_Value_ok k a0 a1 a3 o2) (.inl rfl)) fun v3 => bind_end rfl) fun o4 => kg f17a3 rfl (fun (o6 : Bool) => ⟨[(8, (Bo o6))], [], 44⟩) ?_ fun o6 => ?_
    · refine rd 3 [(31, (I o4.2.2)), (32, (Bo (o4.2.2 == 0))), (33, (Bo (o4.2.2 == 0)))] rfl rfl <| bifE (fun hc => ?_) fun hc => ?_
      · rw [hc]
        refine rd 6 [(34, (Bo o4.2.1)), (35, (Bo o4.2.1)), (36, (Bo o4.2.1))] rfl rfl <| bifE (fun hc => ?_) fun hc => ?_
        · rw [hc]
          exact rd 11 [(37, (Sr o4.1)), (38, (V.ptr 6 0 1)), (39, (I a2.fOp)), (40, (V.ptr 6 0 2)), (41, (Sr a2.fValue))] rfl rfl <| rs rfl (p_call rfl rfl rfl rfl rfl (ref12_stands_ok k o4.1 a2.fOp a2.fValue) (.inl rfl)) fun v5 => bind_end rfl
        · rw [hc]
          exact reg_end rfl
      · rw [hc]
        exact reg_end rfl
    refine et k_lret ?_
    rfl
def ref12_Holds_fin : (Bool × Int) → V × List V := fun r => (.tup [(Bo r.1), (I r.2)], [])
theorem ref12_Holds_L2_ok (k : Nat) (a0 : T_api_Base) (a1 : Int) (a2 : (List (List T_api_Term))) (a3 : Str) (x24 : Bool) (x25 : Int)  (K0 : Bool → Int → Option (Bool × Int)) (Kst : X × St → Option (V × List V)) (hK0 : ∀ (y0 : Bool) (y1 : Int), Kst (X.exit 3, ⟨[(1, (I a1)), (2, (V.sl 0 1 (List.map sTerm a2))), (3, (Sr a3)), (4, (Pt 4)), (13, (Bo x24)), (14, (I x25)), (15, (Bo y0)), (16, (I y1)), (54, (Bo false))], [(4, vS 4 (eBase a0))], 76⟩) = (K0 y0 y1).map ref12_Holds_fin) (hret : ∀ s, Kst (X.ret, s) = endK prog 76 [(eBase a0), (I a1), (V.sl 0 1 (List.map sTerm a2)), (Sr a3)] [] [.tmp 8, .tmp 9] (X.ret, s)) :
    ∀ (m : Nat) (x32 : Bool) (x33 : Int), (iter (exec prog (EV k) f7n k f7b0) m ⟨[(1, (I a1)), (2, (V.sl 0 1 (List.map sTerm a2))), (3, (Sr a3)), (4, (Pt 4)), (13, (Bo x24)), (14, (I x25)), (15, (Bo x32)), (16, (I x33))], [(4, vS 4 (eBase a0))], 76⟩).bind Kst = (ref12_Holds_L2 k a0 a1 a2 a3 x25 K0 m x32 x33).map ref12_Holds_fin := by
  intro m
  induction m with
  | zero => intros; rfl
  | succ m ih =>
    intro x32 x33
    unfold ref12_Holds_L2
    refine et k_round <| et k_assoc <| kga f7a15 rfl (fun (o35 : Bool) => [(54, (Bo o35))]) (rd 3 [(48, (I x33)), (49, (V.sl 0 1 (List.map sTerm a2))), (50, (I x25))] rfl rfl <| rp rfl (p_index (e := sTerm) rfl rfl rfl underlying26 rfl (by decide)) fun v34 => bd 5 [(51, (Pr (sTerm v34))), (52, (sTerm v34))] rfl rfl <| rl rfl (p_len (e := eTerm) rfl rfl rfl rfl rfl rfl underlying46) <| bind_end rfl) fun o35 => kc rfl rfl (fun hc => ?_) fun hc => ?_
    · rw [hc]
      refine et k_skip <| et (k_block rfl) <| kdl f7a17 rfl (fun (o39 : Bool) => ⟨[(1, (I a1)), (2, (V.sl 0 1 (List.map sTerm a2))), (3, (Sr a3)), (4, (Pt 4)), (13, (Bo x24)), (14, (I x25)), (15, (Bo o39)), (16, (I x33))], [(4, vS 4 (eBase a0))], 76⟩) ?_ fun o39 => ?_
      · refine et (regionE_regp (p := 14) (dk := true) (t := [(1, (I a1)), (2, (V.sl 0 1 (List.map sTerm a2))), (3, (Sr a3)), (4, (Pt 4)), (13, (Bo x24)), (14, (I x25)), (15, (Bo x32)), (16, (I x33)), (54, (Bo true))]) (σ := [(4, vS 4 (eBase a0))]) (n := 76) rfl (by decide) (by decide) rfl) <| et (regp_adv (m := 2) (j := 2) (t' := [(1, (I a1)), (2, (V.sl 0 1 (List.map sTerm a2))), (3, (Sr a3)), (4, (Pt 4)), (13, (Bo x24)), (14, (I x25)), (15, (Bo x32)), (16, (I x33)), (54, (Bo true)), (57, (Bo x32)), (58, (Bo x32))]) rfl rfl rfl) <| bifE (fun hc => ?_) fun hc => ?_
        · rw [hc]
          exact et (regp_adv (m := 4) (j := 6) (t' := [(1, (I a1)), (2, (V.sl 0 1 (List.map sTerm a2))), (3, (Sr a3)), (4, (Pt 4)), (13, (Bo x24)), (14, (I x25)), (15, (Bo true)), (16, (I x33)), (54, (Bo true)), (57, (Bo true)), (58, (Bo true)), (59, (eBase a0)), (60, (I a1)), (61, (V.sl 0 1 (List.map sTerm a2))), (62, (I x25))]) rfl rfl rfl) <| et (regp_pure (x := (idx a2 x25)) (w := fun v36 => (Pr (sTerm v36))) rfl rfl rfl rfl rfl (p_index (e := sTerm) rfl rfl rfl underlying26 rfl (by decide))) <| bindE fun v36 => et (putp_adv (m := 2) (j := 9) (t' := [(1, (I a1)), (2, (V.sl 0 1 (List.map sTerm a2))), (3, (Sr a3)), (4, (Pt 4)), (13, (Bo x24)), (14, (I x25)), (15, (Bo true)), (16, (I x33)), (54, (Bo true)), (57, (Bo true)), (58, (Bo true)), (59, (eBase a0)), (60, (I a1)), (61, (V.sl 0 1 (List.map sTerm a2))), (62, (I x25)), (63, (Pr (sTerm v36))), (64, (sTerm v36)), (65, (I x33))]) rfl rfl rfl) <| et (regp_pure (x := (idx v36 x33)) (w := fun v37 => (Pr (eTerm v37))) rfl rfl rfl rfl rfl (p_index (e := eTerm) rfl rfl rfl underlying46 rfl (by decide))) <| bindE fun v37 => et (putp_adv (m := 2) (j := 12) (t' := [(1, (I a1)), (2, (V.sl 0 1 (List.map sTerm a2))), (3, (Sr a3)), (4, (Pt 4)), (13, (Bo x24)), (14, (I x25)), (15, (Bo true)), (16, (I x33)), (54, (Bo true)), (57, (Bo true)), (58, (Bo true)), (59, (eBase a0)), (60, (I a1)), (61, (V.sl 0 1 (List.map sTerm a2))), (62, (I x25)), (63, (Pr (sTerm v36))), (64, (sTerm v36)), (65, (I x33)), (66, (Pr (eTerm v37))), (67, (eTerm v37)), (68, (Sr a3))]) rfl rfl rfl) <| et (regp_pure (x := (ref12_holds k a0 a1 v37 a3)) (w := fun v38 => (Bo v38)) rfl rfl rfl rfl rfl (p_call rfl rfl rfl rfl rfl (ref12_holds_ok k a0 a1 v37 a3) (.inl rfl))) <| bind_self fun v38 => regp_end rfl
        · rw [hc]
          exact regp_end rfl
      exact et blk_normal <| kl ⟨[(1, (I a1)), (2, (V.sl 0 1 (List.map sTerm a2))), (3, (Sr a3)), (4, (Pt 4)), (13, (Bo x24)), (14, (I x25)), (15, (Bo o39)), (16, (I (Go.IntKind.wrap .i64 (x33 + 1))))], [(4, vS 4 (eBase a0))], 76⟩ rfl <| et loop_normal <| ih o39 (Go.IntKind.wrap .i64 (x33 + 1))
    · rw [hc]
      exact et k_exit <| et loop_exit <| hK0 x32 x33
theorem ref12_Holds_L1_ok (k : Nat) (a0 : T_api_Base) (a1 : Int) (a2 : (List (List T_api_Term))) (a3 : Str)  (K0 : Bool → Int → Option (Bool × Int)) (Kst : X × St → Option (V × List V)) (hK0 : ∀ (y0 : Bool) (y1 : Int), Kst (X.exit 1, ⟨[(1, (I a1)), (2, (V.sl 0 1 (List.map sTerm a2))), (3, (Sr a3)), (4, (Pt 4)), (13, (Bo y0)), (14, (I y1)), (45, (Bo false))], [(4, vS 4 (eBase a0))], 76⟩) = (K0 y0 y1).map ref12_Holds_fin) (hret : ∀ s, Kst (X.ret, s) = endK prog 76 [(eBase a0), (I a1), (V.sl 0 1 (List.map sTerm a2)), (Sr a3)] [] [.tmp 8, .tmp 9] (X.ret, s)) :
    ∀ (m : Nat) (x24 : Bool) (x25 : Int), (iter (exec prog (EV k) f7n k f7b1) m ⟨[(1, (I a1)), (2, (V.sl 0 1 (List.map sTerm a2))), (3, (Sr a3)), (4, (Pt 4)), (13, (Bo x24)), (14, (I x25))], [(4, vS 4 (eBase a0))], 76⟩).bind Kst = (ref12_Holds_L1 k a0 a1 a2 a3 K0 m x24 x25).map ref12_Holds_fin := by
  intro m
  induction m with
  | zero => intros; rfl
  | succ m ih =>
    intro x24 x25
    unfold ref12_Holds_L1
    refine et k_round <| et k_assoc <| krp f7a11 rfl ⟨[(1, (I a1)), (2, (V.sl 0 1 (List.map sTerm a2))), (3, (Sr a3)), (4, (Pt 4)), (13, (Bo x24)), (14, (I x25)), (45, (Bo (decide (x25 < (a2.length : Int)))))], [(4, vS 4 (eBase a0))], 76⟩ ?_ ?_
    · exact rd 2 [(42, (I x25)), (43, (V.sl 0 1 (List.map sTerm a2)))] rfl rfl <| rl rfl (p_len (e := sTerm) rfl rfl rfl rfl rfl rfl underlying26) <| bind_end rfl
    refine kc rfl rfl (fun hc => ?_) fun hc => ?_
    · rw [hc]
      refine et k_skip <| et (k_block rfl) <| kr ⟨[(1, (I a1)), (2, (V.sl 0 1 (List.map sTerm a2))), (3, (Sr a3)), (4, (Pt 4)), (13, (Bo x24)), (14, (I x25)), (15, (Bo true))], [(4, vS 4 (eBase a0))], 76⟩ rfl <| et k_assoc <| kra [(16, (I 0))] rfl <| et (k_block rfl) <| et k_loop ?_
      refine ref12_Holds_L2_ok k a0 a1 a2 a3 x24 x25 _ _ ?h_ref12_Holds_L2_0 ?hr_ref12_Holds_L2 k true 0
      · intro y40 y41
        refine et blk_exit <| kgl f7a18 rfl (fun (o42 : Bool) => ⟨[(1, (I a1)), (2, (V.sl 0 1 (List.map sTerm a2))), (3, (Sr a3)), (4, (Pt 4)), (13, (Bo o42)), (14, (I x25))], [(4, vS 4 (eBase a0))], 76⟩) ?_ fun o42 => ?_
        · refine rd 2 [(71, (Bo x24)), (72, (Bo x24))] rfl rfl <| bifE (fun hc => ?_) fun hc => ?_
          · rw [hc]
            exact reg_end rfl
          · rw [hc]
            exact reg_end rfl
        exact et blk_normal <| kl ⟨[(1, (I a1)), (2, (V.sl 0 1 (List.map sTerm a2))), (3, (Sr a3)), (4, (Pt 4)), (13, (Bo o42)), (14, (I (Go.IntKind.wrap .i64 (x25 + 1))))], [(4, vS 4 (eBase a0))], 76⟩ rfl <| et loop_normal <| ih o42 (Go.IntKind.wrap .i64 (x25 + 1))
      · intro s; exact hret s
    · rw [hc]
      exact et k_exit <| et loop_exit <| hK0 x24 x25
theorem ref12_Holds_ok (k : Nat) (a0 : T_api_Base) (a1 : Int) (a2 : (List (List T_api_Term))) (a3 : Str) : EV k 7 [(eBase a0), (I a1), (V.sl 0 1 (List.map sTerm a2)), (Sr a3)] = (ref12_Holds k a0 a1 a2 a3).map ref12_Holds_fin := by
  cases k with
  | zero => rfl
  | succ k =>
    unfold ref12_Holds
    refine et (evF_succ (c := f7c) (N := 76) (regs := f7n) rfl func7 rfl (by decide) rfl rfl rfl) <| kr ⟨[(1, (I a1)), (2, (V.sl 0 1 (List.map sTerm a2))), (3, (Sr a3)), (4, (Pt 4))], [(4, vS 4 (eBase a0))], 76⟩ rfl <| et k_assoc <| kga f7a1 rfl (fun (o2 : Int) => [(10, (I o2))]) (rd 2 [(17, (eBase a0)), (18, (I a1))] rfl rfl <| rs rfl (p_call rfl rfl rfl rfl rfl (ref12_isType_ok k a0 a1) (.inl rfl)) fun v1 => bind_end rfl) fun o2 => et k_assoc <| kra [(21, (Bo (o2 != 0)))] rfl <| kc rfl rfl (fun hc => ?_) fun hc => ?_
    · rw [hc]
      refine et k_assoc <| kr ⟨[(8, (Bo false)), (9, (I o2))], [], 76⟩ rfl <| et k_ret ?_
      rfl
    · rw [hc]
      refine et k_skip <| kg f7a4 rfl (fun (o4 : Bool) => ⟨[(1, (I a1)), (2, (V.sl 0 1 (List.map sTerm a2))), (3, (Sr a3)), (4, (Pt 4)), (11, (Bo o4))], [(4, vS 4 (eBase a0))], 76⟩) (rd 3 [(24, (eBase a0)), (25, (I a1)), (26, (Sr a3))] rfl rfl <| rp rfl (p_call rfl rfl rfl rfl rfl (ref11_Fits_ok k a0 a1 a3) (.inl rfl)) fun v3 => bind_end rfl) fun o4 => et (k_block rfl) <| kr ⟨[(1, (I a1)), (2, (V.sl 0 1 (List.map sTerm a2))), (3, (Sr a3)), (4, (Pt 4)), (30, (Bo (!o4)))], [(4, vS 4 (eBase a0))], 76⟩ rfl <| kcl rfl rfl (fun hc => ?_) fun hc => ?_
      · rw [hc]
        refine kr ⟨[(8, (Bo false)), (9, (I 2))], [], 76⟩ rfl <| et k_lret <| et blk_ret ?_
        rfl
      · rw [hc]
        refine kg f7a7 rfl (fun (o6 : Bool) => ⟨[(1, (I a1)), (2, (V.sl 0 1 (List.map sTerm a2))), (3, (Sr a3)), (4, (Pt 4)), (33, (Bo o6))], [(4, vS 4 (eBase a0))], 76⟩) (rd 3 [(34, (eBase a0)), (35, (I a1)), (36, (V.sl 0 1 (List.map sTerm a2)))] rfl rfl <| rp rfl (p_call rfl rfl rfl rfl rfl (ref12_isCondition_ok k a0 a1 a2) (.inl rfl)) fun v5 => bind_end rfl) fun o6 => kcl rfl rfl (fun hc => ?_) fun hc => ?_
        · rw [hc]
          refine kr ⟨[(8, (Bo false)), (9, (I 110))], [], 76⟩ rfl <| et k_lret <| et blk_ret ?_
          rfl
        · rw [hc]
          refine et k_lskip <| et blk_normal <| krp f7a9 rfl ⟨[(1, (I a1)), (2, (V.sl 0 1 (List.map sTerm a2))), (3, (Sr a3)), (4, (Pt 4)), (13, (Bo ((a2.length : Int) == 0)))], [(4, vS 4 (eBase a0))], 76⟩ ?_ ?_
          · exact rd 1 [(39, (V.sl 0 1 (List.map sTerm a2)))] rfl rfl <| rl rfl (p_len (e := sTerm) rfl rfl rfl rfl rfl rfl underlying26) <| bind_end rfl
          refine et k_assoc <| kra [(14, (I 0))] rfl <| et (k_block rfl) <| et k_loop ?_
          refine ref12_Holds_L1_ok k a0 a1 a2 a3 _ _ ?h_ref12_Holds_L1_0 ?hr_ref12_Holds_L1 k ((a2.length : Int) == 0) 0
          · intro y43 y44
            refine et blk_exit <| kr ⟨[(8, (Bo y43)), (9, (I 0))], [], 76⟩ rfl <| et k_lret ?_
            rfl
          · intro s; exact rfl
def ref12_Valid_fin : (Bool × Int) → V × List V := fun r => (.tup [(Bo r.1), (I r.2)], [])
theorem ref12_Valid_ok (k : Nat) (a0 : T_api_Base) (a1 : Int) (a2 : (List (List T_api_Term))) : EV k 8 [(eBase a0), (I a1), (V.sl 0 1 (List.map sTerm a2))] = (ref12_Valid k a0 a1 a2).map ref12_Valid_fin := by
  cases k with
  | zero => rfl
  | succ k =>
    unfold ref12_Valid
    refine et (evF_succ (c := f8c) (N := 19) (regs := f8n) rfl func8 rfl (by decide) rfl rfl rfl) <| kr ⟨[(1, (I a1)), (2, (V.sl 0 1 (List.map sTerm a2))), (3, (Pt 3))], [(3, vS 4 (eBase a0))], 19⟩ rfl <| et k_assoc <| kga f8a1 rfl (fun (o2 : Int) => [(8, (I o2))]) (rd 2 [(9, (eBase a0)), (10, (I a1))] rfl rfl <| rs rfl (p_call rfl rfl rfl rfl rfl (ref12_isType_ok k a0 a1) (.inl rfl)) fun v1 => bind_end rfl) fun o2 => et k_assoc <| kra [(13, (Bo (o2 != 0)))] rfl <| kc rfl rfl (fun hc => ?_) fun hc => ?_
    · rw [hc]
      refine et k_assoc <| kr ⟨[(6, (Bo false)), (7, (I o2))], [], 19⟩ rfl <| et k_ret ?_
      rfl
    · rw [hc]
      refine et k_skip <| kg f8a4 rfl (fun (o4 : Bool × Int) => ⟨[(6, (Bo o4.1)), (7, (I o4.2))], [], 19⟩) (rd 3 [(15, (eBase a0)), (16, (I a1)), (17, (V.sl 0 1 (List.map sTerm a2)))] rfl rfl <| rp rfl (p_call rfl rfl rfl rfl rfl (ref12_isCondition_ok k a0 a1 a2) (.inl rfl)) fun v3 => bind_end rfl) fun o4 => et k_lret ?_
      rfl
def slices_Clone_Term_c_fin : (List T_api_Term) → V × List V := fun r => ((sTerm r), [])
def slices_Clone_Term_fin : List T_api_Term → V × List V := fun r => ((sTerm r), [])
theorem slices_Clone_Term_c_ok (k : Nat) (y : T_api_Term) (l : (List T_api_Term)) : EV k 59 [(sTerm ((y :: l)))] = (slices_Clone_Term_c k y l).map slices_Clone_Term_c_fin := by
  cases k with
  | zero => rfl
  | succ k =>
    unfold slices_Clone_Term_c
    refine et (evF_succ (c := f59c) (N := 8) (regs := f59n) rfl func59 rfl (by decide) rfl rfl rfl) <| kra [] rfl <| et k_assoc <| kra [(4, (Bo false))] rfl <| et (k_cond (t := false) rfl rfl) <| et k_skip <| kg f59a3 rfl (fun (o2 : (List T_api_Term)) => ⟨[(2, (sTerm o2))], [], 8⟩) (rd 2 [(5, (V.sl 1 3 (List.map eTerm ([] : List T_api_Term)))), (6, (sTerm ((y :: l))))] rfl rfl <| et (reg_eff (x := (app ([] : List T_api_Term) (y :: l))) (w := fun v1 => ((V.sl 1 3 (List.map eTerm v1)), _)) rfl rfl rfl rfl (p_app (e := eTerm) rfl rfl rfl rfl rfl rfl rfl rfl rfl rfl (by decide))) <| bind_self fun v1 => bind_end rfl) fun o2 => et k_lret ?_
    rfl
theorem slices_Clone_Term_ok (k : Nat) (l : List T_api_Term) : EV k 59 [(sTerm l)] = (slices_Clone_Term k l).map slices_Clone_Term_fin := by
  cases k with
  | zero => rfl
  | succ k => cases l with
    | nil => exact evF_ext (ext := ext) (f := 59) rfl
    | cons y l => exact slices_Clone_Term_c_ok (k + 1) y l
def match_copied_fin : (List (List T_api_Term)) → V × List V := fun r => ((V.sl 0 1 (List.map sTerm r)), [])
theorem match_copied_L1_ok (k : Nat) (a0 : (List (List T_api_Term)))  (K0 : (List (List T_api_Term)) → Int → Option (List (List T_api_Term))) (Kst : X × St → Option (V × List V)) (hK0 : ∀ (y0 : (List (List T_api_Term))) (y1 : Int), Kst (X.exit 0, ⟨[(3, (V.sl 1 1 (List.map sTerm y0))), (6, (V.sl 0 1 (List.map sTerm a0))), (7, (I (a0.length : Int))), (8, (I y1)), (9, (Bo false))], [], 19⟩) = (K0 y0 y1).map match_copied_fin) (hret : ∀ s, Kst (X.ret, s) = endK prog 19 [(V.sl 0 1 (List.map sTerm a0))] [] [.tmp 2] (X.ret, s)) :
    ∀ (m : Nat) (x6 : (List (List T_api_Term))) (x7 : Int), (iter (exec prog (EV k) f32n k f32b0) m ⟨[(3, (V.sl 1 1 (List.map sTerm x6))), (6, (V.sl 0 1 (List.map sTerm a0))), (7, (I (a0.length : Int))), (8, (I x7))], [], 19⟩).bind Kst = (match_copied_L1 k a0 K0 m x6 x7).map match_copied_fin := by
  intro m
  induction m with
  | zero => intros; rfl
  | succ m ih =>
    intro x6 x7
    unfold match_copied_L1
    refine et k_round <| kra [(9, (Bo (decide (x7 < (a0.length : Int)))))] rfl <| kc rfl rfl (fun hc => ?_) fun hc => ?_
    · rw [hc]
      exact et k_skip <| et (k_block rfl) <| kg f32a4 rfl (fun (o9 : (List T_api_Term)) => ⟨[(3, (V.sl 1 1 (List.map sTerm x6))), (5, (sTerm o9)), (6, (V.sl 0 1 (List.map sTerm a0))), (7, (I (a0.length : Int))), (8, (I x7))], [], 19⟩) (rs rfl (p_index (e := sTerm) rfl rfl rfl underlying26 rfl (by decide)) fun v8 => bind_end rfl) fun o9 => kgl f32a5 rfl (fun (o12 : (List (List T_api_Term))) => ⟨[(3, (V.sl 1 1 (List.map sTerm o12))), (6, (V.sl 0 1 (List.map sTerm a0))), (7, (I (a0.length : Int))), (8, (I x7))], [], 19⟩) (ra 2 2 ⟨[(3, (V.sl 0 1 (List.map sTerm x6))), (5, (sTerm o9)), (6, (V.sl 0 1 (List.map sTerm a0))), (7, (I (a0.length : Int))), (8, (I x7)), (12, (V.sl 1 1 (List.map sTerm x6))), (13, (sTerm o9))], [], 19⟩ rfl rfl rfl <| rp rfl (p_call rfl rfl rfl rfl rfl (slices_Clone_Term_ok k o9) (.inl rfl)) fun v10 => bd 4 [(14, (sTerm v10)), (15, (V.sl 0 1 (List.map sTerm ([v10] : List (List T_api_Term)))))] rfl rfl <| et (reg_eff (x := (app x6 ([v10] : List (List T_api_Term)))) (w := fun v11 => ((V.sl 1 1 (List.map sTerm v11)), _)) rfl rfl rfl rfl (p_app (e := sTerm) rfl rfl rfl rfl rfl rfl rfl rfl rfl rfl (by decide))) <| bind_self fun v11 => bind_end rfl) fun o12 => et blk_normal <| kl ⟨[(3, (V.sl 1 1 (List.map sTerm o12))), (6, (V.sl 0 1 (List.map sTerm a0))), (7, (I (a0.length : Int))), (8, (I (Go.IntKind.wrap .i64 (x7 + 1))))], [], 19⟩ rfl <| et loop_normal <| ih o12 (Go.IntKind.wrap .i64 (x7 + 1))
    · rw [hc]
      exact et k_exit <| et loop_exit <| hK0 x6 x7
theorem match_copied_ok (k : Nat) (a0 : (List (List T_api_Term))) : EV k 32 [(V.sl 0 1 (List.map sTerm a0))] = (match_copied k a0).map match_copied_fin := by
  cases k with
  | zero => rfl
  | succ k =>
    unfold match_copied
    refine et (evF_succ (c := f32c) (N := 19) (regs := f32n) rfl func32 rfl (by decide) rfl rfl rfl) <| kra [] rfl <| kra [(3, (V.sl 1 1 (List.map sTerm ([] : List (List T_api_Term)))))] rfl <| et k_assoc <| krp f32a2 rfl ⟨[(3, (V.sl 1 1 (List.map sTerm ([] : List (List T_api_Term))))), (6, (V.sl 0 1 (List.map sTerm a0))), (7, (I (a0.length : Int))), (8, (I 0))], [], 19⟩ ?_ ?_
    · exact rd 1 [(6, (V.sl 0 1 (List.map sTerm a0)))] rfl rfl <| rl rfl (p_len (e := sTerm) rfl rfl rfl rfl rfl rfl underlying26) <| bind_end rfl
    refine et (k_block rfl) <| et k_loop ?_
    refine match_copied_L1_ok k a0 _ _ ?h_match_copied_L1_0 ?hr_match_copied_L1 k ([] : List (List T_api_Term)) 0
    · intro y13 y14
      refine et blk_exit <| kr ⟨[(2, (V.sl 0 1 (List.map sTerm y13)))], [], 19⟩ rfl <| et k_lret ?_
      rfl
    · intro s; exact rfl
def slices_Concat_Term_fin : (List T_api_Term) → V × List V := fun r => ((sTerm r), [])
theorem slices_Concat_Term_ok (k : Nat) (s : List (List T_api_Term)) : EV k 33 [(V.sl 0 1 (List.map sTerm s))] = (slices_Concat_Term k s).map slices_Concat_Term_fin := by
  cases k with
  | zero => rfl
  | succ k => exact (evF_ext (ext := ext) (f := 33) rfl).trans (extCat_map (e := eTerm) (sz := 3) s)
def match_limited_fin : ((List (List T_api_Term)) × Int) → V × List V := fun r => (.tup [(V.sl 0 1 (List.map sTerm r.1)), (I r.2)], [])
theorem match_limited_ok (k : Nat) (a0 : T_api_Type) (a1 : (List (List T_api_Term))) : EV k 34 [(eType a0), (V.sl 0 1 (List.map sTerm a1))] = (match_limited k a0 a1).map match_limited_fin := by
  cases k with
  | zero => rfl
  | succ k =>
    unfold match_limited
    refine et (evF_succ (c := f34c) (N := 11) (regs := f34n) rfl func34 rfl (by decide) rfl rfl rfl) <| kr ⟨[(1, (V.sl 0 1 (List.map sTerm a1))), (2, (Pt 2))], [(2, vS 8 (eType a0))], 11⟩ rfl <| et k_assoc <| kg f34a1 rfl (fun (o2 : Bool) => ⟨[(1, (V.sl 0 1 (List.map sTerm a1))), (9, (Bo o2))], [], 11⟩) (rd 2 [(6, (eType a0)), (7, (V.sl 0 1 (List.map sTerm a1)))] rfl rfl <| rp rfl (p_call rfl rfl rfl rfl rfl (match_valid_ok k a0 a1) (.inl rfl)) fun v1 => bind_end rfl) fun o2 => kc rfl rfl (fun hc => ?_) fun hc => ?_
    · rw [hc]
      refine et k_assoc <| kr ⟨[(4, (V.sl 0 1 (List.map sTerm ([] : List (List T_api_Term))))), (5, (I 4))], [], 11⟩ rfl <| et k_ret ?_
      rfl
    · rw [hc]
      refine et k_skip <| kr ⟨[(4, (V.sl 0 1 (List.map sTerm a1))), (5, (I 0))], [], 11⟩ rfl <| et k_lret ?_
      rfl
def match_And_fin : ((List (List T_api_Term)) × Int) → V × List V := fun r => (.tup [(V.sl 0 1 (List.map sTerm r.1)), (I r.2)], [])
theorem match_And_L2_ok (k : Nat) (a0 : T_api_Base) (a1 : Int) (a2 : (List (List T_api_Term))) (a3 : (List (List T_api_Term))) (o2 : Int × T_api_Type) (x24 : Int) (o26 : (List T_api_Term))  (K0 : (List (List T_api_Term)) → Int → Option ((List (List T_api_Term)) × Int)) (Kst : X × St → Option (V × List V)) (hK0 : ∀ (y0 : (List (List T_api_Term))) (y1 : Int), Kst (X.exit 3, ⟨[(3, (V.sl 0 1 (List.map sTerm a3))), (10, (Pt 10)), (12, (V.sl 1 1 (List.map sTerm y0))), (14, (sTerm o26)), (42, (V.sl 0 1 (List.map sTerm a2))), (43, (I (a2.length : Int))), (44, (I x24)), (48, (V.sl 0 1 (List.map sTerm a3))), (49, (I (a3.length : Int))), (50, (I y1)), (51, (Bo false))], [(10, vS 8 (eType o2.2))], 68⟩) = (K0 y0 y1).map match_And_fin) (hret : ∀ s, Kst (X.ret, s) = endK prog 68 [(eBase a0), (I a1), (V.sl 0 1 (List.map sTerm a2)), (V.sl 0 1 (List.map sTerm a3))] [] [.tmp 8, .tmp 9] (X.ret, s)) :
    ∀ (m : Nat) (x32 : (List (List T_api_Term))) (x33 : Int), (iter (exec prog (EV k) f18n k f18b0) m ⟨[(3, (V.sl 0 1 (List.map sTerm a3))), (10, (Pt 10)), (12, (V.sl 1 1 (List.map sTerm x32))), (14, (sTerm o26)), (42, (V.sl 0 1 (List.map sTerm a2))), (43, (I (a2.length : Int))), (44, (I x24)), (48, (V.sl 0 1 (List.map sTerm a3))), (49, (I (a3.length : Int))), (50, (I x33))], [(10, vS 8 (eType o2.2))], 68⟩).bind Kst = (match_And_L2 k a3 o26 K0 m x32 x33).map match_And_fin := by
  intro m
  induction m with
  | zero => intros; rfl
  | succ m ih =>
    intro x32 x33
    unfold match_And_L2
    refine et k_round <| kra [(51, (Bo (decide (x33 < (a3.length : Int)))))] rfl <| kc rfl rfl (fun hc => ?_) fun hc => ?_
    · rw [hc]
      exact et k_skip <| et (k_block rfl) <| kg f18a14 rfl (fun (o35 : (List T_api_Term)) => ⟨[(3, (V.sl 0 1 (List.map sTerm a3))), (10, (Pt 10)), (12, (V.sl 1 1 (List.map sTerm x32))), (14, (sTerm o26)), (16, (sTerm o35)), (42, (V.sl 0 1 (List.map sTerm a2))), (43, (I (a2.length : Int))), (44, (I x24)), (48, (V.sl 0 1 (List.map sTerm a3))), (49, (I (a3.length : Int))), (50, (I x33))], [(10, vS 8 (eType o2.2))], 68⟩) (rs rfl (p_index (e := sTerm) rfl rfl rfl underlying26 rfl (by decide)) fun v34 => bind_end rfl) fun o35 => kgl f18a15 rfl (fun (o38 : (List (List T_api_Term))) => ⟨[(3, (V.sl 0 1 (List.map sTerm a3))), (10, (Pt 10)), (12, (V.sl 1 1 (List.map sTerm o38))), (14, (sTerm o26)), (42, (V.sl 0 1 (List.map sTerm a2))), (43, (I (a2.length : Int))), (44, (I x24)), (48, (V.sl 0 1 (List.map sTerm a3))), (49, (I (a3.length : Int))), (50, (I x33))], [(10, vS 8 (eType o2.2))], 68⟩) (ra 4 4 ⟨[(3, (V.sl 0 1 (List.map sTerm a3))), (10, (Pt 10)), (12, (V.sl 0 1 (List.map sTerm x32))), (14, (sTerm o26)), (16, (sTerm o35)), (42, (V.sl 0 1 (List.map sTerm a2))), (43, (I (a2.length : Int))), (44, (I x24)), (48, (V.sl 0 1 (List.map sTerm a3))), (49, (I (a3.length : Int))), (50, (I x33)), (54, (V.sl 1 1 (List.map sTerm x32))), (55, (sTerm o26)), (56, (sTerm o35)), (57, (V.sl 0 1 (List.map sTerm ([o26, o35] : List (List T_api_Term)))))], [(10, vS 8 (eType o2.2))], 68⟩ rfl rfl rfl <| rp rfl (p_call rfl rfl rfl rfl rfl (slices_Concat_Term_ok k ([o26, o35] : List (List T_api_Term))) (.inl rfl)) fun v36 => bd 6 [(58, (sTerm v36)), (59, (V.sl 0 1 (List.map sTerm ([v36] : List (List T_api_Term)))))] rfl rfl <| et (reg_eff (x := (app x32 ([v36] : List (List T_api_Term)))) (w := fun v37 => ((V.sl 1 1 (List.map sTerm v37)), _)) rfl rfl rfl rfl (p_app (e := sTerm) rfl rfl rfl rfl rfl rfl rfl rfl rfl rfl (by decide))) <| bind_self fun v37 => bind_end rfl) fun o38 => et blk_normal <| kl ⟨[(3, (V.sl 0 1 (List.map sTerm a3))), (10, (Pt 10)), (12, (V.sl 1 1 (List.map sTerm o38))), (14, (sTerm o26)), (42, (V.sl 0 1 (List.map sTerm a2))), (43, (I (a2.length : Int))), (44, (I x24)), (48, (V.sl 0 1 (List.map sTerm a3))), (49, (I (a3.length : Int))), (50, (I (Go.IntKind.wrap .i64 (x33 + 1))))], [(10, vS 8 (eType o2.2))], 68⟩ rfl <| et loop_normal <| ih o38 (Go.IntKind.wrap .i64 (x33 + 1))
    · rw [hc]
      exact et k_exit <| et loop_exit <| hK0 x32 x33
theorem match_And_L1_ok (k : Nat) (a0 : T_api_Base) (a1 : Int) (a2 : (List (List T_api_Term))) (a3 : (List (List T_api_Term))) (o2 : Int × T_api_Type)  (K0 : (List (List T_api_Term)) → Int → Option ((List (List T_api_Term)) × Int)) (Kst : X × St → Option (V × List V)) (hK0 : ∀ (y0 : (List (List T_api_Term))) (y1 : Int), Kst (X.exit 1, ⟨[(3, (V.sl 0 1 (List.map sTerm a3))), (10, (Pt 10)), (12, (V.sl 1 1 (List.map sTerm y0))), (42, (V.sl 0 1 (List.map sTerm a2))), (43, (I (a2.length : Int))), (44, (I y1)), (45, (Bo false))], [(10, vS 8 (eType o2.2))], 68⟩) = (K0 y0 y1).map match_And_fin) (hret : ∀ s, Kst (X.ret, s) = endK prog 68 [(eBase a0), (I a1), (V.sl 0 1 (List.map sTerm a2)), (V.sl 0 1 (List.map sTerm a3))] [] [.tmp 8, .tmp 9] (X.ret, s)) :
    ∀ (m : Nat) (x23 : (List (List T_api_Term))) (x24 : Int), (iter (exec prog (EV k) f18n k f18b1) m ⟨[(3, (V.sl 0 1 (List.map sTerm a3))), (10, (Pt 10)), (12, (V.sl 1 1 (List.map sTerm x23))), (42, (V.sl 0 1 (List.map sTerm a2))), (43, (I (a2.length : Int))), (44, (I x24))], [(10, vS 8 (eType o2.2))], 68⟩).bind Kst = (match_And_L1 k a2 a3 K0 m x23 x24).map match_And_fin := by
  intro m
  induction m with
  | zero => intros; rfl
  | succ m ih =>
    intro x23 x24
    unfold match_And_L1
    refine et k_round <| kra [(45, (Bo (decide (x24 < (a2.length : Int)))))] rfl <| kc rfl rfl (fun hc => ?_) fun hc => ?_
    · rw [hc]
      refine et k_skip <| et (k_block rfl) <| kg f18a11 rfl (fun (o26 : (List T_api_Term)) => ⟨[(3, (V.sl 0 1 (List.map sTerm a3))), (10, (Pt 10)), (12, (V.sl 1 1 (List.map sTerm x23))), (14, (sTerm o26)), (42, (V.sl 0 1 (List.map sTerm a2))), (43, (I (a2.length : Int))), (44, (I x24))], [(10, vS 8 (eType o2.2))], 68⟩) (rs rfl (p_index (e := sTerm) rfl rfl rfl underlying26 rfl (by decide)) fun v25 => bind_end rfl) fun o26 => krp f18a12 rfl ⟨[(3, (V.sl 0 1 (List.map sTerm a3))), (10, (Pt 10)), (12, (V.sl 1 1 (List.map sTerm x23))), (14, (sTerm o26)), (42, (V.sl 0 1 (List.map sTerm a2))), (43, (I (a2.length : Int))), (44, (I x24)), (48, (V.sl 0 1 (List.map sTerm a3))), (49, (I (a3.length : Int))), (50, (I 0))], [(10, vS 8 (eType o2.2))], 68⟩ ?_ ?_
      · exact rd 1 [(48, (V.sl 0 1 (List.map sTerm a3)))] rfl rfl <| rl rfl (p_len (e := sTerm) rfl rfl rfl rfl rfl rfl underlying26) <| bind_end rfl
      refine et (k_lblock rfl) <| et k_loop ?_
      refine match_And_L2_ok k a0 a1 a2 a3 o2 x24 o26 _ _ ?h_match_And_L2_0 ?hr_match_And_L2 k x23 0
      · intro y39 y40
        exact et blk_exit <| et k_lskip <| et blk_normal <| kl ⟨[(3, (V.sl 0 1 (List.map sTerm a3))), (10, (Pt 10)), (12, (V.sl 1 1 (List.map sTerm y39))), (42, (V.sl 0 1 (List.map sTerm a2))), (43, (I (a2.length : Int))), (44, (I (Go.IntKind.wrap .i64 (x24 + 1))))], [(10, vS 8 (eType o2.2))], 68⟩ rfl <| et loop_normal <| ih y39 (Go.IntKind.wrap .i64 (x24 + 1))
      · intro s; exact hret s
    · rw [hc]
      exact et k_exit <| et loop_exit <| hK0 x23 x24
theorem match_And_ok (k : Nat) (a0 : T_api_Base) (a1 : Int) (a2 : (List (List T_api_Term))) (a3 : (List (List T_api_Term))) : EV k 18 [(eBase a0), (I a1), (V.sl 0 1 (List.map sTerm a2)), (V.sl 0 1 (List.map sTerm a3))] = (match_And k a0 a1 a2 a3).map match_And_fin := by
  cases k with
  | zero => rfl
  | succ k =>
    unfold match_And
    refine et (evF_succ (c := f18c) (N := 68) (regs := f18n) rfl func18 rfl (by decide) rfl rfl rfl) <| kr ⟨[(1, (I a1)), (2, (V.sl 0 1 (List.map sTerm a2))), (3, (V.sl 0 1 (List.map sTerm a3))), (4, (Pt 4))], [(4, vS 4 (eBase a0))], 68⟩ rfl <| kg f18a1 rfl (fun (o2 : Int × T_api_Type) => ⟨[(2, (V.sl 0 1 (List.map sTerm a2))), (3, (V.sl 0 1 (List.map sTerm a3))), (10, (Pt 10)), (11, (I o2.1))], [(10, vS 8 (eType o2.2))], 68⟩) (rd 5 [(18, (eBase a0)), (19, (I a1)), (20, (V.sl 0 1 (List.map sTerm a2))), (21, (V.sl 0 1 (List.map sTerm a3))), (22, (V.sl 0 1 (List.map (fun x => (V.sl 0 1 (List.map sTerm x))) ([a2, a3] : List (List (List T_api_Term))))))] rfl rfl <| rp rfl (p_call rfl rfl rfl rfl rfl (match_conditions_ok k a0 a1 ([a2, a3] : List (List (List T_api_Term)))) (.inl rfl)) fun v1 => bind_end rfl) fun o2 => et (k_block rfl) <| kra [(26, (Bo (o2.1 != 0)))] rfl <| kcl rfl rfl (fun hc => ?_) fun hc => ?_
    · rw [hc]
      refine kr ⟨[(8, (V.sl 0 1 (List.map sTerm ([] : List (List T_api_Term))))), (9, (I o2.1))], [], 68⟩ rfl <| et k_lret <| et blk_ret ?_
      rfl
    · rw [hc]
      refine krp f18a4 rfl ⟨[(2, (V.sl 0 1 (List.map sTerm a2))), (3, (V.sl 0 1 (List.map sTerm a3))), (10, (Pt 10)), (30, (Bo ((a2.length : Int) == 0)))], [(10, vS 8 (eType o2.2))], 68⟩ ?_ ?_
      · exact rd 1 [(31, (V.sl 0 1 (List.map sTerm a2)))] rfl rfl <| rl rfl (p_len (e := sTerm) rfl rfl rfl rfl rfl rfl underlying26) <| bind_end rfl
      refine kcl rfl rfl (fun hc => ?_) fun hc => ?_
      · rw [hc]
        refine kg f18a5 rfl (fun (o4 : (List (List T_api_Term)) × Int) => ⟨[(8, (V.sl 0 1 (List.map sTerm o4.1))), (9, (I o4.2))], [], 68⟩) (rd 1 [(34, (V.sl 0 1 (List.map sTerm a3)))] rfl rfl <| rp rfl (p_call rfl rfl rfl rfl rfl (match_copied_ok k a3) (.inl rfl)) fun v3 => bind_end rfl) fun o4 => et k_lret <| et blk_ret ?_
        rfl
      · rw [hc]
        refine krp f18a6 rfl ⟨[(2, (V.sl 0 1 (List.map sTerm a2))), (3, (V.sl 0 1 (List.map sTerm a3))), (10, (Pt 10)), (36, (Bo ((a3.length : Int) == 0)))], [(10, vS 8 (eType o2.2))], 68⟩ ?_ ?_
        · exact rd 1 [(37, (V.sl 0 1 (List.map sTerm a3)))] rfl rfl <| rl rfl (p_len (e := sTerm) rfl rfl rfl rfl rfl rfl underlying26) <| bind_end rfl
        refine kcl rfl rfl (fun hc => ?_) fun hc => ?_
        · rw [hc]
          refine kg f18a7 rfl (fun (o6 : (List (List T_api_Term)) × Int) => ⟨[(8, (V.sl 0 1 (List.map sTerm o6.1))), (9, (I o6.2))], [], 68⟩) (rd 1 [(40, (V.sl 0 1 (List.map sTerm a2)))] rfl rfl <| rp rfl (p_call rfl rfl rfl rfl rfl (match_copied_ok k a2) (.inl rfl)) fun v5 => bind_end rfl) fun o6 => et k_lret <| et blk_ret ?_
          rfl
        · rw [hc]
          refine et k_lskip <| et blk_normal <| kr ⟨[(2, (V.sl 0 1 (List.map sTerm a2))), (3, (V.sl 0 1 (List.map sTerm a3))), (10, (Pt 10)), (12, (V.sl 1 1 (List.map sTerm ([] : List (List T_api_Term)))))], [(10, vS 8 (eType o2.2))], 68⟩ rfl <| et k_assoc <| krp f18a9 rfl ⟨[(3, (V.sl 0 1 (List.map sTerm a3))), (10, (Pt 10)), (12, (V.sl 1 1 (List.map sTerm ([] : List (List T_api_Term))))), (42, (V.sl 0 1 (List.map sTerm a2))), (43, (I (a2.length : Int))), (44, (I 0))], [(10, vS 8 (eType o2.2))], 68⟩ ?_ ?_
          · exact rd 1 [(42, (V.sl 0 1 (List.map sTerm a2)))] rfl rfl <| rl rfl (p_len (e := sTerm) rfl rfl rfl rfl rfl rfl underlying26) <| bind_end rfl
          refine et (k_block rfl) <| et k_loop ?_
          refine match_And_L1_ok k a0 a1 a2 a3 o2 _ _ ?h_match_And_L1_0 ?hr_match_And_L1 k ([] : List (List T_api_Term)) 0
          · intro y41 y42
            refine et blk_exit <| kg f18a18 rfl (fun (o44 : (List (List T_api_Term)) × Int) => ⟨[(8, (V.sl 0 1 (List.map sTerm o44.1))), (9, (I o44.2))], [], 68⟩) (rd 2 [(63, (eType o2.2)), (64, (V.sl 0 1 (List.map sTerm y41)))] rfl rfl <| rp rfl (p_call rfl rfl rfl rfl rfl (match_limited_ok k o2.2 y41) (.inl rfl)) fun v43 => bind_end rfl) fun o44 => et k_lret ?_
            rfl
          · intro s; exact rfl
def slices_Concat_TermL_fin : (List (List T_api_Term)) → V × List V := fun r => ((V.sl 0 1 (List.map sTerm r)), [])
theorem slices_Concat_TermL_ok (k : Nat) (s : List (List (List T_api_Term))) : EV k 35 [(V.sl 0 1 (List.map (fun x => (V.sl 0 1 (List.map sTerm x))) s))] = (slices_Concat_TermL k s).map slices_Concat_TermL_fin := by
  cases k with
  | zero => rfl
  | succ k => exact (evF_ext (ext := ext) (f := 35) rfl).trans (extCat_map (e := sTerm) (sz := 1) s)
def match_Or_fin : ((List (List T_api_Term)) × Int) → V × List V := fun r => (.tup [(V.sl 0 1 (List.map sTerm r.1)), (I r.2)], [])
theorem match_Or_ok (k : Nat) (a0 : T_api_Base) (a1 : Int) (a2 : (List (List T_api_Term))) (a3 : (List (List T_api_Term))) : EV k 19 [(eBase a0), (I a1), (V.sl 0 1 (List.map sTerm a2)), (V.sl 0 1 (List.map sTerm a3))] = (match_Or k a0 a1 a2 a3).map match_Or_fin := by
  cases k with
  | zero => rfl
  | succ k =>
    unfold match_Or
    refine et (evF_succ (c := f19c) (N := 43) (regs := f19n) rfl func19 rfl (by decide) rfl rfl rfl) <| kr ⟨[(1, (I a1)), (2, (V.sl 0 1 (List.map sTerm a2))), (3, (V.sl 0 1 (List.map sTerm a3))), (4, (Pt 4))], [(4, vS 4 (eBase a0))], 43⟩ rfl <| kg f19a1 rfl (fun (o2 : Int × T_api_Type) => ⟨[(2, (V.sl 0 1 (List.map sTerm a2))), (3, (V.sl 0 1 (List.map sTerm a3))), (10, (Pt 10)), (11, (I o2.1))], [(10, vS 8 (eType o2.2))], 43⟩) (rd 5 [(13, (eBase a0)), (14, (I a1)), (15, (V.sl 0 1 (List.map sTerm a2))), (16, (V.sl 0 1 (List.map sTerm a3))), (17, (V.sl 0 1 (List.map (fun x => (V.sl 0 1 (List.map sTerm x))) ([a2, a3] : List (List (List T_api_Term))))))] rfl rfl <| rp rfl (p_call rfl rfl rfl rfl rfl (match_conditions_ok k a0 a1 ([a2, a3] : List (List (List T_api_Term)))) (.inl rfl)) fun v1 => bind_end rfl) fun o2 => et (k_block rfl) <| kra [(21, (Bo (o2.1 != 0)))] rfl <| kcl rfl rfl (fun hc => ?_) fun hc => ?_
    · rw [hc]
      refine kr ⟨[(8, (V.sl 0 1 (List.map sTerm ([] : List (List T_api_Term))))), (9, (I o2.1))], [], 43⟩ rfl <| et k_lret <| et blk_ret ?_
      rfl
    · rw [hc]
      refine kg f19a4 rfl (fun (o3 : Bool) => ⟨[(2, (V.sl 0 1 (List.map sTerm a2))), (3, (V.sl 0 1 (List.map sTerm a3))), (10, (Pt 10)), (25, (Bo o3))], [(10, vS 8 (eType o2.2))], 43⟩) ?_ fun o3 => ?_
      · refine rd 1 [(26, (V.sl 0 1 (List.map sTerm a2)))] rfl rfl <| rl rfl (p_len (e := sTerm) rfl rfl rfl rfl rfl rfl underlying26) <| bd 4 [(27, (I (a2.length : Int))), (28, (Bo ((a2.length : Int) == 0))), (29, (Bo ((a2.length : Int) == 0)))] rfl rfl <| bifE (fun hc => ?_) fun hc => ?_
        · rw [hc]
          exact reg_end rfl
        · rw [hc]
          exact rd 5 [(30, (V.sl 0 1 (List.map sTerm a3)))] rfl rfl <| rl rfl (p_len (e := sTerm) rfl rfl rfl rfl rfl rfl underlying26) <| bind_end rfl
      refine kcl rfl rfl (fun hc => ?_) fun hc => ?_
      · rw [hc]
        refine kr ⟨[(8, (V.sl 0 1 (List.map sTerm ([] : List (List T_api_Term))))), (9, (I 0))], [], 43⟩ rfl <| et k_lret <| et blk_ret ?_
        rfl
      · rw [hc]
        refine et k_lskip <| et blk_normal <| kd f19a6 rfl (fun (o7 : (List (List T_api_Term)) × Int) => ⟨[(8, (V.sl 0 1 (List.map sTerm o7.1))), (9, (I o7.2))], [], 43⟩) (et (regionE_regp (p := 11) (dk := true) (t := [(2, (V.sl 0 1 (List.map sTerm a2))), (3, (V.sl 0 1 (List.map sTerm a3))), (10, (Pt 10)), (25, (Bo false))]) (σ := [(10, vS 8 (eType o2.2))]) (n := 43) rfl (by decide) (by decide) rfl) <| et (regp_adv (m := 4) (j := 4) (t' := [(2, (V.sl 0 1 (List.map sTerm a2))), (3, (V.sl 0 1 (List.map sTerm a3))), (10, (Pt 10)), (25, (Bo false)), (34, (eType o2.2)), (35, (V.sl 0 1 (List.map sTerm a2))), (36, (V.sl 0 1 (List.map sTerm a3))), (37, (V.sl 0 1 (List.map (fun x => (V.sl 0 1 (List.map sTerm x))) ([a2, a3] : List (List (List T_api_Term))))))]) rfl rfl rfl) <| et (regp_pure (x := (slices_Concat_TermL k ([a2, a3] : List (List (List T_api_Term))))) (w := fun v4 => (V.sl 0 1 (List.map sTerm v4))) rfl rfl rfl rfl rfl (p_call rfl rfl rfl rfl rfl (slices_Concat_TermL_ok k ([a2, a3] : List (List (List T_api_Term)))) (.inl rfl))) <| bindE fun v4 => et (putp_adv (m := 0) (j := 5) (t' := [(2, (V.sl 0 1 (List.map sTerm a2))), (3, (V.sl 0 1 (List.map sTerm a3))), (10, (Pt 10)), (25, (Bo false)), (34, (eType o2.2)), (35, (V.sl 0 1 (List.map sTerm a2))), (36, (V.sl 0 1 (List.map sTerm a3))), (37, (V.sl 0 1 (List.map (fun x => (V.sl 0 1 (List.map sTerm x))) ([a2, a3] : List (List (List T_api_Term)))))), (38, (V.sl 0 1 (List.map sTerm v4)))]) rfl rfl rfl) <| et (regp_pure (x := (match_copied k v4)) (w := fun v5 => (V.sl 0 1 (List.map sTerm v5))) rfl rfl rfl rfl rfl (p_call rfl rfl rfl rfl rfl (match_copied_ok k v4) (.inl rfl))) <| bindE fun v5 => et (putp_adv (m := 0) (j := 6) (t' := [(2, (V.sl 0 1 (List.map sTerm a2))), (3, (V.sl 0 1 (List.map sTerm a3))), (10, (Pt 10)), (25, (Bo false)), (34, (eType o2.2)), (35, (V.sl 0 1 (List.map sTerm a2))), (36, (V.sl 0 1 (List.map sTerm a3))), (37, (V.sl 0 1 (List.map (fun x => (V.sl 0 1 (List.map sTerm x))) ([a2, a3] : List (List (List T_api_Term)))))), (38, (V.sl 0 1 (List.map sTerm v4))), (39, (V.sl 0 1 (List.map sTerm v5)))]) rfl rfl rfl) <| et (regp_pure (x := (match_limited k o2.2 v5)) (w := fun v6 => (V.tup [(V.sl 0 1 (List.map sTerm v6.1)), (I v6.2)])) rfl rfl rfl rfl rfl (p_call rfl rfl rfl rfl rfl (match_limited_ok k o2.2 v5) (.inl rfl))) <| bindE fun v6 => regp_end rfl) fun o7 => et k_lret ?_
        rfl
def law12_joined_fin : ((List (List T_api_Term)) × Int) → V × List V := fun r => (.tup [(V.sl 0 1 (List.map sTerm r.1)), (I r.2)], [])
theorem law12_joined_ok (k : Nat) (a0 : T_progenylaw12_Case) (a1 : (List (List T_api_Term))) (a2 : (List (List T_api_Term))) (a3 : Bool) : EV k 9 [(eCase a0), (V.sl 0 1 (List.map sTerm a1)), (V.sl 0 1 (List.map sTerm a2)), (Bo a3)] = (law12_joined k a0 a1 a2 a3).map law12_joined_fin := by
  cases k with
  | zero => rfl
  | succ k =>
    unfold law12_joined
    refine et (evF_succ (c := f9c) (N := 29) (regs := f9n) rfl func9 rfl (by decide) rfl rfl rfl) <| kr ⟨[(1, (V.sl 0 1 (List.map sTerm a1))), (2, (V.sl 0 1 (List.map sTerm a2))), (3, (Bo a3)), (4, (Pt 4))], [(4, vS 6 (eCase a0))], 29⟩ rfl <| et k_assoc <| kr ⟨[(1, (V.sl 0 1 (List.map sTerm a1))), (2, (V.sl 0 1 (List.map sTerm a2))), (4, (Pt 4)), (10, (Bo a3))], [(4, vS 6 (eCase a0))], 29⟩ rfl <| kc rfl rfl (fun hc => ?_) fun hc => ?_
    · rw [hc]
      refine et k_assoc <| kg f9a2 rfl (fun (o2 : (List (List T_api_Term)) × Int) => ⟨[(8, (V.sl 0 1 (List.map sTerm o2.1))), (9, (I o2.2))], [], 29⟩) (rd 6 [(11, (Pt 4)), (12, (eBase a0.fBase)), (13, (V.ptr 4 0 4)), (14, (I a0.fType)), (15, (V.sl 0 1 (List.map sTerm a1))), (16, (V.sl 0 1 (List.map sTerm a2)))] rfl rfl <| rp rfl (p_call rfl rfl rfl rfl rfl (match_And_ok k a0.fBase a0.fType a1 a2) (.inl rfl)) fun v1 => bind_end rfl) fun o2 => et k_ret ?_
      rfl
    · rw [hc]
      refine et k_skip <| kg f9a3 rfl (fun (o4 : (List (List T_api_Term)) × Int) => ⟨[(8, (V.sl 0 1 (List.map sTerm o4.1))), (9, (I o4.2))], [], 29⟩) (rd 6 [(20, (Pt 4)), (21, (eBase a0.fBase)), (22, (V.ptr 4 0 4)), (23, (I a0.fType)), (24, (V.sl 0 1 (List.map sTerm a1))), (25, (V.sl 0 1 (List.map sTerm a2)))] rfl rfl <| rp rfl (p_call rfl rfl rfl rfl rfl (match_Or_ok k a0.fBase a0.fType a1 a2) (.inl rfl)) fun v3 => bind_end rfl) fun o4 => et k_lret ?_
      rfl
def dbd_fits_fin : Bool → V × List V := fun r => ((Bo r), [])
theorem dbd_fits_ok (k : Nat) (a0 : T_api_Type) (a1 : Str) : EV k 63 [(eType a0), (Sr a1)] = (dbd_fits k a0 a1).map dbd_fits_fin := by
  cases k with
  | zero => rfl
  | succ k =>
    unfold dbd_fits
    refine et (evF_succ (c := f63c) (N := 17) (regs := f63n) rfl func63 rfl (by decide) rfl rfl rfl) <| kr ⟨[(1, (Sr a1)), (2, (Pt 2))], [(2, vS 8 (eType a0))], 17⟩ rfl <| kg f63a1 rfl (fun (o1 : Bool) => ⟨[(4, (Bo o1))], [], 17⟩) ?_ fun o1 => ?_
    · refine rd 6 [(5, (Sr a1)), (6, (I (a1.length : Int))), (7, (V.ptr 2 0 2)), (8, (I a0.fMin)), (9, (Bo (decide ((a1.length : Int) ≥ a0.fMin)))), (10, (Bo (decide ((a1.length : Int) ≥ a0.fMin))))] rfl rfl <| bifE (fun hc => ?_) fun hc => ?_
      · rw [hc]
        exact reg_end rfl
      · rw [hc]
        exact reg_end rfl
    refine et k_lret ?_
    rfl
def dbd_Fits_fin : (Bool × Int) → V × List V := fun r => (.tup [(Bo r.1), (I r.2)], [])
theorem dbd_Fits_ok (k : Nat) (a0 : T_api_Base) (a1 : Int) (a2 : Str) : EV k 36 [(eBase a0), (I a1), (Sr a2)] = (dbd_Fits k a0 a1 a2).map dbd_Fits_fin := by
  cases k with
  | zero => rfl
  | succ k =>
    unfold dbd_Fits
    refine et (evF_succ (c := f36c) (N := 23) (regs := f36n) rfl func36 rfl (by decide) rfl rfl rfl) <| kr ⟨[(1, (I a1)), (2, (Sr a2)), (3, (Pt 3))], [(3, vS 4 (eBase a0))], 23⟩ rfl <| et k_assoc <| kga f36a1 rfl (fun (o2 : Int) => [(8, (I o2))]) (rd 3 [(9, (eBase a0)), (10, (I a1)), (11, (sI (([a1] : List Int))))] rfl rfl <| rs rfl (p_call rfl rfl rfl rfl rfl (dbd_asked_ok k a0 ([a1] : List Int)) (.inl rfl)) fun v1 => bind_end rfl) fun o2 => et k_assoc <| kra [(14, (Bo (o2 != 0)))] rfl <| kc rfl rfl (fun hc => ?_) fun hc => ?_
    · rw [hc]
      refine et k_assoc <| kr ⟨[(6, (Bo false)), (7, (I o2))], [], 23⟩ rfl <| et k_ret ?_
      rfl
    · rw [hc]
      refine et k_skip <| kg f36a4 rfl (fun (o5 : Bool × Int) => ⟨[(6, (Bo o5.1)), (7, (I o5.2))], [], 23⟩) (rd 3 [(16, (V.ptr 3 0 2)), (17, (sType a0.fTypes)), (18, (I a1))] rfl rfl <| rp rfl (p_index (e := eType) rfl rfl rfl underlying22 rfl (by decide)) fun v3 => bd 6 [(19, (Pr (eType v3))), (20, (eType v3)), (21, (Sr a2))] rfl rfl <| rp rfl (p_call rfl rfl rfl rfl rfl (dbd_fits_ok k v3 a2) (.inl rfl)) fun v4 => bind_end rfl) fun o5 => et k_lret ?_
      rfl
def match_Holds_2_1_v12_fin : Bool → V × List V := fun r => ((Bo r), [])
theorem match_Holds_2_1_v12_ok (k : Nat) (a0 : T_api_Term) (a1 : Nat → T_api_Term → Option Bool) (a1_fid : Go.FuncId) (a1_c0 : V) (a1_c1 : V) (a1_hok : ∀ j x0, EV j a1_fid [(eTerm x0), V.pro a1_c0, V.pro a1_c1] = (a1 j x0).map fun b => ((Bo b), [])) : EV k 42 [(eTerm a0), (Pr (V.fn a1_fid [] [V.pro a1_c0, V.pro a1_c1]))] = (match_Holds_2_1_v12 k a0 a1).map match_Holds_2_1_v12_fin := by
  cases k with
  | zero => rfl
  | succ k =>
    unfold match_Holds_2_1_v12
    refine et (evF_succ (c := f42v12c) (N := 8) (regs := f42v12n) rfl func42 rfl (by decide) rfl rfl rfl) <| kr ⟨[(1, (Pr (V.fn a1_fid [] [V.pro a1_c0, V.pro a1_c1]))), (2, (Pt 2))], [(2, vS 3 (eTerm a0))], 8⟩ rfl <| kg f42v12a1 rfl (fun (o2 : Bool) => ⟨[(3, (Bo o2))], [], 8⟩) (rd 2 [(4, (V.fn a1_fid [] [V.pro a1_c0, V.pro a1_c1])), (5, (eTerm a0))] rfl rfl <| rp rfl (p_call rfl rfl rfl rfl rfl (a1_hok k a0) (.inl rfl)) fun v1 => bind_end rfl) fun o2 => et k_lret ?_
    rfl
def match_Holds_2_v12_fin : Bool → V × List V := fun r => ((Bo r), [])
theorem match_Holds_2_v12_ok (k : Nat) (a0 : (List T_api_Term)) (a1 : Nat → T_api_Term → Option Bool) (a1_fid : Go.FuncId) (a1_c0 : V) (a1_c1 : V) (a1_hok : ∀ j x0, EV j a1_fid [(eTerm x0), V.pro a1_c0, V.pro a1_c1] = (a1 j x0).map fun b => ((Bo b), [])) : EV k 40 [(sTerm a0), (Pr (V.fn a1_fid [] [V.pro a1_c0, V.pro a1_c1]))] = (match_Holds_2_v12 k a0 a1).map match_Holds_2_v12_fin := by
  cases k with
  | zero => rfl
  | succ k =>
    unfold match_Holds_2_v12
    refine et (evF_succ (c := f40v12c) (N := 8) (regs := f40v12n) rfl func40 rfl (by decide) rfl rfl rfl) <| kra [] rfl <| kg f40v12a1 rfl (fun (o2 : Bool) => ⟨[(3, (Bo o2))], [], 8⟩) (rd 2 [(4, (sTerm a0)), (5, (V.fn 42 [] [(Pr (V.fn a1_fid [] [V.pro a1_c0, V.pro a1_c1]))]))] rfl rfl <| rp rfl (p_call rfl rfl rfl rfl rfl (slices_ContainsFunc_Term_ok k a0 (fun j x0 => (match_Holds_2_1_v12 j x0 a1)) 42 (V.fn a1_fid [] [V.pro a1_c0, V.pro a1_c1]) (fun j x0 => (match_Holds_2_1_v12_ok j x0 a1 a1_fid a1_c0 a1_c1 a1_hok))) (.inl rfl)) fun v1 => bind_end rfl) fun o2 => et k_lret ?_
    rfl
def strings_Compare_fin : Int → V × List V := fun r => (I r, [])
theorem strings_Compare_ok (k : Nat) (s n : Str) : EV k 66 [(Sr s), (Sr n)] = (strings_Compare k s n).map strings_Compare_fin := by
  cases k with
  | zero => rfl
  | succ k => exact (evF_ext (ext := ext) (f := 66) rfl).trans rfl
def match_holds_fin : Bool → V × List V := fun r => ((Bo r), [])
theorem match_holds_ok (k : Nat) (a0 : Int) (a1 : Str) (a2 : Str) : EV k 39 [(I a0), (Sr a1), (Sr a2)] = (match_holds k a0 a1 a2).map match_holds_fin := by
  cases k with
  | zero => rfl
  | succ k =>
    unfold match_holds
    refine et (evF_succ (c := f39c) (N := 34) (regs := f39n) rfl func39 rfl (by decide) rfl rfl rfl) <| kra [] rfl <| kg f39a1 rfl (fun (o2 : Int) => ⟨[(0, (I a0)), (7, (I o2))], [], 34⟩) (rd 2 [(8, (Sr a1)), (9, (Sr a2))] rfl rfl <| rs rfl (p_call rfl rfl rfl rfl rfl (strings_Compare_ok k a1 a2) (.inl rfl)) fun v1 => bind_end rfl) fun o2 => et k_assoc <| kr ⟨[(7, (I o2)), (11, (I a0))], [], 34⟩ rfl <| et (k_block rfl) <| kra [(12, (Bo (a0 == 1)))] rfl <| kcl rfl rfl (fun hc => ?_) fun hc => ?_
    · rw [hc]
      refine kr ⟨[(6, (Bo (o2 == 0)))], [], 34⟩ rfl <| et k_lret <| et blk_ret ?_
      rfl
    · rw [hc]
      refine kr ⟨[(7, (I o2)), (11, (I a0)), (16, (Bo (a0 == 2)))], [], 34⟩ rfl <| kcl rfl rfl (fun hc => ?_) fun hc => ?_
      · rw [hc]
        refine kr ⟨[(6, (Bo (o2 != 0)))], [], 34⟩ rfl <| et k_lret <| et blk_ret ?_
        rfl
      · rw [hc]
        refine kr ⟨[(7, (I o2)), (11, (I a0)), (20, (Bo (a0 == 3)))], [], 34⟩ rfl <| kcl rfl rfl (fun hc => ?_) fun hc => ?_
        · rw [hc]
          refine kr ⟨[(6, (Bo (decide (o2 < 0))))], [], 34⟩ rfl <| et k_lret <| et blk_ret ?_
          rfl
        · rw [hc]
          refine kr ⟨[(7, (I o2)), (11, (I a0)), (24, (Bo (a0 == 4)))], [], 34⟩ rfl <| kcl rfl rfl (fun hc => ?_) fun hc => ?_
          · rw [hc]
            refine kr ⟨[(6, (Bo (decide (o2 ≤ 0))))], [], 34⟩ rfl <| et k_lret <| et blk_ret ?_
            rfl
          · rw [hc]
            refine kr ⟨[(7, (I o2)), (28, (Bo (a0 == 5)))], [], 34⟩ rfl <| kcl rfl rfl (fun hc => ?_) fun hc => ?_
            · rw [hc]
              refine kr ⟨[(6, (Bo (decide (o2 > 0))))], [], 34⟩ rfl <| et k_lret <| et blk_ret ?_
              rfl
            · rw [hc]
              refine et k_lskip <| et blk_normal <| kr ⟨[(6, (Bo (decide (o2 ≥ 0))))], [], 34⟩ rfl <| et k_lret ?_
              rfl
def match_Holds_1_fin : Bool → V × List V := fun r => ((Bo r), [])
theorem match_Holds_1_ok (k : Nat) (a0 : T_api_Term) (a1 : T_api_Type) (a2 : Str) : EV k 37 [(eTerm a0), (Pr (eType a1)), (Pr (Sr a2))] = (match_Holds_1 k a0 a1 a2).map match_Holds_1_fin := by
  cases k with
  | zero => rfl
  | succ k =>
    unfold match_Holds_1
    refine et (evF_succ (c := f37c) (N := 44) (regs := f37n) rfl func37 rfl (by decide) rfl rfl rfl) <| kr ⟨[(1, (Pr (eType a1))), (2, (Pr (Sr a2))), (3, (Pt 3))], [(3, vS 3 (eTerm a0))], 44⟩ rfl <| kga f37a1 rfl (fun (o2 : Int) => [(5, (I o2))]) (rd 3 [(9, (eType a1)), (10, (Pt 3)), (11, (Sr a0.fField))] rfl rfl <| rp rfl (p_call rfl rfl rfl rfl rfl (match_field_ok k a1 a0.fField) (.inl rfl)) fun v1 => bind_end rfl) fun o2 => kg f37a2 rfl (fun (o4 : T_api_Field) => ⟨[(2, (Pr (Sr a2))), (3, (Pt 3)), (7, (Pt 7))], [(3, vS 3 (eTerm a0)), (7, vS 3 (eField o4))], 44⟩) (rd 3 [(15, (Pr (sField a1.fFields))), (16, (sField a1.fFields)), (17, (I o2))] rfl rfl <| rs rfl (p_index (e := eField) rfl rfl rfl underlying39 rfl (by decide)) fun v3 => bind_end rfl) fun o4 => kd f37a3 rfl (fun (o7 : Bool) => ⟨[(4, (Bo o7))], [], 44⟩) ?_ fun o7 => ?_
    · refine et (regionE_regp (p := 25) (dk := true) (t := [(2, (Pr (Sr a2))), (3, (Pt 3)), (7, (Pt 7))]) (σ := [(3, vS 3 (eTerm a0)), (7, vS 3 (eField o4))]) (n := 44) rfl (by decide) (by decide) rfl) <| et (regp_adv (m := 9) (j := 9) (t' := [(2, (Pr (Sr a2))), (3, (Pt 3)), (7, (Pt 7)), (20, (V.ptr 7 0 1)), (21, (I o4.fAt)), (22, (V.ptr 7 0 2)), (23, (I o4.fBytes)), (24, (I (Go.IntKind.wrap .i64 (o4.fAt + o4.fBytes)))), (25, (Sr a2)), (26, (I (a2.length : Int))), (27, (Bo (decide ((Go.IntKind.wrap .i64 (o4.fAt + o4.fBytes)) ≤ (a2.length : Int))))), (28, (Bo (decide ((Go.IntKind.wrap .i64 (o4.fAt + o4.fBytes)) ≤ (a2.length : Int)))))]) rfl rfl rfl) <| bifE (fun hc => ?_) fun hc => ?_
      · rw [hc]
        exact et (regp_adv (m := 10) (j := 19) (t' := [(2, (Pr (Sr a2))), (3, (Pt 3)), (7, (Pt 7)), (20, (V.ptr 7 0 1)), (21, (I o4.fAt)), (22, (V.ptr 7 0 2)), (23, (I o4.fBytes)), (24, (I (Go.IntKind.wrap .i64 (o4.fAt + o4.fBytes)))), (25, (Sr a2)), (26, (I (a2.length : Int))), (27, (Bo true)), (28, (Bo true)), (29, (V.ptr 3 0 1)), (30, (I a0.fOp)), (31, (Sr a2)), (32, (V.ptr 7 0 1)), (33, (I o4.fAt)), (34, (V.ptr 7 0 1)), (35, (I o4.fAt)), (36, (V.ptr 7 0 2)), (37, (I o4.fBytes)), (38, (I (Go.IntKind.wrap .i64 (o4.fAt + o4.fBytes))))]) rfl rfl rfl) <| et (regp_pure (x := (cut a2 o4.fAt (Go.IntKind.wrap .i64 (o4.fAt + o4.fBytes)))) (w := fun v5 => (Sr v5)) rfl rfl rfl rfl rfl (p_sliceS rfl rfl rfl rfl rfl rfl underlying9)) <| bindE fun v5 => et (putp_adv (m := 2) (j := 22) (t' := [(2, (Pr (Sr a2))), (3, (Pt 3)), (7, (Pt 7)), (20, (V.ptr 7 0 1)), (21, (I o4.fAt)), (22, (V.ptr 7 0 2)), (23, (I o4.fBytes)), (24, (I (Go.IntKind.wrap .i64 (o4.fAt + o4.fBytes)))), (25, (Sr a2)), (26, (I (a2.length : Int))), (27, (Bo true)), (28, (Bo true)), (29, (V.ptr 3 0 1)), (30, (I a0.fOp)), (31, (Sr a2)), (32, (V.ptr 7 0 1)), (33, (I o4.fAt)), (34, (V.ptr 7 0 1)), (35, (I o4.fAt)), (36, (V.ptr 7 0 2)), (37, (I o4.fBytes)), (38, (I (Go.IntKind.wrap .i64 (o4.fAt + o4.fBytes)))), (39, (Sr v5)), (40, (V.ptr 3 0 2)), (41, (Sr a0.fValue))]) rfl rfl rfl) <| et (regp_pure (x := (match_holds k a0.fOp v5 a0.fValue)) (w := fun v6 => (Bo v6)) rfl rfl rfl rfl rfl (p_call rfl rfl rfl rfl rfl (match_holds_ok k a0.fOp v5 a0.fValue) (.inl rfl))) <| bind_self fun v6 => regp_end rfl
      · rw [hc]
        exact regp_end rfl
    refine et k_lret ?_
    rfl
def match_Holds_fin : (Bool × Int) → V × List V := fun r => (.tup [(Bo r.1), (I r.2)], [])
theorem match_Holds_ok (k : Nat) (a0 : T_api_Base) (a1 : Int) (a2 : (List (List T_api_Term))) (a3 : Str) : EV k 20 [(eBase a0), (I a1), (V.sl 0 1 (List.map sTerm a2)), (Sr a3)] = (match_Holds k a0 a1 a2 a3).map match_Holds_fin := by
  cases k with
  | zero => rfl
  | succ k =>
    unfold match_Holds
    refine et (evF_succ (c := f20c) (N := 50) (regs := f20n) rfl func20 rfl (by decide) rfl rfl rfl) <| kr ⟨[(1, (I a1)), (2, (V.sl 0 1 (List.map sTerm a2))), (4, (Pt 4)), (7, (Pt 7))], [(4, vS 4 (eBase a0)), (7, vS 1 (Sr a3))], 50⟩ rfl <| kga f20a1 rfl (fun (o2 : Bool × Int) => [(10, (Bo o2.1)), (11, (I o2.2))]) (rd 3 [(16, (eBase a0)), (17, (I a1)), (18, (Sr a3))] rfl rfl <| rp rfl (p_call rfl rfl rfl rfl rfl (dbd_Fits_ok k a0 a1 a3) (.inl rfl)) fun v1 => bind_end rfl) fun o2 => et (k_block rfl) <| kra [(22, (Bo (o2.2 != 0)))] rfl <| kcl rfl rfl (fun hc => ?_) fun hc => ?_
    · rw [hc]
      refine kr ⟨[(8, (Bo false)), (9, (I o2.2))], [], 50⟩ rfl <| et k_lret <| et blk_ret ?_
      rfl
    · rw [hc]
      refine kr ⟨[(1, (I a1)), (2, (V.sl 0 1 (List.map sTerm a2))), (4, (Pt 4)), (7, (Pt 7)), (26, (Bo (!o2.1)))], [(4, vS 4 (eBase a0)), (7, vS 1 (Sr a3))], 50⟩ rfl <| kcl rfl rfl (fun hc => ?_) fun hc => ?_
      · rw [hc]
        refine kr ⟨[(8, (Bo false)), (9, (I 2))], [], 50⟩ rfl <| et k_lret <| et blk_ret ?_
        rfl
      · rw [hc]
        refine et k_lskip <| et blk_normal <| kg f20a6 rfl (fun (o4 : Int × T_api_Type) => ⟨[(2, (V.sl 0 1 (List.map sTerm a2))), (7, (Pt 7)), (11, (I o4.1)), (12, (Pt 12))], [(7, vS 1 (Sr a3)), (12, vS 8 (eType o4.2))], 50⟩) (rd 4 [(30, (eBase a0)), (31, (I a1)), (32, (V.sl 0 1 (List.map sTerm a2))), (33, (V.sl 0 1 (List.map (fun x => (V.sl 0 1 (List.map sTerm x))) ([a2] : List (List (List T_api_Term))))))] rfl rfl <| rp rfl (p_call rfl rfl rfl rfl rfl (match_conditions_ok k a0 a1 ([a2] : List (List (List T_api_Term)))) (.inl rfl)) fun v3 => bind_end rfl) fun o4 => et k_assoc <| kra [(38, (Bo (o4.1 != 0)))] rfl <| kc rfl rfl (fun hc => ?_) fun hc => ?_
        · rw [hc]
          refine et k_assoc <| kr ⟨[(8, (Bo false)), (9, (I o4.1))], [], 50⟩ rfl <| et k_ret ?_
          rfl
        · rw [hc]
          refine et k_skip <| kr ⟨[(2, (V.sl 0 1 (List.map sTerm a2))), (7, (Pt 7)), (12, (Pt 12)), (13, (Pt 13))], [(7, vS 1 (Sr a3)), (12, vS 8 (eType o4.2)), (13, ⟨false, 1, [(V.fn 37 [] [(Pt 12), (Pt 7)])]⟩)], 50⟩ rfl <| kra [(14, (V.fn 40 [] [(Pt 13)]))] rfl <| kg f20a11 rfl (fun (o6 : Bool × Int) => ⟨[(8, (Bo o6.1)), (9, (I o6.2))], [], 50⟩) ?_ fun o6 => ?_
          · refine rd 1 [(42, (V.sl 0 1 (List.map sTerm a2)))] rfl rfl <| rl rfl (p_len (e := sTerm) rfl rfl rfl rfl rfl rfl underlying26) <| bd 4 [(43, (I (a2.length : Int))), (44, (Bo ((a2.length : Int) == 0))), (45, (Bo ((a2.length : Int) == 0)))] rfl rfl <| bifE (fun hc => ?_) fun hc => ?_
            · rw [hc]
              exact reg_end rfl
            · rw [hc]
              exact rd 6 [(46, (V.sl 0 1 (List.map sTerm a2))), (47, (V.fn 40 [] [(Pt 13)]))] rfl rfl <| rp rfl (p_call rfl rfl rfl rfl rfl (slices_ContainsFunc_TermL_ok k a2 (fun j x0 => (match_Holds_2_v12 j x0 (fun j x0 => (match_Holds_1 j x0 o4.2 a3)))) 40 (V.fn 37 [] [(Pr (eType o4.2)), (Pr (Sr a3))]) (fun j x0 => (match_Holds_2_v12_ok j x0 (fun j x0 => (match_Holds_1 j x0 o4.2 a3)) 37 (eType o4.2) (Sr a3) (fun j x0 => (match_Holds_1_ok j x0 o4.2 a3))))) (.inr (fun _ => rfl))) fun v5 => bind_end rfl
          refine et k_lret ?_
          rfl
def law12_held_fin : Bool → V × List V := fun r => ((Bo r), [])
theorem law12_held_ok (k : Nat) (a0 : T_progenylaw12_Case) (a1 : (List (List T_api_Term))) (a2 : Str) : EV k 10 [(eCase a0), (V.sl 0 1 (List.map sTerm a1)), (Sr a2)] = (law12_held k a0 a1 a2).map law12_held_fin := by
  cases k with
  | zero => rfl
  | succ k =>
    unfold law12_held
    refine et (evF_succ (c := f10c) (N := 24) (regs := f10n) rfl func10 rfl (by decide) rfl rfl rfl) <| kr ⟨[(1, (V.sl 0 1 (List.map sTerm a1))), (2, (Sr a2)), (3, (Pt 3))], [(3, vS 6 (eCase a0))], 24⟩ rfl <| kg f10a1 rfl (fun (o2 : Bool × Int) => ⟨[(7, (Bo o2.1)), (8, (I o2.2))], [], 24⟩) (rd 6 [(10, (Pt 3)), (11, (eBase a0.fBase)), (12, (V.ptr 3 0 4)), (13, (I a0.fType)), (14, (V.sl 0 1 (List.map sTerm a1))), (15, (Sr a2))] rfl rfl <| rp rfl (p_call rfl rfl rfl rfl rfl (match_Holds_ok k a0.fBase a0.fType a1 a2) (.inl rfl)) fun v1 => bind_end rfl) fun o2 => kg f10a2 rfl (fun (o3 : Bool) => ⟨[(6, (Bo o3))], [], 24⟩) ?_ fun o3 => ?_
    · refine rd 3 [(19, (I o2.2)), (20, (Bo (o2.2 == 0))), (21, (Bo (o2.2 == 0)))] rfl rfl <| bifE (fun hc => ?_) fun hc => ?_
      · rw [hc]
        exact reg_end rfl
      · rw [hc]
        exact reg_end rfl
    refine et k_lret ?_
    rfl
def law12_MatchOrders_fin : Bool → V × List V := fun r => ((Bo r), [])
theorem law12_MatchOrders_L1_ok (k : Nat) (a0 : T_progenylaw12_Case) (a1 : (List (List T_api_Term))) (a2 : Str)  (K0 : Int → Option Bool) (Kst : X × St → Option (V × List V)) (hK0 : ∀ (y0 : Int), Kst (X.exit 0, ⟨[(1, (V.sl 0 1 (List.map sTerm a1))), (2, (Sr a2)), (3, (Pt 3)), (11, (I y0)), (67, (Bo false))], [(3, vS 6 (eCase a0))], 136⟩) = (K0 y0).map law12_MatchOrders_fin) (hret : ∀ s, Kst (X.ret, s) = endK prog 136 [(eCase a0), (V.sl 0 1 (List.map sTerm a1)), (Sr a2)] [] [.tmp 6] (X.ret, s)) :
    ∀ (m : Nat) (x29 : Int), (iter (exec prog (EV k) f3n k f3b0) m ⟨[(1, (V.sl 0 1 (List.map sTerm a1))), (2, (Sr a2)), (3, (Pt 3)), (11, (I x29))], [(3, vS 6 (eCase a0))], 136⟩).bind Kst = (law12_MatchOrders_L1 k a0 a1 a2 K0 m x29).map law12_MatchOrders_fin := by
  intro m
  induction m with
  | zero => intros; rfl
  | succ m ih =>
    intro x29
    unfold law12_MatchOrders_L1
    refine et k_round <| et k_assoc <| kra [(67, (Bo (decide (x29 < 2))))] rfl <| kc rfl rfl (fun hc => ?_) fun hc => ?_
    · rw [hc]
      refine et k_skip <| et (k_block rfl) <| kg f3a12 rfl (fun (o31 : (List (List T_api_Term)) × Int) => ⟨[(1, (V.sl 0 1 (List.map sTerm a1))), (2, (Sr a2)), (3, (Pt 3)), (11, (I x29)), (12, (V.sl 0 1 (List.map sTerm o31.1))), (13, (I o31.2))], [(3, vS 6 (eCase a0))], 136⟩) (rd 6 [(71, (eCase a0)), (72, (V.ptr 3 0 5)), (73, (V.sl 0 1 (List.map sTerm a0.fWhen))), (74, (V.sl 0 1 (List.map sTerm a1))), (75, (I x29)), (76, (Bo (x29 == 0)))] rfl rfl <| rp rfl (p_call rfl rfl rfl rfl rfl (law12_joined_ok k a0 a0.fWhen a1 (x29 == 0)) (.inl rfl)) fun v30 => bind_end rfl) fun o31 => kga f3a13 rfl (fun (o33 : (List (List T_api_Term)) × Int) => [(14, (V.sl 0 1 (List.map sTerm o33.1))), (15, (I o33.2))]) (rd 6 [(81, (eCase a0)), (82, (V.sl 0 1 (List.map sTerm a1))), (83, (V.ptr 3 0 5)), (84, (V.sl 0 1 (List.map sTerm a0.fWhen))), (85, (I x29)), (86, (Bo (x29 == 0)))] rfl rfl <| rp rfl (p_call rfl rfl rfl rfl rfl (law12_joined_ok k a0 a1 a0.fWhen (x29 == 0)) (.inl rfl)) fun v32 => bind_end rfl) fun o33 => kga f3a14 rfl (fun (o35 : (List (List T_api_Term)) × Int) => [(16, (V.sl 0 1 (List.map sTerm o35.1))), (17, (I o35.2))]) (rd 7 [(91, (eCase a0)), (92, (V.ptr 3 0 5)), (93, (V.sl 0 1 (List.map sTerm a0.fWhen))), (94, (V.ptr 3 0 5)), (95, (V.sl 0 1 (List.map sTerm a0.fWhen))), (96, (I x29)), (97, (Bo (x29 == 0)))] rfl rfl <| rp rfl (p_call rfl rfl rfl rfl rfl (law12_joined_ok k a0 a0.fWhen a0.fWhen (x29 == 0)) (.inl rfl)) fun v34 => bind_end rfl) fun o35 => et k_assoc <| kr ⟨[(1, (V.sl 0 1 (List.map sTerm a1))), (2, (Sr a2)), (3, (Pt 3)), (11, (I x29)), (12, (V.sl 0 1 (List.map sTerm o31.1))), (13, (I o31.2)), (14, (V.sl 0 1 (List.map sTerm o33.1))), (16, (V.sl 0 1 (List.map sTerm o35.1))), (17, (I o35.2)), (105, (Bo (!((o31.2 == 0) == (o33.2 == 0)))))], [(3, vS 6 (eCase a0))], 136⟩ rfl <| kc rfl rfl (fun hc => ?_) fun hc => ?_
      · rw [hc]
        refine et k_assoc <| kr ⟨[(6, (Bo false))], [], 136⟩ rfl <| et k_ret <| et blk_ret <| et loop_ret <| et (hret _) ?_
        rfl
      · rw [hc]
        refine et k_skip <| kd f3a17 rfl (fun (o42 : Bool) => ⟨[(1, (V.sl 0 1 (List.map sTerm a1))), (2, (Sr a2)), (3, (Pt 3)), (11, (I x29)), (134, (Bo o42))], [(3, vS 6 (eCase a0))], 136⟩) ?_ fun o42 => ?_
        · refine et (regionE_regp (p := 29) (dk := true) (t := [(1, (V.sl 0 1 (List.map sTerm a1))), (2, (Sr a2)), (3, (Pt 3)), (11, (I x29)), (12, (V.sl 0 1 (List.map sTerm o31.1))), (13, (I o31.2)), (14, (V.sl 0 1 (List.map sTerm o33.1))), (16, (V.sl 0 1 (List.map sTerm o35.1))), (17, (I o35.2)), (105, (Bo false))]) (σ := [(3, vS 6 (eCase a0))]) (n := 136) rfl (by decide) (by decide) rfl) <| et (regp_adv (m := 3) (j := 3) (t' := [(1, (V.sl 0 1 (List.map sTerm a1))), (2, (Sr a2)), (3, (Pt 3)), (11, (I x29)), (12, (V.sl 0 1 (List.map sTerm o31.1))), (13, (I o31.2)), (14, (V.sl 0 1 (List.map sTerm o33.1))), (16, (V.sl 0 1 (List.map sTerm o35.1))), (17, (I o35.2)), (105, (Bo false)), (106, (I o31.2)), (107, (Bo (o31.2 == 0))), (108, (Bo (o31.2 == 0)))]) rfl rfl rfl) <| bifE (fun hc => ?_) fun hc => ?_
          · rw [hc]
            refine et (regp_adv (m := 3) (j := 6) (t' := [(1, (V.sl 0 1 (List.map sTerm a1))), (2, (Sr a2)), (3, (Pt 3)), (11, (I x29)), (12, (V.sl 0 1 (List.map sTerm o31.1))), (13, (I o31.2)), (14, (V.sl 0 1 (List.map sTerm o33.1))), (16, (V.sl 0 1 (List.map sTerm o35.1))), (17, (I o35.2)), (105, (Bo false)), (106, (I o31.2)), (107, (Bo true)), (108, (Bo true)), (109, (eCase a0)), (110, (V.sl 0 1 (List.map sTerm o31.1))), (111, (Sr a2))]) rfl rfl rfl) <| et (regp_pure (x := (law12_held k a0 o31.1 a2)) (w := fun v36 => (Bo v36)) rfl rfl rfl rfl rfl (p_call rfl rfl rfl rfl rfl (law12_held_ok k a0 o31.1 a2) (.inl rfl))) <| bindE fun v36 => et (putp_adv (m := 3) (j := 10) (t' := [(1, (V.sl 0 1 (List.map sTerm a1))), (2, (Sr a2)), (3, (Pt 3)), (11, (I x29)), (12, (V.sl 0 1 (List.map sTerm o31.1))), (13, (I o31.2)), (14, (V.sl 0 1 (List.map sTerm o33.1))), (16, (V.sl 0 1 (List.map sTerm o35.1))), (17, (I o35.2)), (105, (Bo false)), (106, (I o31.2)), (107, (Bo true)), (108, (Bo true)), (109, (eCase a0)), (110, (V.sl 0 1 (List.map sTerm o31.1))), (111, (Sr a2)), (112, (Bo v36)), (113, (eCase a0)), (114, (V.sl 0 1 (List.map sTerm o33.1))), (115, (Sr a2))]) rfl rfl rfl) <| et (regp_pure (x := (law12_held k a0 o33.1 a2)) (w := fun v37 => (Bo v37)) rfl rfl rfl rfl rfl (p_call rfl rfl rfl rfl rfl (law12_held_ok k a0 o33.1 a2) (.inl rfl))) <| bindE fun v37 => et (putp_adv (m := 3) (j := 14) (t' := [(1, (V.sl 0 1 (List.map sTerm a1))), (2, (Sr a2)), (3, (Pt 3)), (11, (I x29)), (12, (V.sl 0 1 (List.map sTerm o31.1))), (13, (I o31.2)), (14, (V.sl 0 1 (List.map sTerm o33.1))), (16, (V.sl 0 1 (List.map sTerm o35.1))), (17, (I o35.2)), (105, (Bo false)), (106, (I o31.2)), (107, (Bo true)), (108, (Bo true)), (109, (eCase a0)), (110, (V.sl 0 1 (List.map sTerm o31.1))), (111, (Sr a2)), (112, (Bo v36)), (113, (eCase a0)), (114, (V.sl 0 1 (List.map sTerm o33.1))), (115, (Sr a2)), (116, (Bo v37)), (117, (Bo (!(v36 == v37)))), (118, (Bo (!(v36 == v37)))), (119, (Bo (!(v36 == v37))))]) rfl rfl rfl) <| bifE (fun hc => ?_) fun hc => ?_
            · rw [hc]
              exact regp_end rfl
            · rw [hc]
              refine et (regp_adv (m := 3) (j := 17) (t' := [(1, (V.sl 0 1 (List.map sTerm a1))), (2, (Sr a2)), (3, (Pt 3)), (11, (I x29)), (12, (V.sl 0 1 (List.map sTerm o31.1))), (13, (I o31.2)), (14, (V.sl 0 1 (List.map sTerm o33.1))), (16, (V.sl 0 1 (List.map sTerm o35.1))), (17, (I o35.2)), (105, (Bo false)), (106, (I o31.2)), (107, (Bo true)), (108, (Bo true)), (109, (eCase a0)), (110, (V.sl 0 1 (List.map sTerm o31.1))), (111, (Sr a2)), (112, (Bo v36)), (113, (eCase a0)), (114, (V.sl 0 1 (List.map sTerm o33.1))), (115, (Sr a2)), (116, (Bo v37)), (117, (Bo false)), (118, (Bo false)), (119, (Bo false)), (120, (I o35.2)), (121, (Bo (o35.2 == 0))), (122, (Bo (o35.2 == 0)))]) rfl rfl rfl) <| bifE (fun hc => ?_) fun hc => ?_
              · rw [hc]
                exact et (regp_adv (m := 3) (j := 20) (t' := [(1, (V.sl 0 1 (List.map sTerm a1))), (2, (Sr a2)), (3, (Pt 3)), (11, (I x29)), (12, (V.sl 0 1 (List.map sTerm o31.1))), (13, (I o31.2)), (14, (V.sl 0 1 (List.map sTerm o33.1))), (16, (V.sl 0 1 (List.map sTerm o35.1))), (17, (I o35.2)), (105, (Bo false)), (106, (I o31.2)), (107, (Bo true)), (108, (Bo true)), (109, (eCase a0)), (110, (V.sl 0 1 (List.map sTerm o31.1))), (111, (Sr a2)), (112, (Bo v36)), (113, (eCase a0)), (114, (V.sl 0 1 (List.map sTerm o33.1))), (115, (Sr a2)), (116, (Bo v37)), (117, (Bo false)), (118, (Bo false)), (119, (Bo false)), (120, (I o35.2)), (121, (Bo true)), (122, (Bo true)), (123, (eCase a0)), (124, (V.sl 0 1 (List.map sTerm o35.1))), (125, (Sr a2))]) rfl rfl rfl) <| et (regp_pure (x := (law12_held k a0 o35.1 a2)) (w := fun v38 => (Bo v38)) rfl rfl rfl rfl rfl (p_call rfl rfl rfl rfl rfl (law12_held_ok k a0 o35.1 a2) (.inl rfl))) <| bindE fun v38 => et (putp_adv (m := 4) (j := 25) (t' := [(1, (V.sl 0 1 (List.map sTerm a1))), (2, (Sr a2)), (3, (Pt 3)), (11, (I x29)), (12, (V.sl 0 1 (List.map sTerm o31.1))), (13, (I o31.2)), (14, (V.sl 0 1 (List.map sTerm o33.1))), (16, (V.sl 0 1 (List.map sTerm o35.1))), (17, (I o35.2)), (105, (Bo false)), (106, (I o31.2)), (107, (Bo true)), (108, (Bo true)), (109, (eCase a0)), (110, (V.sl 0 1 (List.map sTerm o31.1))), (111, (Sr a2)), (112, (Bo v36)), (113, (eCase a0)), (114, (V.sl 0 1 (List.map sTerm o33.1))), (115, (Sr a2)), (116, (Bo v37)), (117, (Bo false)), (118, (Bo false)), (119, (Bo false)), (120, (I o35.2)), (121, (Bo true)), (122, (Bo true)), (123, (eCase a0)), (124, (V.sl 0 1 (List.map sTerm o35.1))), (125, (Sr a2)), (126, (Bo v38)), (127, (eCase a0)), (128, (V.ptr 3 0 5)), (129, (V.sl 0 1 (List.map sTerm a0.fWhen))), (130, (Sr a2))]) rfl rfl rfl) <| et (regp_pure (x := (law12_held k a0 a0.fWhen a2)) (w := fun v39 => (Bo v39)) rfl rfl rfl rfl rfl (p_call rfl rfl rfl rfl rfl (law12_held_ok k a0 a0.fWhen a2) (.inl rfl))) <| bindE fun v39 => regp_end rfl
              · rw [hc]
                exact regp_end rfl
          · rw [hc]
            refine et (regp_adv (m := 14) (j := 17) (t' := [(1, (V.sl 0 1 (List.map sTerm a1))), (2, (Sr a2)), (3, (Pt 3)), (11, (I x29)), (12, (V.sl 0 1 (List.map sTerm o31.1))), (13, (I o31.2)), (14, (V.sl 0 1 (List.map sTerm o33.1))), (16, (V.sl 0 1 (List.map sTerm o35.1))), (17, (I o35.2)), (105, (Bo false)), (106, (I o31.2)), (107, (Bo false)), (108, (Bo false)), (109, (V.tup [])), (110, (V.tup [])), (111, (V.tup [])), (112, (V.tup [])), (113, (V.tup [])), (114, (V.tup [])), (115, (V.tup [])), (116, (V.tup [])), (117, (V.tup [])), (118, (Bo false)), (119, (Bo false)), (120, (I o35.2)), (121, (Bo (o35.2 == 0))), (122, (Bo (o35.2 == 0)))]) rfl rfl rfl) <| bifE (fun hc => ?_) fun hc => ?_
            · rw [hc]
              exact et (regp_adv (m := 3) (j := 20) (t' := [(1, (V.sl 0 1 (List.map sTerm a1))), (2, (Sr a2)), (3, (Pt 3)), (11, (I x29)), (12, (V.sl 0 1 (List.map sTerm o31.1))), (13, (I o31.2)), (14, (V.sl 0 1 (List.map sTerm o33.1))), (16, (V.sl 0 1 (List.map sTerm o35.1))), (17, (I o35.2)), (105, (Bo false)), (106, (I o31.2)), (107, (Bo false)), (108, (Bo false)), (109, (V.tup [])), (110, (V.tup [])), (111, (V.tup [])), (112, (V.tup [])), (113, (V.tup [])), (114, (V.tup [])), (115, (V.tup [])), (116, (V.tup [])), (117, (V.tup [])), (118, (Bo false)), (119, (Bo false)), (120, (I o35.2)), (121, (Bo true)), (122, (Bo true)), (123, (eCase a0)), (124, (V.sl 0 1 (List.map sTerm o35.1))), (125, (Sr a2))]) rfl rfl rfl) <| et (regp_pure (x := (law12_held k a0 o35.1 a2)) (w := fun v40 => (Bo v40)) rfl rfl rfl rfl rfl (p_call rfl rfl rfl rfl rfl (law12_held_ok k a0 o35.1 a2) (.inl rfl))) <| bindE fun v40 => et (putp_adv (m := 4) (j := 25) (t' := [(1, (V.sl 0 1 (List.map sTerm a1))), (2, (Sr a2)), (3, (Pt 3)), (11, (I x29)), (12, (V.sl 0 1 (List.map sTerm o31.1))), (13, (I o31.2)), (14, (V.sl 0 1 (List.map sTerm o33.1))), (16, (V.sl 0 1 (List.map sTerm o35.1))), (17, (I o35.2)), (105, (Bo false)), (106, (I o31.2)), (107, (Bo false)), (108, (Bo false)), (109, (V.tup [])), (110, (V.tup [])), (111, (V.tup [])), (112, (V.tup [])), (113, (V.tup [])), (114, (V.tup [])), (115, (V.tup [])), (116, (V.tup [])), (117, (V.tup [])), (118, (Bo false)), (119, (Bo false)), (120, (I o35.2)), (121, (Bo true)), (122, (Bo true)), (123, (eCase a0)), (124, (V.sl 0 1 (List.map sTerm o35.1))), (125, (Sr a2)), (126, (Bo v40)), (127, (eCase a0)), (128, (V.ptr 3 0 5)), (129, (V.sl 0 1 (List.map sTerm a0.fWhen))), (130, (Sr a2))]) rfl rfl rfl) <| et (regp_pure (x := (law12_held k a0 a0.fWhen a2)) (w := fun v41 => (Bo v41)) rfl rfl rfl rfl rfl (p_call rfl rfl rfl rfl rfl (law12_held_ok k a0 a0.fWhen a2) (.inl rfl))) <| bindE fun v41 => regp_end rfl
            · rw [hc]
              exact regp_end rfl
        refine kcl rfl rfl (fun hc => ?_) fun hc => ?_
        · rw [hc]
          refine kr ⟨[(6, (Bo false))], [], 136⟩ rfl <| et k_lret <| et blk_ret <| et loop_ret <| et (hret _) ?_
          rfl
        · rw [hc]
          exact et k_lskip <| et blk_normal <| kl ⟨[(1, (V.sl 0 1 (List.map sTerm a1))), (2, (Sr a2)), (3, (Pt 3)), (11, (I (Go.IntKind.wrap .i64 (x29 + 1))))], [(3, vS 6 (eCase a0))], 136⟩ rfl <| et loop_normal <| ih (Go.IntKind.wrap .i64 (x29 + 1))
    · rw [hc]
      exact et k_exit <| et loop_exit <| hK0 x29
theorem law12_MatchOrders_ok (k : Nat) (a0 : T_progenylaw12_Case) (a1 : (List (List T_api_Term))) (a2 : Str) : EV k 3 [(eCase a0), (V.sl 0 1 (List.map sTerm a1)), (Sr a2)] = (law12_MatchOrders k a0 a1 a2).map law12_MatchOrders_fin := by
  cases k with
  | zero => rfl
  | succ k =>
    unfold law12_MatchOrders
    refine et (evF_succ (c := f3c) (N := 136) (regs := f3n) rfl func3 rfl (by decide) rfl rfl rfl) <| kr ⟨[(1, (V.sl 0 1 (List.map sTerm a1))), (2, (Sr a2)), (3, (Pt 3))], [(3, vS 6 (eCase a0))], 136⟩ rfl <| et k_assoc <| kga f3a1 rfl (fun (o4 : Bool) => [(34, (Bo o4))]) ?_ fun o4 => ?_
    · refine rd 2 [(18, (Pt 3)), (19, (eBase a0.fBase))] rfl rfl <| rp rfl (p_call rfl rfl rfl rfl rfl (law12_Large_ok k a0.fBase) (.inl rfl)) fun v1 => bd 4 [(20, (Bo v1)), (21, (Bo v1))] rfl rfl <| bifE (fun hc => ?_) fun hc => ?_
      · rw [hc]
        exact reg_end rfl
      · rw [hc]
        refine rd 6 [(22, (V.ptr 3 0 5)), (23, (V.sl 0 1 (List.map sTerm a0.fWhen)))] rfl rfl <| rp rfl (p_call rfl rfl rfl rfl rfl (law12_Long_ok k a0.fWhen) (.inl rfl)) fun v2 => bd 9 [(24, (Bo v2)), (25, (Bo v2)), (26, (Bo v2))] rfl rfl <| bifE (fun hc => ?_) fun hc => ?_
        · rw [hc]
          exact reg_end rfl
        · rw [hc]
          refine rd 10 [(27, (V.sl 0 1 (List.map sTerm a1)))] rfl rfl <| rp rfl (p_call rfl rfl rfl rfl rfl (law12_Long_ok k a1) (.inl rfl)) fun v3 => bd 13 [(28, (Bo v3)), (29, (Bo v3)), (30, (Bo v3))] rfl rfl <| bifE (fun hc => ?_) fun hc => ?_
          · rw [hc]
            exact reg_end rfl
          · rw [hc]
            exact reg_end rfl
    refine kc rfl rfl (fun hc => ?_) fun hc => ?_
    · rw [hc]
      refine et k_assoc <| kg f3a2 rfl (fun (o6 : Bool) => ⟨[(6, (Bo o6))], [], 136⟩) (rs rfl (p_call rfl rfl rfl rfl rfl (law12_Awake_ok k) (.inl rfl)) fun v5 => bind_end rfl) fun o6 => et k_ret ?_
      rfl
    · rw [hc]
      refine et k_skip <| et k_assoc <| kg f3a3 rfl (fun (o8 : Int) => ⟨[(1, (V.sl 0 1 (List.map sTerm a1))), (2, (Sr a2)), (3, (Pt 3)), (8, (I o8))], [(3, vS 6 (eCase a0))], 136⟩) (rd 7 [(37, (Pt 3)), (38, (eBase a0.fBase)), (39, (V.ptr 3 0 4)), (40, (I a0.fType)), (41, (V.ptr 3 0 5)), (42, (V.sl 0 1 (List.map sTerm a0.fWhen))), (43, (Sr a2))] rfl rfl <| rp rfl (p_call rfl rfl rfl rfl rfl (ref12_Holds_ok k a0.fBase a0.fType a0.fWhen a2) (.inl rfl)) fun v7 => bind_end rfl) fun o8 => et k_assoc <| kr ⟨[(1, (V.sl 0 1 (List.map sTerm a1))), (2, (Sr a2)), (3, (Pt 3)), (48, (Bo (o8 != 0)))], [(3, vS 6 (eCase a0))], 136⟩ rfl <| kc rfl rfl (fun hc => ?_) fun hc => ?_
      · rw [hc]
        refine et k_assoc <| kg f3a5 rfl (fun (o10 : Bool) => ⟨[(6, (Bo o10))], [], 136⟩) (rs rfl (p_call rfl rfl rfl rfl rfl (law12_Awake_ok k) (.inl rfl)) fun v9 => bind_end rfl) fun o10 => et k_ret ?_
        rfl
      · rw [hc]
        refine et k_skip <| et k_assoc <| kg f3a6 rfl (fun (o12 : Bool × Int) => ⟨[(1, (V.sl 0 1 (List.map sTerm a1))), (2, (Sr a2)), (3, (Pt 3)), (9, (Bo o12.1)), (10, (I o12.2))], [(3, vS 6 (eCase a0))], 136⟩) (rd 5 [(51, (Pt 3)), (52, (eBase a0.fBase)), (53, (V.ptr 3 0 4)), (54, (I a0.fType)), (55, (V.sl 0 1 (List.map sTerm a1)))] rfl rfl <| rp rfl (p_call rfl rfl rfl rfl rfl (ref12_Valid_ok k a0.fBase a0.fType a1) (.inl rfl)) fun v11 => bind_end rfl) fun o12 => et k_assoc <| kg f3a7 rfl (fun (o13 : Bool) => ⟨[(1, (V.sl 0 1 (List.map sTerm a1))), (2, (Sr a2)), (3, (Pt 3)), (64, (Bo o13))], [(3, vS 6 (eCase a0))], 136⟩) ?_ fun o13 => ?_
        · refine rd 3 [(59, (I o12.2)), (60, (Bo (o12.2 != 0))), (61, (Bo (o12.2 != 0)))] rfl rfl <| bifE (fun hc => ?_) fun hc => ?_
          · rw [hc]
            exact reg_end rfl
          · rw [hc]
            exact reg_end rfl
        refine kc rfl rfl (fun hc => ?_) fun hc => ?_
        · rw [hc]
          refine et k_assoc <| kg f3a8 rfl (fun (o15 : Bool) => ⟨[(6, (Bo o15))], [], 136⟩) (rs rfl (p_call rfl rfl rfl rfl rfl (law12_Awake_ok k) (.inl rfl)) fun v14 => bind_end rfl) fun o15 => et k_ret ?_
          rfl
        · rw [hc]
          refine et k_skip <| et k_assoc <| kr ⟨[(1, (V.sl 0 1 (List.map sTerm a1))), (2, (Sr a2)), (3, (Pt 3)), (11, (I 0))], [(3, vS 6 (eCase a0))], 136⟩ rfl <| et (k_block rfl) <| et k_loop ?_
          refine law12_MatchOrders_L1_ok k a0 a1 a2 _ _ ?h_law12_MatchOrders_L1_0 ?hr_law12_MatchOrders_L1 k 0
          · intro y43
            refine et blk_exit <| kg f3a19 rfl (fun (o45 : Bool) => ⟨[(6, (Bo o45))], [], 136⟩) (rs rfl (p_call rfl rfl rfl rfl rfl (law12_Awake_ok k) (.inl rfl)) fun v44 => bind_end rfl) fun o45 => et k_lret ?_
            rfl
          · intro s; exact rfl
end
end Go.AE
