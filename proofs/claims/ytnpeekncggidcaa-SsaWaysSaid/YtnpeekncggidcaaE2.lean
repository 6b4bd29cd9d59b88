/- The program, function by function: the evaluator comes to the typed functions. Conditions: none. -/
import Derived.Test.YtnpeekncggidcaaA3
import Derived.KernelRfl
import Derived.Test.YtnpeekncggidcaaProg
import Derived.Test.YtnpeekncggidcaaB1
import Derived.Test.YtnpeekncggidcaaE1
namespace Go.AE
open Go.Proofs.Try Go.Sh
set_option linter.unusedSimpArgs false
set_option linter.unusedVariables false
set_option maxRecDepth 100000
set_option maxHeartbeats 4000000
noncomputable section
theorem ssa_Format_ok (k : Nat) (a0 : T_api_Base) (a1 : T_api_Arg) : EV k 14 [(eBase a0), (eArg a1)] = (ssa_Format k a0 a1).map ssa_Format_fin := by
  cases k with
  | zero => rfl
  | succ k =>
    unfold ssa_Format
    refine et (evF_succ (c := f14c) (N := 60) (regs := f14n) rfl func14 rfl (by decide) rfl rfl rfl) <| kr ⟨[(2, (Pt 2)), (3, (Pt 3))], [(2, vS 4 (eBase a0)), (3, vS 3 (eArg a1))], 60⟩ rfl <| kga f14a1 rfl (fun (o2 : (List Int) × Int) => [(6, (sI o2.1)), (7, (I o2.2))]) (rd 3 [(11, (eBase a0)), (12, (eArg a1)), (13, (sArg (([a1] : List T_api_Arg))))] rfl rfl <| rp rfl (p_call rfl rfl rfl rfl rfl (ssa_Types_ok k a0 ([a1] : List T_api_Arg)) (.inl rfl)) fun v1 => bind_end rfl) fun o2 => et k_assoc <| kra [(18, (Bo (o2.2 != 0)))] rfl <| kc rfl rfl (fun hc => ?_) fun hc => ?_
    · rw [hc]
      refine et k_assoc <| kr ⟨[(4, (Sr ([] : Str))), (5, (I o2.2))], [], 60⟩ rfl <| et k_ret ?_
      rfl
    · rw [hc]
      refine et k_skip <| kd f14a4 rfl (fun (o5 : Str) => ⟨[(2, (Pt 2)), (3, (Pt 3)), (6, (sI o2.1)), (8, (Sr o5))], [(2, vS 4 (eBase a0)), (3, vS 3 (eArg a1))], 60⟩) (et (regionE_regp (p := 9) (dk := true) (t := [(2, (Pt 2)), (3, (Pt 3)), (6, (sI o2.1)), (7, (I o2.2)), (18, (Bo false))]) (σ := [(2, vS 4 (eBase a0)), (3, vS 3 (eArg a1))]) (n := 60) rfl (by decide) (by decide) rfl) <| et (regp_adv (m := 6) (j := 6) (t' := [(2, (Pt 2)), (3, (Pt 3)), (6, (sI o2.1)), (7, (I o2.2)), (18, (Bo false)), (20, (Pt 3)), (21, (Sr a1.fSegment)), (22, (Pt 3)), (23, (Sr a1.fSegment)), (24, (I (a1.fSegment.length : Int))), (25, (I (Go.IntKind.wrap .i64 (8 - (a1.fSegment.length : Int)))))]) rfl rfl rfl) <| et (regp_pure (x := (strings_Repeat k ([32] : Str) (Go.IntKind.wrap .i64 (8 - (a1.fSegment.length : Int))))) (w := fun v3 => (Sr v3)) rfl rfl rfl rfl rfl (p_call rfl rfl rfl rfl rfl (strings_Repeat_ok k ([32] : Str) (Go.IntKind.wrap .i64 (8 - (a1.fSegment.length : Int)))) (.inl rfl))) <| bindE fun v3 => et (putp_adv (m := 0) (j := 7) (t' := [(2, (Pt 2)), (3, (Pt 3)), (6, (sI o2.1)), (7, (I o2.2)), (18, (Bo false)), (20, (Pt 3)), (21, (Sr a1.fSegment)), (22, (Pt 3)), (23, (Sr a1.fSegment)), (24, (I (a1.fSegment.length : Int))), (25, (I (Go.IntKind.wrap .i64 (8 - (a1.fSegment.length : Int))))), (26, (Sr v3))]) rfl rfl rfl) <| et (regp_pure (x := (cat a1.fSegment v3)) (w := fun v4 => (Sr v4)) rfl rfl rfl rfl rfl (p_cat rfl rfl rfl)) <| bind_self fun v4 => regp_end rfl) fun o5 => et k_assoc <| kra [(30, (Bo (!(a1.fCodes == ([] : Str)))))] rfl <| kc rfl rfl (fun hc => ?_) fun hc => ?_
      · rw [hc]
        refine kg f14a6 rfl (fun (o8 : Str) => ⟨[(2, (Pt 2)), (3, (Pt 3)), (6, (sI o2.1)), (8, (Sr o8))], [(2, vS 4 (eBase a0)), (3, vS 3 (eArg a1))], 60⟩) (rd 3 [(31, (Sr o5)), (32, (V.ptr 3 0 1)), (33, (Sr a1.fCodes))] rfl rfl <| rp rfl (p_cat rfl rfl rfl) fun v6 => bd 4 [(34, (Sr v6))] rfl rfl <| rs rfl (p_cat rfl rfl rfl) fun v7 => bind_end rfl) fun o8 => et k_assoc <| krp f14a7 rfl ⟨[(2, (Pt 2)), (3, (Pt 3)), (6, (sI o2.1)), (8, (Sr o8)), (39, (Bo ((a1.fWhen.length : Int) == 0)))], [(2, vS 4 (eBase a0)), (3, vS 3 (eArg a1))], 60⟩ ?_ ?_
        · exact rd 2 [(36, (V.ptr 3 0 2)), (37, (V.sl 0 1 (List.map sTerm a1.fWhen)))] rfl rfl <| rl rfl (p_len (e := sTerm) rfl rfl rfl rfl rfl rfl underlying39) <| bind_end rfl
        refine kc rfl rfl (fun hc => ?_) fun hc => ?_
        · rw [hc]
          refine et k_assoc <| kg f14a8 rfl (fun (o10 : Str × Int) => ⟨[(4, (Sr o10.1)), (5, (I o10.2))], [], 60⟩) (rd 1 [(40, (Sr o8))] rfl rfl <| rp rfl (p_cat rfl rfl rfl) fun v9 => bind_end rfl) fun o10 => et k_ret ?_
          rfl
        · rw [hc]
          refine et k_skip <| kd f14a9 rfl (fun (o13 : Int × Str) => ⟨[(7, (I o13.1)), (8, (Sr o8)), (9, (Sr o13.2))], [], 60⟩) (et (regionE_regp (p := 12) (dk := true) (t := [(2, (Pt 2)), (3, (Pt 3)), (6, (sI o2.1)), (8, (Sr o8)), (39, (Bo false))]) (σ := [(2, vS 4 (eBase a0)), (3, vS 3 (eArg a1))]) (n := 60) rfl (by decide) (by decide) rfl) <| et (regp_adv (m := 2) (j := 2) (t' := [(2, (Pt 2)), (3, (Pt 3)), (6, (sI o2.1)), (8, (Sr o8)), (39, (Bo false)), (43, (eBase a0)), (44, (sI o2.1))]) rfl rfl rfl) <| et (regp_pure (x := (idx o2.1 0)) (w := fun v11 => (Pr (I v11))) rfl rfl rfl rfl rfl (p_index (e := I) rfl rfl rfl underlying33 rfl (by decide))) <| bindE fun v11 => et (putp_adv (m := 3) (j := 6) (t' := [(2, (Pt 2)), (3, (Pt 3)), (6, (sI o2.1)), (8, (Sr o8)), (39, (Bo false)), (43, (eBase a0)), (44, (sI o2.1)), (45, (Pr (I v11))), (46, (I v11)), (47, (V.ptr 3 0 2)), (48, (V.sl 0 1 (List.map sTerm a1.fWhen)))]) rfl rfl rfl) <| et (regp_pure (x := (match_Format k a0 v11 a1.fWhen)) (w := fun v12 => (V.tup [(Sr v12.1), (I v12.2)])) rfl rfl rfl rfl rfl (p_call rfl rfl rfl rfl rfl (match_Format_ok k a0 v11 a1.fWhen) (.inl rfl))) <| bindE fun v12 => regp_end rfl) fun o13 => et k_assoc <| kra [(53, (Bo (o13.1 != 0)))] rfl <| kc rfl rfl (fun hc => ?_) fun hc => ?_
          · rw [hc]
            refine et k_assoc <| kr ⟨[(4, (Sr ([] : Str))), (5, (I o13.1))], [], 60⟩ rfl <| et k_ret ?_
            rfl
          · rw [hc]
            refine et k_skip <| kg f14a12 rfl (fun (o17 : Str × Int) => ⟨[(4, (Sr o17.1)), (5, (I o17.2))], [], 60⟩) (rd 1 [(55, (Sr o8))] rfl rfl <| rp rfl (p_cat rfl rfl rfl) fun v14 => bd 3 [(56, (Sr v14)), (57, (Sr o13.2))] rfl rfl <| rp rfl (p_cat rfl rfl rfl) fun v15 => bd 4 [(58, (Sr v15))] rfl rfl <| rp rfl (p_cat rfl rfl rfl) fun v16 => bind_end rfl) fun o17 => et k_lret ?_
            rfl
      · rw [hc]
        refine et k_skip <| et k_assoc <| krp f14a7 rfl ⟨[(2, (Pt 2)), (3, (Pt 3)), (6, (sI o2.1)), (8, (Sr o5)), (39, (Bo ((a1.fWhen.length : Int) == 0)))], [(2, vS 4 (eBase a0)), (3, vS 3 (eArg a1))], 60⟩ ?_ ?_
        · exact rd 2 [(36, (V.ptr 3 0 2)), (37, (V.sl 0 1 (List.map sTerm a1.fWhen)))] rfl rfl <| rl rfl (p_len (e := sTerm) rfl rfl rfl rfl rfl rfl underlying39) <| bind_end rfl
        refine kc rfl rfl (fun hc => ?_) fun hc => ?_
        · rw [hc]
          refine et k_assoc <| kg f14a8 rfl (fun (o19 : Str × Int) => ⟨[(4, (Sr o19.1)), (5, (I o19.2))], [], 60⟩) (rd 1 [(40, (Sr o5))] rfl rfl <| rp rfl (p_cat rfl rfl rfl) fun v18 => bind_end rfl) fun o19 => et k_ret ?_
          rfl
        · rw [hc]
          refine et k_skip <| kd f14a9 rfl (fun (o22 : Int × Str) => ⟨[(7, (I o22.1)), (8, (Sr o5)), (9, (Sr o22.2))], [], 60⟩) (et (regionE_regp (p := 12) (dk := true) (t := [(2, (Pt 2)), (3, (Pt 3)), (6, (sI o2.1)), (8, (Sr o5)), (39, (Bo false))]) (σ := [(2, vS 4 (eBase a0)), (3, vS 3 (eArg a1))]) (n := 60) rfl (by decide) (by decide) rfl) <| et (regp_adv (m := 2) (j := 2) (t' := [(2, (Pt 2)), (3, (Pt 3)), (6, (sI o2.1)), (8, (Sr o5)), (39, (Bo false)), (43, (eBase a0)), (44, (sI o2.1))]) rfl rfl rfl) <| et (regp_pure (x := (idx o2.1 0)) (w := fun v20 => (Pr (I v20))) rfl rfl rfl rfl rfl (p_index (e := I) rfl rfl rfl underlying33 rfl (by decide))) <| bindE fun v20 => et (putp_adv (m := 3) (j := 6) (t' := [(2, (Pt 2)), (3, (Pt 3)), (6, (sI o2.1)), (8, (Sr o5)), (39, (Bo false)), (43, (eBase a0)), (44, (sI o2.1)), (45, (Pr (I v20))), (46, (I v20)), (47, (V.ptr 3 0 2)), (48, (V.sl 0 1 (List.map sTerm a1.fWhen)))]) rfl rfl rfl) <| et (regp_pure (x := (match_Format k a0 v20 a1.fWhen)) (w := fun v21 => (V.tup [(Sr v21.1), (I v21.2)])) rfl rfl rfl rfl rfl (p_call rfl rfl rfl rfl rfl (match_Format_ok k a0 v20 a1.fWhen) (.inl rfl))) <| bindE fun v21 => regp_end rfl) fun o22 => et k_assoc <| kra [(53, (Bo (o22.1 != 0)))] rfl <| kc rfl rfl (fun hc => ?_) fun hc => ?_
          · rw [hc]
            refine et k_assoc <| kr ⟨[(4, (Sr ([] : Str))), (5, (I o22.1))], [], 60⟩ rfl <| et k_ret ?_
            rfl
          · rw [hc]
            refine et k_skip <| kg f14a12 rfl (fun (o26 : Str × Int) => ⟨[(4, (Sr o26.1)), (5, (I o26.2))], [], 60⟩) (rd 1 [(55, (Sr o5))] rfl rfl <| rp rfl (p_cat rfl rfl rfl) fun v23 => bd 3 [(56, (Sr v23)), (57, (Sr o22.2))] rfl rfl <| rp rfl (p_cat rfl rfl rfl) fun v24 => bd 4 [(58, (Sr v24))] rfl rfl <| rp rfl (p_cat rfl rfl rfl) fun v25 => bind_end rfl) fun o26 => et k_lret ?_
            rfl
def law14_Awake_fin : Bool → V × List V := fun r => ((Bo r), [])
theorem law14_Awake_ok (k : Nat)  : EV k 8 [] = (law14_Awake k).map law14_Awake_fin := by
  cases k with
  | zero => rfl
  | succ k =>
    unfold law14_Awake
    refine et (evF_succ (c := f8c) (N := 36) (regs := f8n) rfl func8 rfl (by decide) rfl rfl rfl) <| kra [] rfl <| kr ⟨[(1, (Pt 1))], [(1, ⟨false, 3, [(eArg ({ fSegment := ([79, 82, 68, 69, 82] : Str), fCodes := ([68] : Str), fWhen := ([([({ fField := ([79, 82, 68, 78, 79] : Str), fOp := 1, fValue := ([48, 48, 48, 53] : Str) } : T_api_Term)] : List T_api_Term)] : List (List T_api_Term)) } : T_api_Arg))]⟩)], 36⟩ rfl <| kd f8a2 rfl (fun (o3 : Str × Int) => ⟨[(2, (Sr o3.1)), (3, (I o3.2))], [], 36⟩) (et (regionE_regp (p := 8) (dk := true) (t := [(1, (Pt 1))]) (σ := [(1, ⟨false, 3, [(eArg ({ fSegment := ([79, 82, 68, 69, 82] : Str), fCodes := ([68] : Str), fWhen := ([([({ fField := ([79, 82, 68, 78, 79] : Str), fOp := 1, fValue := ([48, 48, 48, 53] : Str) } : T_api_Term)] : List T_api_Term)] : List (List T_api_Term)) } : T_api_Arg))]⟩)]) (n := 36) rfl (by decide) (by decide) rfl) <| et (regp_pure (x := (law14_shop k)) (w := fun v1 => (eBase v1)) rfl rfl rfl rfl rfl (p_call rfl rfl rfl rfl rfl (law14_shop_ok k) (.inl rfl))) <| bindE fun v1 => et (putp_adv (m := 1) (j := 2) (t' := [(1, (Pt 1)), (11, (eBase v1)), (12, (eArg ({ fSegment := ([79, 82, 68, 69, 82] : Str), fCodes := ([68] : Str), fWhen := ([([({ fField := ([79, 82, 68, 78, 79] : Str), fOp := 1, fValue := ([48, 48, 48, 53] : Str) } : T_api_Term)] : List T_api_Term)] : List (List T_api_Term)) } : T_api_Arg)))]) rfl rfl rfl) <| et (regp_pure (x := (ssa_Format k v1 ({ fSegment := ([79, 82, 68, 69, 82] : Str), fCodes := ([68] : Str), fWhen := ([([({ fField := ([79, 82, 68, 78, 79] : Str), fOp := 1, fValue := ([48, 48, 48, 53] : Str) } : T_api_Term)] : List T_api_Term)] : List (List T_api_Term)) } : T_api_Arg))) (w := fun v2 => (V.tup [(Sr v2.1), (I v2.2)])) rfl rfl rfl rfl rfl (p_call rfl rfl rfl rfl rfl (ssa_Format_ok k v1 ({ fSegment := ([79, 82, 68, 69, 82] : Str), fCodes := ([68] : Str), fWhen := ([([({ fField := ([79, 82, 68, 78, 79] : Str), fOp := 1, fValue := ([48, 48, 48, 53] : Str) } : T_api_Term)] : List T_api_Term)] : List (List T_api_Term)) } : T_api_Arg)) (.inl rfl))) <| bindE fun v2 => regp_end rfl) fun o3 => kga f8a3 rfl (fun (o6 : Str × Int) => [(4, (Sr o6.1)), (5, (I o6.2))]) (rp rfl (p_call rfl rfl rfl rfl rfl (law14_shop_ok k) (.inl rfl)) fun v4 => bd 2 [(17, (eBase v4)), (18, (eArg ({ fSegment := ([67, 85, 83, 84] : Str), fCodes := [], fWhen := ([] : List (List T_api_Term)) } : T_api_Arg)))] rfl rfl <| rp rfl (p_call rfl rfl rfl rfl rfl (ssa_Format_ok k v4 ({ fSegment := ([67, 85, 83, 84] : Str), fCodes := [], fWhen := ([] : List (List T_api_Term)) } : T_api_Arg)) (.inl rfl)) fun v5 => bind_end rfl) fun o6 => kg f8a4 rfl (fun (o7 : Bool) => ⟨[(0, (Bo o7))], [], 36⟩) ?_ fun o7 => ?_
    · refine rd 3 [(22, (I o3.2)), (23, (Bo (o3.2 == 0))), (24, (Bo (o3.2 == 0)))] rfl rfl <| bifE (fun hc => ?_) fun hc => ?_
      · rw [hc]
        refine rd 7 [(25, (I o6.2)), (26, (Bo (o6.2 == 0))), (27, (Bo (o6.2 == 0))), (28, (Bo (o6.2 == 0)))] rfl rfl <| bifE (fun hc => ?_) fun hc => ?_
        · rw [hc]
          refine rd 11 [(29, (Sr o3.1)), (30, (Bo (o3.1 == ([79, 82, 68, 69, 82, 32, 32, 32, 42, 68, 40, 79, 82, 68, 78, 79, 32, 32, 32, 61, 32, 48, 48, 48, 53, 41] : Str)))), (31, (Bo (o3.1 == ([79, 82, 68, 69, 82, 32, 32, 32, 42, 68, 40, 79, 82, 68, 78, 79, 32, 32, 32, 61, 32, 48, 48, 48, 53, 41] : Str)))), (32, (Bo (o3.1 == ([79, 82, 68, 69, 82, 32, 32, 32, 42, 68, 40, 79, 82, 68, 78, 79, 32, 32, 32, 61, 32, 48, 48, 48, 53, 41] : Str))))] rfl rfl <| bifE (fun hc => ?_) fun hc => ?_
          · rw [hc]
            exact reg_end rfl
          · rw [hc]
            exact reg_end rfl
        · rw [hc]
          exact reg_end rfl
      · rw [hc]
        exact reg_end rfl
    refine et k_lret ?_
    rfl
def ref11_isType_fin : Bool → V × List V := fun r => ((Bo r), [])
theorem ref11_isType_ok (k : Nat) (a0 : T_api_Base) (a1 : Int) : EV k 46 [(eBase a0), (I a1)] = (ref11_isType k a0 a1).map ref11_isType_fin := by
  cases k with
  | zero => rfl
  | succ k =>
    unfold ref11_isType
    refine et (evF_succ (c := f46c) (N := 14) (regs := f46n) rfl func46 rfl (by decide) rfl rfl rfl) <| kr ⟨[(1, (I a1)), (2, (Pt 2))], [(2, vS 4 (eBase a0))], 14⟩ rfl <| kg f46a1 rfl (fun (o1 : Bool) => ⟨[(4, (Bo o1))], [], 14⟩) ?_ fun o1 => ?_
    · refine rd 3 [(5, (I a1)), (6, (Bo (decide (a1 ≥ 0)))), (7, (Bo (decide (a1 ≥ 0))))] rfl rfl <| bifE (fun hc => ?_) fun hc => ?_
      · rw [hc]
        exact rd 6 [(8, (I a1)), (9, (V.ptr 2 0 2)), (10, (sType a0.fTypes))] rfl rfl <| rl rfl (p_len (e := eType) rfl rfl rfl rfl rfl rfl underlying22) <| bind_end rfl
      · rw [hc]
        exact reg_end rfl
    refine et k_lret ?_
    rfl
def ref11_asked_fin : Int → V × List V := fun r => ((I r), [])
theorem ref11_asked_L1_ok (k : Nat) (a0 : T_api_Base) (a1 : (List Int))  (K0 : Int → Option Int) (Kst : X × St → Option (V × List V)) (hK0 : ∀ (y0 : Int), Kst (X.exit 0, ⟨[(1, (sI a1)), (2, (Pt 2)), (5, (I y0)), (12, (Bo false))], [(2, vS 4 (eBase a0))], 22⟩) = (K0 y0).map ref11_asked_fin) (hret : ∀ s, Kst (X.ret, s) = endK prog 22 [(eBase a0), (sI a1)] [] [.tmp 4] (X.ret, s)) :
    ∀ (m : Nat) (x6 : Int), (iter (exec prog (EV k) f29n k f29b0) m ⟨[(1, (sI a1)), (2, (Pt 2)), (5, (I x6))], [(2, vS 4 (eBase a0))], 22⟩).bind Kst = (ref11_asked_L1 k a0 a1 K0 m x6).map ref11_asked_fin := by
  intro m
  induction m with
  | zero => intros; rfl
  | succ m ih =>
    intro x6
    unfold ref11_asked_L1
    refine et k_round <| et k_assoc <| krp f29a4 rfl ⟨[(1, (sI a1)), (2, (Pt 2)), (5, (I x6)), (12, (Bo (decide (x6 < (a1.length : Int)))))], [(2, vS 4 (eBase a0))], 22⟩ ?_ ?_
    · exact rd 2 [(9, (I x6)), (10, (sI a1))] rfl rfl <| rl rfl (p_len (e := I) rfl rfl rfl rfl rfl rfl underlying33) <| bind_end rfl
    refine kc rfl rfl (fun hc => ?_) fun hc => ?_
    · rw [hc]
      refine et k_skip <| et (k_block rfl) <| kd f29a6 rfl (fun (o9 : Bool) => ⟨[(1, (sI a1)), (2, (Pt 2)), (5, (I x6)), (21, (Bo o9))], [(2, vS 4 (eBase a0))], 22⟩) (et (regionE_regp (p := 7) (dk := true) (t := [(1, (sI a1)), (2, (Pt 2)), (5, (I x6)), (12, (Bo true))]) (σ := [(2, vS 4 (eBase a0))]) (n := 22) rfl (by decide) (by decide) rfl) <| et (regp_adv (m := 3) (j := 3) (t' := [(1, (sI a1)), (2, (Pt 2)), (5, (I x6)), (12, (Bo true)), (15, (eBase a0)), (16, (sI a1)), (17, (I x6))]) rfl rfl rfl) <| et (regp_pure (x := (idx a1 x6)) (w := fun v7 => (Pr (I v7))) rfl rfl rfl rfl rfl (p_index (e := I) rfl rfl rfl underlying33 rfl (by decide))) <| bindE fun v7 => et (putp_adv (m := 1) (j := 5) (t' := [(1, (sI a1)), (2, (Pt 2)), (5, (I x6)), (12, (Bo true)), (15, (eBase a0)), (16, (sI a1)), (17, (I x6)), (18, (Pr (I v7))), (19, (I v7))]) rfl rfl rfl) <| et (regp_pure (x := (ref11_isType k a0 v7)) (w := fun v8 => (Bo v8)) rfl rfl rfl rfl rfl (p_call rfl rfl rfl rfl rfl (ref11_isType_ok k a0 v7) (.inl rfl))) <| bindE fun v8 => regp_end rfl) fun o9 => kcl rfl rfl (fun hc => ?_) fun hc => ?_
      · rw [hc]
        refine kr ⟨[(4, (I 2))], [], 22⟩ rfl <| et k_lret <| et blk_ret <| et loop_ret <| et (hret _) ?_
        rfl
      · rw [hc]
        exact et k_lskip <| et blk_normal <| kl ⟨[(1, (sI a1)), (2, (Pt 2)), (5, (I (Go.IntKind.wrap .i64 (x6 + 1))))], [(2, vS 4 (eBase a0))], 22⟩ rfl <| et loop_normal <| ih (Go.IntKind.wrap .i64 (x6 + 1))
    · rw [hc]
      exact et k_exit <| et loop_exit <| hK0 x6
theorem ref11_asked_ok (k : Nat) (a0 : T_api_Base) (a1 : (List Int)) : EV k 29 [(eBase a0), (sI a1)] = (ref11_asked k a0 a1).map ref11_asked_fin := by
  cases k with
  | zero => rfl
  | succ k =>
    unfold ref11_asked
    refine et (evF_succ (c := f29c) (N := 22) (regs := f29n) rfl func29 rfl (by decide) rfl rfl rfl) <| kr ⟨[(1, (sI a1)), (2, (Pt 2))], [(2, vS 4 (eBase a0))], 22⟩ rfl <| et k_assoc <| kga f29a1 rfl (fun (o2 : Bool) => [(8, (Bo o2))]) (rd 1 [(6, (eBase a0))] rfl rfl <| rp rfl (p_call rfl rfl rfl rfl rfl (ref11_Valid_ok k a0) (.inl rfl)) fun v1 => bind_end rfl) fun o2 => kc rfl rfl (fun hc => ?_) fun hc => ?_
    · rw [hc]
      refine et k_assoc <| kr ⟨[(4, (I 100))], [], 22⟩ rfl <| et k_ret ?_
      rfl
    · rw [hc]
      refine et k_skip <| et k_assoc <| kr ⟨[(1, (sI a1)), (2, (Pt 2)), (5, (I 0))], [(2, vS 4 (eBase a0))], 22⟩ rfl <| et (k_block rfl) <| et k_loop ?_
      refine ref11_asked_L1_ok k a0 a1 _ _ ?h_ref11_asked_L1_0 ?hr_ref11_asked_L1 k 0
      · intro y10
        refine et blk_exit <| kr ⟨[(4, (I 0))], [], 22⟩ rfl <| et k_lret ?_
        rfl
      · intro s; exact rfl
def ref11_Way_fin : ((List Int) × Int) → V × List V := fun r => (.tup [(sI r.1), (I r.2)], [])
theorem ref11_Way_ok (k : Nat) (a0 : T_api_Base) (a1 : Int) : EV k 16 [(eBase a0), (I a1)] = (ref11_Way k a0 a1).map ref11_Way_fin := by
  cases k with
  | zero => rfl
  | succ k =>
    unfold ref11_Way
    refine et (evF_succ (c := f16c) (N := 17) (regs := f16n) rfl func16 rfl (by decide) rfl rfl rfl) <| kr ⟨[(1, (I a1)), (2, (Pt 2))], [(2, vS 4 (eBase a0))], 17⟩ rfl <| et k_assoc <| kga f16a1 rfl (fun (o2 : Int) => [(6, (I o2))]) (rd 3 [(7, (eBase a0)), (8, (I a1)), (9, (sI (([a1] : List Int))))] rfl rfl <| rs rfl (p_call rfl rfl rfl rfl rfl (ref11_asked_ok k a0 ([a1] : List Int)) (.inl rfl)) fun v1 => bind_end rfl) fun o2 => et k_assoc <| kra [(12, (Bo (o2 != 0)))] rfl <| kc rfl rfl (fun hc => ?_) fun hc => ?_
    · rw [hc]
      refine et k_assoc <| kr ⟨[(4, (sI (([] : List Int)))), (5, (I o2))], [], 17⟩ rfl <| et k_ret ?_
      rfl
    · rw [hc]
      refine et k_skip <| kg f16a4 rfl (fun (o4 : (List Int) × Int) => ⟨[(4, (sI o4.1)), (5, (I o4.2))], [], 17⟩) (rd 2 [(14, (eBase a0)), (15, (I a1))] rfl rfl <| rp rfl (p_call rfl rfl rfl rfl rfl (ref11_way_ok k a0 a1) (.inl rfl)) fun v3 => bind_end rfl) fun o4 => et k_lret ?_
      rfl
def ssa_Check_fin : (Str × Int) → V × List V := fun r => (.tup [(Sr r.1), (I r.2)], [])
theorem ssa_Check_ok (k : Nat) (a0 : T_api_Base) (a1 : (List T_api_Arg)) : EV k 9 [(eBase a0), (sArg a1)] = (ssa_Check k a0 a1).map ssa_Check_fin := by
  cases k with
  | zero => rfl
  | succ k =>
    unfold ssa_Check
    refine et (evF_succ (c := f9c) (N := 18) (regs := f9n) rfl func9 rfl (by decide) rfl rfl rfl) <| kr ⟨[(1, (sArg a1)), (2, (Pt 2))], [(2, vS 4 (eBase a0))], 18⟩ rfl <| et k_assoc <| kga f9a1 rfl (fun (o2 : Bool) => [(10, (Bo o2))]) (rd 1 [(8, (eBase a0))] rfl rfl <| rp rfl (p_call rfl rfl rfl rfl rfl (dbd_Valid_ok k a0) (.inl rfl)) fun v1 => bind_end rfl) fun o2 => kc rfl rfl (fun hc => ?_) fun hc => ?_
    · rw [hc]
      refine et k_assoc <| kr ⟨[(4, (Sr ([] : Str))), (5, (I 100))], [], 18⟩ rfl <| et k_ret ?_
      rfl
    · rw [hc]
      refine et k_skip <| kg f9a3 rfl (fun (o4 : Str) => ⟨[(6, (Sr o4))], [], 18⟩) (rd 2 [(12, (eBase a0)), (13, (sArg a1))] rfl rfl <| rp rfl (p_call rfl rfl rfl rfl rfl (ssa_check_ok k a0 a1) (.inl rfl)) fun v3 => bind_end rfl) fun o4 => kr ⟨[(4, (Sr o4)), (5, (I 0))], [], 18⟩ rfl <| et k_lret ?_
      rfl
def law14_SsaWays_fin : Bool → V × List V := fun r => ((Bo r), [])
theorem law14_SsaWays_L1_ok (k : Nat) (a0 : T_api_Base) (a1 : Int) (a2 : Int) (o8 : (List Int))  (K0 : (List T_api_Arg) → (List T_api_Arg) → (List Int) → Int → Option Bool) (Kst : X × St → Option (V × List V)) (hK0 : ∀ (y0 : (List T_api_Arg)) (y1 : (List T_api_Arg)) (y2 : (List Int)) (y3 : Int), Kst (X.exit 0, ⟨[(2, (V.int .u8 a2)), (3, (Pt 3)), (7, (sI o8)), (9, (V.sl 1 3 (List.map eArg y0))), (10, (sArg y1)), (11, (V.sl 1 1 (List.map I y2))), (12, (I y3)), (43, (Bo false))], [(3, vS 4 (eBase a0))], 139⟩) = (K0 y0 y1 y2 y3).map law14_SsaWays_fin) (hret : ∀ s, Kst (X.ret, s) = endK prog 139 [(eBase a0), (V.int .u8 a1), (V.int .u8 a2)] [] [.tmp 6] (X.ret, s)) :
    ∀ (m : Nat) (x20 : Int) (x21 : (List T_api_Arg)) (x22 : (List T_api_Arg)) (x23 : (List Int)), (iter (exec prog (EV k) f5n k f5b0) m ⟨[(2, (V.int .u8 a2)), (3, (Pt 3)), (7, (sI o8)), (9, (V.sl 1 3 (List.map eArg x21))), (10, (sArg x22)), (11, (V.sl 1 1 (List.map I x23))), (12, (I x20))], [(3, vS 4 (eBase a0))], 139⟩).bind Kst = (law14_SsaWays_L1 a0 a2 o8 K0 m x20 x21 x22 x23).map law14_SsaWays_fin := by
  intro m
  induction m with
  | zero => intros; rfl
  | succ m ih =>
    intro x20 x21 x22 x23
    unfold law14_SsaWays_L1
    refine et k_round <| et k_assoc <| krp f5a7 rfl ⟨[(2, (V.int .u8 a2)), (3, (Pt 3)), (7, (sI o8)), (9, (V.sl 1 3 (List.map eArg x21))), (10, (sArg x22)), (11, (V.sl 1 1 (List.map I x23))), (12, (I x20)), (43, (Bo (decide (x20 < (o8.length : Int)))))], [(3, vS 4 (eBase a0))], 139⟩ ?_ ?_
    · exact rd 2 [(40, (I x20)), (41, (sI o8))] rfl rfl <| rl rfl (p_len (e := I) rfl rfl rfl rfl rfl rfl underlying33) <| bind_end rfl
    refine kc rfl rfl (fun hc => ?_) fun hc => ?_
    · rw [hc]
      refine et k_skip <| et (k_block rfl) <| et k_assoc <| kg f5a9 rfl (fun (o25 : Bool) => ⟨[(2, (V.int .u8 a2)), (3, (Pt 3)), (7, (sI o8)), (9, (V.sl 1 3 (List.map eArg x21))), (10, (sArg x22)), (11, (V.sl 1 1 (List.map I x23))), (12, (I x20)), (50, (Bo o25))], [(3, vS 4 (eBase a0))], 139⟩) (rd 2 [(46, (V.int .u8 a2)), (47, (I x20))] rfl rfl <| rp rfl (p_shr rfl rfl rfl) fun v24 => bind_end rfl) fun o25 => kc rfl rfl (fun hc => ?_) fun hc => ?_
      · rw [hc]
        exact et k_exit <| et blk_exit <| kl ⟨[(2, (V.int .u8 a2)), (3, (Pt 3)), (7, (sI o8)), (9, (V.sl 1 3 (List.map eArg x21))), (10, (sArg x22)), (11, (V.sl 1 1 (List.map I x23))), (12, (I (Go.IntKind.wrap .i64 (x20 + 1))))], [(3, vS 4 (eBase a0))], 139⟩ rfl <| et loop_normal <| ih (Go.IntKind.wrap .i64 (x20 + 1)) x21 x22 x23
      · rw [hc]
        exact et k_skip <| kd f5a10 rfl (fun (o28 : T_api_Arg) => ⟨[(2, (V.int .u8 a2)), (3, (Pt 3)), (7, (sI o8)), (9, (V.sl 1 3 (List.map eArg x21))), (10, (sArg x22)), (11, (V.sl 1 1 (List.map I x23))), (12, (I x20)), (13, (Pt 13))], [(3, vS 4 (eBase a0)), (13, vS 3 (eArg o28))], 139⟩) (et (regionE_regp (p := 11) (dk := true) (t := [(2, (V.int .u8 a2)), (3, (Pt 3)), (7, (sI o8)), (9, (V.sl 1 3 (List.map eArg x21))), (10, (sArg x22)), (11, (V.sl 1 1 (List.map I x23))), (12, (I x20)), (50, (Bo false))]) (σ := [(3, vS 4 (eBase a0))]) (n := 139) rfl (by decide) (by decide) rfl) <| et (regp_adv (m := 4) (j := 4) (t' := [(2, (V.int .u8 a2)), (3, (Pt 3)), (7, (sI o8)), (9, (V.sl 1 3 (List.map eArg x21))), (10, (sArg x22)), (11, (V.sl 1 1 (List.map I x23))), (12, (I x20)), (50, (Bo false)), (51, (V.ptr 3 0 2)), (52, (sType a0.fTypes)), (53, (sI o8)), (54, (I x20))]) rfl rfl rfl) <| et (regp_pure (x := (idx o8 x20)) (w := fun v26 => (Pr (I v26))) rfl rfl rfl rfl rfl (p_index (e := I) rfl rfl rfl underlying33 rfl (by decide))) <| bindE fun v26 => et (putp_adv (m := 1) (j := 6) (t' := [(2, (V.int .u8 a2)), (3, (Pt 3)), (7, (sI o8)), (9, (V.sl 1 3 (List.map eArg x21))), (10, (sArg x22)), (11, (V.sl 1 1 (List.map I x23))), (12, (I x20)), (50, (Bo false)), (51, (V.ptr 3 0 2)), (52, (sType a0.fTypes)), (53, (sI o8)), (54, (I x20)), (55, (Pr (I v26))), (56, (I v26))]) rfl rfl rfl) <| et (regp_pure (x := (idx a0.fTypes v26)) (w := fun v27 => (Pr (eType v27))) rfl rfl rfl rfl rfl (p_index (e := eType) rfl rfl rfl underlying22 rfl (by decide))) <| bindE fun v27 => regp_end rfl) fun o28 => kd f5a11 rfl (fun (o32 : (List T_api_Arg) × (List Int)) => ⟨[(2, (V.int .u8 a2)), (3, (Pt 3)), (7, (sI o8)), (9, (V.sl 1 3 (List.map eArg o32.1))), (10, (sArg x22)), (11, (V.sl 1 1 (List.map I o32.2))), (12, (I x20)), (13, (Pt 13))], [(3, vS 4 (eBase a0)), (13, vS 3 (eArg o28))], 139⟩) (et (regionE_regA (by decide)) <| ra 3 3 ⟨[(2, (V.int .u8 a2)), (3, (Pt 3)), (7, (sI o8)), (9, (sArg x21)), (10, (sArg x22)), (11, (V.sl 1 1 (List.map I x23))), (12, (I x20)), (13, (Pt 13)), (61, (V.sl 1 3 (List.map eArg x21))), (62, (eArg o28)), (63, (sArg (([o28] : List T_api_Arg))))], [(3, vS 4 (eBase a0)), (13, vS 3 (eArg o28))], 139⟩ rfl rfl rfl <| et (reg_eff (x := (app x21 ([o28] : List T_api_Arg))) (w := fun v29 => ((V.sl 1 3 (List.map eArg v29)), _)) rfl rfl rfl rfl (p_app (e := eArg) rfl rfl rfl rfl rfl rfl rfl rfl rfl rfl (by decide))) <| bindE fun v29 => ba 3 7 ⟨[(2, (V.int .u8 a2)), (3, (Pt 3)), (7, (sI o8)), (9, (sArg x21)), (10, (sArg x22)), (11, (sI x23)), (12, (I x20)), (13, (Pt 13)), (61, (sArg x21)), (62, (eArg o28)), (63, (sArg (([o28] : List T_api_Arg)))), (64, (V.sl 1 3 (List.map eArg v29))), (65, (V.sl 1 1 (List.map I x23))), (66, (sI o8)), (67, (I x20))], [(3, vS 4 (eBase a0)), (13, vS 3 (eArg o28))], 139⟩ rfl rfl rfl <| rp rfl (p_index (e := I) rfl rfl rfl underlying33 rfl (by decide)) fun v30 => bd 10 [(68, (Pr (I v30))), (69, (I v30)), (70, (sI (([v30] : List Int))))] rfl rfl <| et (reg_eff (x := (app x23 ([v30] : List Int))) (w := fun v31 => ((V.sl 1 1 (List.map I v31)), _)) rfl rfl rfl rfl (p_app (e := I) rfl rfl rfl rfl rfl rfl rfl rfl rfl rfl (by decide))) <| bindE fun v31 => bind_end rfl) fun o32 => kgl f5a12 rfl (fun (o34 : (List T_api_Arg)) => ⟨[(2, (V.int .u8 a2)), (3, (Pt 3)), (7, (sI o8)), (9, (V.sl 1 3 (List.map eArg o32.1))), (10, (sArg o34)), (11, (V.sl 1 1 (List.map I o32.2))), (12, (I x20))], [(3, vS 4 (eBase a0))], 139⟩) (rd 3 [(72, (eArg o28)), (73, (V.sl 1 3 (List.map eArg ([o28] : List T_api_Arg)))), (74, (sArg x22))] rfl rfl <| et (reg_eff (x := (app ([o28] : List T_api_Arg) x22)) (w := fun v33 => ((V.sl 1 3 (List.map eArg v33)), _)) rfl rfl rfl rfl (p_app (e := eArg) rfl rfl rfl rfl rfl rfl rfl rfl rfl rfl (by decide))) <| bind_self fun v33 => bind_end rfl) fun o34 => et blk_normal <| kl ⟨[(2, (V.int .u8 a2)), (3, (Pt 3)), (7, (sI o8)), (9, (V.sl 1 3 (List.map eArg o32.1))), (10, (sArg o34)), (11, (V.sl 1 1 (List.map I o32.2))), (12, (I (Go.IntKind.wrap .i64 (x20 + 1))))], [(3, vS 4 (eBase a0))], 139⟩ rfl <| et loop_normal <| ih (Go.IntKind.wrap .i64 (x20 + 1)) o32.1 o34 o32.2
    · rw [hc]
      exact et k_exit <| et loop_exit <| hK0 x21 x22 x23 x20
theorem law14_SsaWays_L2_ok (k : Nat) (a0 : T_api_Base) (a1 : Int) (a2 : Int) (y37 : (List Int)) (o42 : (List Int) × Int)  (K0 : Int → Option Bool) (Kst : X × St → Option (V × List V)) (hK0 : ∀ (y0 : Int), Kst (X.exit 2, ⟨[(11, (V.sl 1 1 (List.map I y37))), (16, (sI o42.1)), (20, (I y0)), (126, (Bo false))], [], 139⟩) = (K0 y0).map law14_SsaWays_fin) (hret : ∀ s, Kst (X.ret, s) = endK prog 139 [(eBase a0), (V.int .u8 a1), (V.int .u8 a2)] [] [.tmp 6] (X.ret, s)) :
    ∀ (m : Nat) (x49 : Int), (iter (exec prog (EV k) f5n k f5b1) m ⟨[(11, (V.sl 1 1 (List.map I y37))), (16, (sI o42.1)), (20, (I x49))], [], 139⟩).bind Kst = (law14_SsaWays_L2 y37 o42 K0 m x49).map law14_SsaWays_fin := by
  intro m
  induction m with
  | zero => intros; rfl
  | succ m ih =>
    intro x49
    unfold law14_SsaWays_L2
    refine et k_round <| et k_assoc <| krp f5a19 rfl ⟨[(11, (V.sl 1 1 (List.map I y37))), (16, (sI o42.1)), (20, (I x49)), (126, (Bo (decide (x49 < (o42.1.length : Int)))))], [], 139⟩ ?_ ?_
    · exact rd 2 [(123, (I x49)), (124, (sI o42.1))] rfl rfl <| rl rfl (p_len (e := I) rfl rfl rfl rfl rfl rfl underlying33) <| bind_end rfl
    refine kc rfl rfl (fun hc => ?_) fun hc => ?_
    · rw [hc]
      refine et k_skip <| et (k_block rfl) <| kd f5a21 rfl (fun (o52 : Bool) => ⟨[(11, (V.sl 1 1 (List.map I y37))), (16, (sI o42.1)), (20, (I x49)), (137, (Bo o52))], [], 139⟩) (et (regionE_regp (p := 9) (dk := true) (t := [(11, (V.sl 1 1 (List.map I y37))), (16, (sI o42.1)), (20, (I x49)), (126, (Bo true))]) (σ := []) (n := 139) rfl (by decide) (by decide) rfl) <| et (regp_adv (m := 2) (j := 2) (t' := [(11, (V.sl 1 1 (List.map I y37))), (16, (sI o42.1)), (20, (I x49)), (126, (Bo true)), (129, (sI o42.1)), (130, (I x49))]) rfl rfl rfl) <| et (regp_pure (x := (idx o42.1 x49)) (w := fun v50 => (Pr (I v50))) rfl rfl rfl rfl rfl (p_index (e := I) rfl rfl rfl underlying33 rfl (by decide))) <| bindE fun v50 => et (putp_adv (m := 3) (j := 6) (t' := [(11, (V.sl 1 1 (List.map I y37))), (16, (sI o42.1)), (20, (I x49)), (126, (Bo true)), (129, (sI o42.1)), (130, (I x49)), (131, (Pr (I v50))), (132, (I v50)), (133, (sI y37)), (134, (I x49))]) rfl rfl rfl) <| et (regp_pure (x := (idx y37 x49)) (w := fun v51 => (Pr (I v51))) rfl rfl rfl rfl rfl (p_index (e := I) rfl rfl rfl underlying33 rfl (by decide))) <| bindE fun v51 => regp_end rfl) fun o52 => kcl rfl rfl (fun hc => ?_) fun hc => ?_
      · rw [hc]
        refine kr ⟨[(6, (Bo false))], [], 139⟩ rfl <| et k_lret <| et blk_ret <| et loop_ret <| et (hret _) ?_
        rfl
      · rw [hc]
        exact et k_lskip <| et blk_normal <| kl ⟨[(11, (V.sl 1 1 (List.map I y37))), (16, (sI o42.1)), (20, (I (Go.IntKind.wrap .i64 (x49 + 1))))], [], 139⟩ rfl <| et loop_normal <| ih (Go.IntKind.wrap .i64 (x49 + 1))
    · rw [hc]
      exact et k_exit <| et loop_exit <| hK0 x49
theorem law14_SsaWays_ok (k : Nat) (a0 : T_api_Base) (a1 : Int) (a2 : Int) : EV k 5 [(eBase a0), (V.int .u8 a1), (V.int .u8 a2)] = (law14_SsaWays k a0 a1 a2).map law14_SsaWays_fin := by
  cases k with
  | zero => rfl
  | succ k =>
    unfold law14_SsaWays
    refine et (evF_succ (c := f5c) (N := 139) (regs := f5n) rfl func5 rfl (by decide) rfl rfl rfl) <| kr ⟨[(1, (V.int .u8 a1)), (2, (V.int .u8 a2)), (3, (Pt 3))], [(3, vS 4 (eBase a0))], 139⟩ rfl <| et k_assoc <| kga f5a1 rfl (fun (o3 : Bool) => [(27, (Bo o3))]) ?_ fun o3 => ?_
    · refine rd 1 [(21, (eBase a0))] rfl rfl <| rp rfl (p_call rfl rfl rfl rfl rfl (law12_Large_ok k a0) (.inl rfl)) fun v1 => bd 3 [(22, (Bo v1)), (23, (Bo v1))] rfl rfl <| bifE (fun hc => ?_) fun hc => ?_
      · rw [hc]
        exact reg_end rfl
      · rw [hc]
        exact rd 4 [(24, (eBase a0))] rfl rfl <| rp rfl (p_call rfl rfl rfl rfl rfl (ref11_Valid_ok k a0) (.inl rfl)) fun v2 => bind_end rfl
    refine kc rfl rfl (fun hc => ?_) fun hc => ?_
    · rw [hc]
      refine et k_assoc <| kg f5a2 rfl (fun (o5 : Bool) => ⟨[(6, (Bo o5))], [], 139⟩) (rs rfl (p_call rfl rfl rfl rfl rfl (law14_Awake_ok k) (.inl rfl)) fun v4 => bind_end rfl) fun o5 => et k_ret ?_
      rfl
    · rw [hc]
      refine et k_skip <| kd f5a3 rfl (fun (o8 : (List Int)) => ⟨[(2, (V.int .u8 a2)), (3, (Pt 3)), (7, (sI o8))], [(3, vS 4 (eBase a0))], 139⟩) (et (regionE_regp (p := 13) (dk := true) (t := [(1, (V.int .u8 a1)), (2, (V.int .u8 a2)), (3, (Pt 3)), (27, (Bo false))]) (σ := [(3, vS 4 (eBase a0))]) (n := 139) rfl (by decide) (by decide) rfl) <| et (regp_adv (m := 5) (j := 5) (t' := [(1, (V.int .u8 a1)), (2, (V.int .u8 a2)), (3, (Pt 3)), (27, (Bo false)), (30, (eBase a0)), (31, (V.int .u8 a1)), (32, (I (Go.IntKind.wrap .i64 a1))), (33, (V.ptr 3 0 2)), (34, (sType a0.fTypes))]) rfl rfl rfl) <| et (regp_pure (x := some ()) (w := fun _ => (I (a0.fTypes.length : Int))) rfl rfl rfl rfl rfl (p_len (e := eType) rfl rfl rfl rfl rfl rfl underlying22)) <| et some_bind <| et (putp_adv (m := 0) (j := 6) (t' := [(1, (V.int .u8 a1)), (2, (V.int .u8 a2)), (3, (Pt 3)), (27, (Bo false)), (30, (eBase a0)), (31, (V.int .u8 a1)), (32, (I (Go.IntKind.wrap .i64 a1))), (33, (V.ptr 3 0 2)), (34, (sType a0.fTypes)), (35, (I (a0.fTypes.length : Int)))]) rfl rfl rfl) <| et (regp_pure (x := (remE (Go.IntKind.wrap .i64 a1) (a0.fTypes.length : Int))) (w := fun v6 => (I v6)) rfl rfl rfl rfl rfl (p_rem rfl rfl rfl)) <| bindE fun v6 => et (putp_adv (m := 0) (j := 7) (t' := [(1, (V.int .u8 a1)), (2, (V.int .u8 a2)), (3, (Pt 3)), (27, (Bo false)), (30, (eBase a0)), (31, (V.int .u8 a1)), (32, (I (Go.IntKind.wrap .i64 a1))), (33, (V.ptr 3 0 2)), (34, (sType a0.fTypes)), (35, (I (a0.fTypes.length : Int))), (36, (I v6))]) rfl rfl rfl) <| et (regp_pure (x := (ref11_Way k a0 v6)) (w := fun v7 => (V.tup [(sI v7.1), (I v7.2)])) rfl rfl rfl rfl rfl (p_call rfl rfl rfl rfl rfl (ref11_Way_ok k a0 v6) (.inl rfl))) <| bindE fun v7 => regp_end rfl) fun o8 => kra [(9, (V.sl 1 3 (List.map eArg ([] : List T_api_Arg)))), (10, (sArg (([] : List T_api_Arg))))] rfl <| kra [(11, (V.sl 1 1 (List.map I ([] : List Int))))] rfl <| et k_assoc <| kra [(12, (I 0))] rfl <| et (k_block rfl) <| et k_loop ?_
      refine law14_SsaWays_L1_ok k a0 a1 a2 o8 _ _ ?h_law14_SsaWays_L1_0 ?hr_law14_SsaWays_L1 k 0 ([] : List T_api_Arg) ([] : List T_api_Arg) ([] : List Int)
      · intro y35 y36 y37 y38
        refine et blk_exit <| kg f5a13 rfl (fun (o40 : Str × Int) => ⟨[(3, (Pt 3)), (9, (V.sl 1 3 (List.map eArg y35))), (10, (sArg y36)), (11, (V.sl 1 1 (List.map I y37))), (14, (Sr o40.1)), (15, (I o40.2))], [(3, vS 4 (eBase a0))], 139⟩) (rd 2 [(77, (eBase a0)), (78, (sArg y35))] rfl rfl <| rp rfl (p_call rfl rfl rfl rfl rfl (ssa_Check_ok k a0 y35) (.inl rfl)) fun v39 => bind_end rfl) fun o40 => kga f5a14 rfl (fun (o42 : (List Int) × Int) => [(16, (sI o42.1)), (17, (I o42.2))]) (rd 2 [(83, (eBase a0)), (84, (sArg y35))] rfl rfl <| rp rfl (p_call rfl rfl rfl rfl rfl (ssa_Types_ok k a0 y35) (.inl rfl)) fun v41 => bind_end rfl) fun o42 => kg f5a15 rfl (fun (o44 : Str × Int) => ⟨[(9, (V.sl 1 3 (List.map eArg y35))), (11, (V.sl 1 1 (List.map I y37))), (14, (Sr o40.1)), (15, (I o40.2)), (16, (sI o42.1)), (17, (I o42.2)), (18, (Sr o44.1)), (19, (I o44.2))], [], 139⟩) (rd 2 [(89, (eBase a0)), (90, (sArg y36))] rfl rfl <| rp rfl (p_call rfl rfl rfl rfl rfl (ssa_Check_ok k a0 y36) (.inl rfl)) fun v43 => bind_end rfl) fun o44 => et k_assoc <| kg f5a16 rfl (fun (o45 : Bool) => ⟨[(11, (V.sl 1 1 (List.map I y37))), (16, (sI o42.1)), (122, (Bo o45))], [], 139⟩) ?_ fun o45 => ?_
        · refine rd 3 [(94, (I o40.2)), (95, (Bo (o40.2 != 0))), (96, (Bo (o40.2 != 0)))] rfl rfl <| bifE (fun hc => ?_) fun hc => ?_
          · rw [hc]
            exact reg_end rfl
          · rw [hc]
            refine rd 7 [(97, (I o42.2)), (98, (Bo (o42.2 != 0))), (99, (Bo (o42.2 != 0))), (100, (Bo (o42.2 != 0)))] rfl rfl <| bifE (fun hc => ?_) fun hc => ?_
            · rw [hc]
              exact reg_end rfl
            · rw [hc]
              refine rd 11 [(101, (I o44.2)), (102, (Bo (o44.2 != 0))), (103, (Bo (o44.2 != 0))), (104, (Bo (o44.2 != 0)))] rfl rfl <| bifE (fun hc => ?_) fun hc => ?_
              · rw [hc]
                exact reg_end rfl
              · rw [hc]
                refine rd 15 [(105, (Sr o40.1)), (106, (Bo (!(o40.1 == ([32, 32] : Str))))), (107, (Bo (!(o40.1 == ([32, 32] : Str))))), (108, (Bo (!(o40.1 == ([32, 32] : Str)))))] rfl rfl <| bifE (fun hc => ?_) fun hc => ?_
                · rw [hc]
                  exact reg_end rfl
                · rw [hc]
                  refine rd 16 [(109, (sI o42.1))] rfl rfl <| rl rfl (p_len (e := I) rfl rfl rfl rfl rfl rfl underlying33) <| bd 18 [(110, (I (o42.1.length : Int))), (111, (sI y37))] rfl rfl <| rl rfl (p_len (e := I) rfl rfl rfl rfl rfl rfl underlying33) <| bd 22 [(112, (I (y37.length : Int))), (113, (Bo ((o42.1.length : Int) != (y37.length : Int)))), (114, (Bo ((o42.1.length : Int) != (y37.length : Int)))), (115, (Bo ((o42.1.length : Int) != (y37.length : Int))))] rfl rfl <| bifE (fun hc => ?_) fun hc => ?_
                  · rw [hc]
                    exact reg_end rfl
                  · rw [hc]
                    exact rd 25 [(116, (Sr o44.1)), (117, (Bo (o44.1 == ([32, 32] : Str)))), (118, (sArg y35))] rfl rfl <| rl rfl (p_len (e := eArg) rfl rfl rfl rfl rfl rfl underlying26) <| bind_end rfl
        refine kc rfl rfl (fun hc => ?_) fun hc => ?_
        · rw [hc]
          refine et k_assoc <| kr ⟨[(6, (Bo false))], [], 139⟩ rfl <| et k_ret ?_
          rfl
        · rw [hc]
          refine et k_skip <| et k_assoc <| kr ⟨[(11, (V.sl 1 1 (List.map I y37))), (16, (sI o42.1)), (20, (I 0))], [], 139⟩ rfl <| et (k_block rfl) <| et k_loop ?_
          refine law14_SsaWays_L2_ok k a0 a1 a2 y37 o42 _ _ ?h_law14_SsaWays_L2_0 ?hr_law14_SsaWays_L2 k 0
          · intro y53
            refine et blk_exit <| kg f5a23 rfl (fun (o55 : Bool) => ⟨[(6, (Bo o55))], [], 139⟩) (rs rfl (p_call rfl rfl rfl rfl rfl (law14_Awake_ok k) (.inl rfl)) fun v54 => bind_end rfl) fun o55 => et k_lret ?_
            rfl
          · intro s; exact rfl
      · intro s; exact rfl
end
end Go.AE
