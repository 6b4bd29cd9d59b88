/- The program, function by function: the evaluator comes to the typed functions. Conditions: none. -/
import Derived.Test.YtgpblbjceghpjaaA3
import Derived.KernelRfl
import Derived.Test.YtgpblbjceghpjaaProg
import Derived.Test.YtgpblbjceghpjaaB1
import Derived.Test.YtgpblbjceghpjaaE1
namespace Go.AE
open Go.Proofs.Try Go.Sh
set_option linter.unusedSimpArgs false
set_option linter.unusedVariables false
set_option maxRecDepth 100000
set_option maxHeartbeats 4000000
noncomputable section
theorem match_And_ok (k : Nat) (a0 : T_api_Base) (a1 : Int) (a2 : (List (List T_api_Term))) (a3 : (List (List T_api_Term))) : EV k 20 [(eBase a0), (I a1), (V.sl 0 1 (List.map sTerm a2)), (V.sl 0 1 (List.map sTerm a3))] = (match_And k a0 a1 a2 a3).map match_And_fin := by
  cases k with
  | zero => rfl
  | succ k =>
    unfold match_And
    refine et (evF_succ (c := f20c) (N := 68) (regs := f20n) rfl func20 rfl (by decide) rfl rfl rfl) <| kr ⟨[(1, (I a1)), (2, (V.sl 0 1 (List.map sTerm a2))), (3, (V.sl 0 1 (List.map sTerm a3))), (4, (Pt 4))], [(4, vS 4 (eBase a0))], 68⟩ rfl <| kg f20a1 rfl (fun (o2 : Int × T_api_Type) => ⟨[(2, (V.sl 0 1 (List.map sTerm a2))), (3, (V.sl 0 1 (List.map sTerm a3))), (10, (Pt 10)), (11, (I o2.1))], [(10, vS 8 (eType o2.2))], 68⟩) (rd 5 [(18, (eBase a0)), (19, (I a1)), (20, (V.sl 0 1 (List.map sTerm a2))), (21, (V.sl 0 1 (List.map sTerm a3))), (22, (V.sl 0 1 (List.map (fun x => (V.sl 0 1 (List.map sTerm x))) ([a2, a3] : List (List (List T_api_Term))))))] rfl rfl <| rp rfl (p_call rfl rfl rfl rfl rfl (match_conditions_ok k a0 a1 ([a2, a3] : List (List (List T_api_Term)))) (.inl rfl)) fun v1 => bind_end rfl) fun o2 => et (k_block rfl) <| kra [(26, (Bo (o2.1 != 0)))] rfl <| kcl rfl rfl (fun hc => ?_) fun hc => ?_
    · rw [hc]
      refine kr ⟨[(8, (V.sl 0 1 (List.map sTerm ([] : List (List T_api_Term))))), (9, (I o2.1))], [], 68⟩ rfl <| et k_lret <| et blk_ret ?_
      rfl
    · rw [hc]
      refine krp f20a4 rfl ⟨[(2, (V.sl 0 1 (List.map sTerm a2))), (3, (V.sl 0 1 (List.map sTerm a3))), (10, (Pt 10)), (30, (Bo ((a2.length : Int) == 0)))], [(10, vS 8 (eType o2.2))], 68⟩ ?_ ?_
      · exact rd 1 [(31, (V.sl 0 1 (List.map sTerm a2)))] rfl rfl <| rl rfl (p_len (e := sTerm) rfl rfl rfl rfl rfl rfl underlying26) <| bind_end rfl
      refine kcl rfl rfl (fun hc => ?_) fun hc => ?_
      · rw [hc]
        refine kg f20a5 rfl (fun (o4 : (List (List T_api_Term)) × Int) => ⟨[(8, (V.sl 0 1 (List.map sTerm o4.1))), (9, (I o4.2))], [], 68⟩) (rd 1 [(34, (V.sl 0 1 (List.map sTerm a3)))] rfl rfl <| rp rfl (p_call rfl rfl rfl rfl rfl (match_copied_ok k a3) (.inl rfl)) fun v3 => bind_end rfl) fun o4 => et k_lret <| et blk_ret ?_
        rfl
      · rw [hc]
        refine krp f20a6 rfl ⟨[(2, (V.sl 0 1 (List.map sTerm a2))), (3, (V.sl 0 1 (List.map sTerm a3))), (10, (Pt 10)), (36, (Bo ((a3.length : Int) == 0)))], [(10, vS 8 (eType o2.2))], 68⟩ ?_ ?_
        · exact rd 1 [(37, (V.sl 0 1 (List.map sTerm a3)))] rfl rfl <| rl rfl (p_len (e := sTerm) rfl rfl rfl rfl rfl rfl underlying26) <| bind_end rfl
        refine kcl rfl rfl (fun hc => ?_) fun hc => ?_
        · rw [hc]
          refine kg f20a7 rfl (fun (o6 : (List (List T_api_Term)) × Int) => ⟨[(8, (V.sl 0 1 (List.map sTerm o6.1))), (9, (I o6.2))], [], 68⟩) (rd 1 [(40, (V.sl 0 1 (List.map sTerm a2)))] rfl rfl <| rp rfl (p_call rfl rfl rfl rfl rfl (match_copied_ok k a2) (.inl rfl)) fun v5 => bind_end rfl) fun o6 => et k_lret <| et blk_ret ?_
          rfl
        · rw [hc]
          refine et k_lskip <| et blk_normal <| kr ⟨[(2, (V.sl 0 1 (List.map sTerm a2))), (3, (V.sl 0 1 (List.map sTerm a3))), (10, (Pt 10)), (12, (V.sl 1 1 (List.map sTerm ([] : List (List T_api_Term)))))], [(10, vS 8 (eType o2.2))], 68⟩ rfl <| et k_assoc <| krp f20a9 rfl ⟨[(3, (V.sl 0 1 (List.map sTerm a3))), (10, (Pt 10)), (12, (V.sl 1 1 (List.map sTerm ([] : List (List T_api_Term))))), (42, (V.sl 0 1 (List.map sTerm a2))), (43, (I (a2.length : Int))), (44, (I 0))], [(10, vS 8 (eType o2.2))], 68⟩ ?_ ?_
          · exact rd 1 [(42, (V.sl 0 1 (List.map sTerm a2)))] rfl rfl <| rl rfl (p_len (e := sTerm) rfl rfl rfl rfl rfl rfl underlying26) <| bind_end rfl
          refine et (k_block rfl) <| et k_loop ?_
          refine match_And_L1_ok k a0 a1 a2 a3 o2 _ _ ?h_match_And_L1_0 ?hr_match_And_L1 k ([] : List (List T_api_Term)) 0
          · intro y41 y42
            refine et blk_exit <| kg f20a18 rfl (fun (o44 : (List (List T_api_Term)) × Int) => ⟨[(8, (V.sl 0 1 (List.map sTerm o44.1))), (9, (I o44.2))], [], 68⟩) (rd 2 [(63, (eType o2.2)), (64, (V.sl 0 1 (List.map sTerm y41)))] rfl rfl <| rp rfl (p_call rfl rfl rfl rfl rfl (match_limited_ok k o2.2 y41) (.inl rfl)) fun v43 => bind_end rfl) fun o44 => et k_lret ?_
            rfl
          · intro s; exact rfl
def slices_Concat_TermL_fin : (List (List T_api_Term)) → V × List V := fun r => ((V.sl 0 1 (List.map sTerm r)), [])
theorem slices_Concat_TermL_ok (k : Nat) (s : List (List (List T_api_Term))) : EV k 50 [(V.sl 0 1 (List.map (fun x => (V.sl 0 1 (List.map sTerm x))) s))] = (slices_Concat_TermL k s).map slices_Concat_TermL_fin := by
  cases k with
  | zero => rfl
  | succ k => exact (evF_ext (ext := ext) (f := 50) rfl).trans (extCat_map (e := sTerm) (sz := 1) s)
def match_Or_fin : ((List (List T_api_Term)) × Int) → V × List V := fun r => (.tup [(V.sl 0 1 (List.map sTerm r.1)), (I r.2)], [])
theorem match_Or_ok (k : Nat) (a0 : T_api_Base) (a1 : Int) (a2 : (List (List T_api_Term))) (a3 : (List (List T_api_Term))) : EV k 23 [(eBase a0), (I a1), (V.sl 0 1 (List.map sTerm a2)), (V.sl 0 1 (List.map sTerm a3))] = (match_Or k a0 a1 a2 a3).map match_Or_fin := by
  cases k with
  | zero => rfl
  | succ k =>
    unfold match_Or
    refine et (evF_succ (c := f23c) (N := 43) (regs := f23n) rfl func23 rfl (by decide) rfl rfl rfl) <| kr ⟨[(1, (I a1)), (2, (V.sl 0 1 (List.map sTerm a2))), (3, (V.sl 0 1 (List.map sTerm a3))), (4, (Pt 4))], [(4, vS 4 (eBase a0))], 43⟩ rfl <| kg f23a1 rfl (fun (o2 : Int × T_api_Type) => ⟨[(2, (V.sl 0 1 (List.map sTerm a2))), (3, (V.sl 0 1 (List.map sTerm a3))), (10, (Pt 10)), (11, (I o2.1))], [(10, vS 8 (eType o2.2))], 43⟩) (rd 5 [(13, (eBase a0)), (14, (I a1)), (15, (V.sl 0 1 (List.map sTerm a2))), (16, (V.sl 0 1 (List.map sTerm a3))), (17, (V.sl 0 1 (List.map (fun x => (V.sl 0 1 (List.map sTerm x))) ([a2, a3] : List (List (List T_api_Term))))))] rfl rfl <| rp rfl (p_call rfl rfl rfl rfl rfl (match_conditions_ok k a0 a1 ([a2, a3] : List (List (List T_api_Term)))) (.inl rfl)) fun v1 => bind_end rfl) fun o2 => et (k_block rfl) <| kra [(21, (Bo (o2.1 != 0)))] rfl <| kcl rfl rfl (fun hc => ?_) fun hc => ?_
    · rw [hc]
      refine kr ⟨[(8, (V.sl 0 1 (List.map sTerm ([] : List (List T_api_Term))))), (9, (I o2.1))], [], 43⟩ rfl <| et k_lret <| et blk_ret ?_
      rfl
    · rw [hc]
      refine kg f23a4 rfl (fun (o3 : Bool) => ⟨[(2, (V.sl 0 1 (List.map sTerm a2))), (3, (V.sl 0 1 (List.map sTerm a3))), (10, (Pt 10)), (25, (Bo o3))], [(10, vS 8 (eType o2.2))], 43⟩) ?_ fun o3 => ?_
      · refine rd 1 [(26, (V.sl 0 1 (List.map sTerm a2)))] rfl rfl <| rl rfl (p_len (e := sTerm) rfl rfl rfl rfl rfl rfl underlying26) <| bd 4 [(27, (I (a2.length : Int))), (28, (Bo ((a2.length : Int) == 0))), (29, (Bo ((a2.length : Int) == 0)))] rfl rfl <| bifE (fun hc => ?_) fun hc => ?_
        · rw [hc]
          exact reg_end rfl
        · rw [hc]
          exact rd 5 [(30, (V.sl 0 1 (List.map sTerm a3)))] rfl rfl <| rl rfl (p_len (e := sTerm) rfl rfl rfl rfl rfl rfl underlying26) <| bind_end rfl
      refine kcl rfl rfl (fun hc => ?_) fun hc => ?_
      · rw [hc]
        refine kr ⟨[(8, (V.sl 0 1 (List.map sTerm ([] : List (List T_api_Term))))), (9, (I 0))], [], 43⟩ rfl <| et k_lret <| et blk_ret ?_
        rfl
      · rw [hc]
        refine et k_lskip <| et blk_normal <| kd f23a6 rfl (fun (o7 : (List (List T_api_Term)) × Int) => ⟨[(8, (V.sl 0 1 (List.map sTerm o7.1))), (9, (I o7.2))], [], 43⟩) (et (regionE_regp (p := 11) (dk := true) (t := [(2, (V.sl 0 1 (List.map sTerm a2))), (3, (V.sl 0 1 (List.map sTerm a3))), (10, (Pt 10)), (25, (Bo false))]) (σ := [(10, vS 8 (eType o2.2))]) (n := 43) rfl (by decide) (by decide) rfl) <| et (regp_adv (m := 4) (j := 4) (t' := [(2, (V.sl 0 1 (List.map sTerm a2))), (3, (V.sl 0 1 (List.map sTerm a3))), (10, (Pt 10)), (25, (Bo false)), (34, (eType o2.2)), (35, (V.sl 0 1 (List.map sTerm a2))), (36, (V.sl 0 1 (List.map sTerm a3))), (37, (V.sl 0 1 (List.map (fun x => (V.sl 0 1 (List.map sTerm x))) ([a2, a3] : List (List (List T_api_Term))))))]) rfl rfl rfl) <| et (regp_pure (x := (slices_Concat_TermL k ([a2, a3] : List (List (List T_api_Term))))) (w := fun v4 => (V.sl 0 1 (List.map sTerm v4))) rfl rfl rfl rfl rfl (p_call rfl rfl rfl rfl rfl (slices_Concat_TermL_ok k ([a2, a3] : List (List (List T_api_Term)))) (.inl rfl))) <| bindE fun v4 => et (putp_adv (m := 0) (j := 5) (t' := [(2, (V.sl 0 1 (List.map sTerm a2))), (3, (V.sl 0 1 (List.map sTerm a3))), (10, (Pt 10)), (25, (Bo false)), (34, (eType o2.2)), (35, (V.sl 0 1 (List.map sTerm a2))), (36, (V.sl 0 1 (List.map sTerm a3))), (37, (V.sl 0 1 (List.map (fun x => (V.sl 0 1 (List.map sTerm x))) ([a2, a3] : List (List (List T_api_Term)))))), (38, (V.sl 0 1 (List.map sTerm v4)))]) rfl rfl rfl) <| et (regp_pure (x := (match_copied k v4)) (w := fun v5 => (V.sl 0 1 (List.map sTerm v5))) rfl rfl rfl rfl rfl (p_call rfl rfl rfl rfl rfl (match_copied_ok k v4) (.inl rfl))) <| bindE fun v5 => et (putp_adv (m := 0) (j := 6) (t' := [(2, (V.sl 0 1 (List.map sTerm a2))), (3, (V.sl 0 1 (List.map sTerm a3))), (10, (Pt 10)), (25, (Bo false)), (34, (eType o2.2)), (35, (V.sl 0 1 (List.map sTerm a2))), (36, (V.sl 0 1 (List.map sTerm a3))), (37, (V.sl 0 1 (List.map (fun x => (V.sl 0 1 (List.map sTerm x))) ([a2, a3] : List (List (List T_api_Term)))))), (38, (V.sl 0 1 (List.map sTerm v4))), (39, (V.sl 0 1 (List.map sTerm v5)))]) rfl rfl rfl) <| et (regp_pure (x := (match_limited k o2.2 v5)) (w := fun v6 => (V.tup [(V.sl 0 1 (List.map sTerm v6.1)), (I v6.2)])) rfl rfl rfl rfl rfl (p_call rfl rfl rfl rfl rfl (match_limited_ok k o2.2 v5) (.inl rfl))) <| bindE fun v6 => regp_end rfl) fun o7 => et k_lret ?_
        rfl
def ref11_IsName_fin : Bool → V × List V := fun r => ((Bo r), [])
theorem ref11_IsName_L1_ok (k : Nat) (a0 : Str)  (K0 : Int → Option Bool) (Kst : X × St → Option (V × List V)) (hK0 : ∀ (y0 : Int), Kst (X.exit 0, ⟨[(0, (Sr a0)), (3, (I y0)), (8, (Bo false))], [], 47⟩) = (K0 y0).map ref11_IsName_fin) (hret : ∀ s, Kst (X.ret, s) = endK prog 47 [(Sr a0)] [] [.tmp 2] (X.ret, s)) :
    ∀ (m : Nat) (x7 : Int), (iter (exec prog (EV k) f86n k f86b0) m ⟨[(0, (Sr a0)), (3, (I x7))], [], 47⟩).bind Kst = (ref11_IsName_L1 a0 K0 m x7).map ref11_IsName_fin := by
  intro m
  induction m with
  | zero => intros; rfl
  | succ m ih =>
    intro x7
    unfold ref11_IsName_L1
    refine et k_round <| et k_assoc <| kra [(8, (Bo (decide (x7 < (a0.length : Int)))))] rfl <| kc rfl rfl (fun hc => ?_) fun hc => ?_
    · rw [hc]
      refine et k_skip <| et (k_block rfl) <| kg f86a4 rfl (fun (o10 : Bool) => ⟨[(0, (Sr a0)), (3, (I x7)), (4, (Bo o10))], [], 47⟩) ?_ fun o10 => ?_
      · refine rd 2 [(11, (Sr a0)), (12, (I x7))] rfl rfl <| rp rfl (p_indexS rfl rfl rfl underlying9) fun v8 => bd 5 [(13, (V.int .u8 v8)), (14, (Bo (decide (v8 ≥ 65)))), (15, (Bo (decide (v8 ≥ 65))))] rfl rfl <| bifE (fun hc => ?_) fun hc => ?_
        · rw [hc]
          exact rd 7 [(16, (Sr a0)), (17, (I x7))] rfl rfl <| rp rfl (p_indexS rfl rfl rfl underlying9) fun v9 => bind_end rfl
        · rw [hc]
          exact reg_end rfl
      refine kg f86a5 rfl (fun (o13 : Bool) => ⟨[(0, (Sr a0)), (3, (I x7)), (38, (Bo o13))], [], 47⟩) ?_ fun o13 => ?_
      · refine rd 3 [(21, (Bo o10)), (22, (Bo (!o10))), (23, (Bo (!o10)))] rfl rfl <| bifE (fun hc => ?_) fun hc => ?_
        · rw [hc]
          refine rd 6 [(24, (I x7)), (25, (Bo (x7 == 0))), (26, (Bo (x7 == 0)))] rfl rfl <| bifE (fun hc => ?_) fun hc => ?_
          · rw [hc]
            exact reg_end rfl
          · rw [hc]
            refine rd 8 [(27, (Sr a0)), (28, (I x7))] rfl rfl <| rp rfl (p_indexS rfl rfl rfl underlying9) fun v11 => bd 12 [(29, (V.int .u8 v11)), (30, (Bo (decide (v11 < 48)))), (31, (Bo (decide (v11 < 48)))), (32, (Bo (decide (v11 < 48))))] rfl rfl <| bifE (fun hc => ?_) fun hc => ?_
            · rw [hc]
              exact reg_end rfl
            · rw [hc]
              exact rd 14 [(33, (Sr a0)), (34, (I x7))] rfl rfl <| rp rfl (p_indexS rfl rfl rfl underlying9) fun v12 => bind_end rfl
        · rw [hc]
          exact reg_end rfl
      refine kcl rfl rfl (fun hc => ?_) fun hc => ?_
      · rw [hc]
        refine kr ⟨[(2, (Bo false))], [], 47⟩ rfl <| et k_lret <| et blk_ret <| et loop_ret <| et (hret _) ?_
        rfl
      · rw [hc]
        exact et k_lskip <| et blk_normal <| kl ⟨[(0, (Sr a0)), (3, (I (Go.IntKind.wrap .i64 (x7 + 1))))], [], 47⟩ rfl <| et loop_normal <| ih (Go.IntKind.wrap .i64 (x7 + 1))
    · rw [hc]
      exact et k_exit <| et loop_exit <| hK0 x7
theorem ref11_IsName_ok (k : Nat) (a0 : Str) : EV k 86 [(Sr a0)] = (ref11_IsName k a0).map ref11_IsName_fin := by
  cases k with
  | zero => rfl
  | succ k =>
    unfold ref11_IsName
    refine et (evF_succ (c := f86c) (N := 47) (regs := f86n) rfl func86 rfl (by decide) rfl rfl rfl) <| kra [] rfl <| et k_assoc <| kra [(3, (I 0))] rfl <| et (k_block rfl) <| et k_loop ?_
    refine ref11_IsName_L1_ok k a0 _ _ ?h_ref11_IsName_L1_0 ?hr_ref11_IsName_L1 k 0
    · intro y14
      refine et blk_exit <| kg f86a7 rfl (fun (o15 : Bool) => ⟨[(2, (Bo o15))], [], 47⟩) ?_ fun o15 => ?_
      · refine rd 4 [(39, (Sr a0)), (40, (I (a0.length : Int))), (41, (Bo (decide ((a0.length : Int) ≥ 1)))), (42, (Bo (decide ((a0.length : Int) ≥ 1))))] rfl rfl <| bifE (fun hc => ?_) fun hc => ?_
        · rw [hc]
          exact reg_end rfl
        · rw [hc]
          exact reg_end rfl
      refine et k_lret ?_
      rfl
    · intro s; exact rfl
def ref11_fields_fin : Bool → V × List V := fun r => ((Bo r), [])
theorem ref11_fields_L2_ok (k : Nat) (a0 : T_api_Type) (x11 : Int) (o13 : T_api_Field)  (K0 : Int → Option Bool) (Kst : X × St → Option (V × List V)) (hK0 : ∀ (y0 : Int), Kst (X.exit 2, ⟨[(1, (Pt 1)), (3, (I x11)), (4, (Pt 4)), (5, (I y0)), (51, (Bo false))], [(1, vS 8 (eType a0)), (4, vS 3 (eField o13))], 112⟩) = (K0 y0).map ref11_fields_fin) (hret : ∀ s, Kst (X.ret, s) = endK prog 112 [(eType a0)] [] [.tmp 2] (X.ret, s)) :
    ∀ (m : Nat) (x18 : Int), (iter (exec prog (EV k) f87n k f87b0) m ⟨[(1, (Pt 1)), (3, (I x11)), (4, (Pt 4)), (5, (I x18))], [(1, vS 8 (eType a0)), (4, vS 3 (eField o13))], 112⟩).bind Kst = (ref11_fields_L2 a0 x11 o13 K0 m x18).map ref11_fields_fin := by
  intro m
  induction m with
  | zero => intros; rfl
  | succ m ih =>
    intro x18
    unfold ref11_fields_L2
    refine et k_round <| et k_assoc <| kra [(51, (Bo (decide (x18 < x11))))] rfl <| kc rfl rfl (fun hc => ?_) fun hc => ?_
    · rw [hc]
      refine et k_skip <| et (k_block rfl) <| kd f87a10 rfl (fun (o20 : Bool) => ⟨[(1, (Pt 1)), (3, (I x11)), (4, (Pt 4)), (5, (I x18)), (62, (Bo o20))], [(1, vS 8 (eType a0)), (4, vS 3 (eField o13))], 112⟩) (et (regionE_regp (p := 9) (dk := true) (t := [(1, (Pt 1)), (3, (I x11)), (4, (Pt 4)), (5, (I x18)), (51, (Bo true))]) (σ := [(1, vS 8 (eType a0)), (4, vS 3 (eField o13))]) (n := 112) rfl (by decide) (by decide) rfl) <| et (regp_adv (m := 3) (j := 3) (t' := [(1, (Pt 1)), (3, (I x11)), (4, (Pt 4)), (5, (I x18)), (51, (Bo true)), (54, (V.ptr 1 0 4)), (55, (sField a0.fFields)), (56, (I x18))]) rfl rfl rfl) <| et (regp_pure (x := (idx a0.fFields x18)) (w := fun v19 => (Pr (eField v19))) rfl rfl rfl rfl rfl (p_index (e := eField) rfl rfl rfl underlying43 rfl (by decide))) <| bindE fun v19 => regp_end rfl) fun o20 => kcl rfl rfl (fun hc => ?_) fun hc => ?_
      · rw [hc]
        refine kr ⟨[(2, (Bo false))], [], 112⟩ rfl <| et k_lret <| et blk_ret <| et loop_ret <| et (hret _) ?_
        rfl
      · rw [hc]
        exact et k_lskip <| et blk_normal <| kl ⟨[(1, (Pt 1)), (3, (I x11)), (4, (Pt 4)), (5, (I (Go.IntKind.wrap .i64 (x18 + 1))))], [(1, vS 8 (eType a0)), (4, vS 3 (eField o13))], 112⟩ rfl <| et loop_normal <| ih (Go.IntKind.wrap .i64 (x18 + 1))
    · rw [hc]
      exact et k_exit <| et loop_exit <| hK0 x18
theorem ref11_fields_L1_ok (k : Nat) (a0 : T_api_Type)  (K0 : Int → Option Bool) (Kst : X × St → Option (V × List V)) (hK0 : ∀ (y0 : Int), Kst (X.exit 0, ⟨[(1, (Pt 1)), (3, (I y0)), (10, (Bo false))], [(1, vS 8 (eType a0))], 112⟩) = (K0 y0).map ref11_fields_fin) (hret : ∀ s, Kst (X.ret, s) = endK prog 112 [(eType a0)] [] [.tmp 2] (X.ret, s)) :
    ∀ (m : Nat) (x11 : Int), (iter (exec prog (EV k) f87n k f87b1) m ⟨[(1, (Pt 1)), (3, (I x11))], [(1, vS 8 (eType a0))], 112⟩).bind Kst = (ref11_fields_L1 k a0 K0 m x11).map ref11_fields_fin := by
  intro m
  induction m with
  | zero => intros; rfl
  | succ m ih =>
    intro x11
    unfold ref11_fields_L1
    refine et k_round <| et k_assoc <| krp f87a2 rfl ⟨[(1, (Pt 1)), (3, (I x11)), (10, (Bo (decide (x11 < (a0.fFields.length : Int)))))], [(1, vS 8 (eType a0))], 112⟩ ?_ ?_
    · exact rd 3 [(6, (I x11)), (7, (V.ptr 1 0 4)), (8, (sField a0.fFields))] rfl rfl <| rl rfl (p_len (e := eField) rfl rfl rfl rfl rfl rfl underlying43) <| bind_end rfl
    refine kc rfl rfl (fun hc => ?_) fun hc => ?_
    · rw [hc]
      refine et k_skip <| et (k_block rfl) <| kg f87a4 rfl (fun (o13 : T_api_Field) => ⟨[(1, (Pt 1)), (3, (I x11)), (4, (Pt 4))], [(1, vS 8 (eType a0)), (4, vS 3 (eField o13))], 112⟩) (rd 3 [(13, (V.ptr 1 0 4)), (14, (sField a0.fFields)), (15, (I x11))] rfl rfl <| rs rfl (p_index (e := eField) rfl rfl rfl underlying43 rfl (by decide)) fun v12 => bind_end rfl) fun o13 => et k_assoc <| kga f87a5 rfl (fun (o15 : Bool) => [(48, (Bo o15))]) ?_ fun o15 => ?_
      · refine rd 2 [(18, (Pt 4)), (19, (Sr o13.fName))] rfl rfl <| rp rfl (p_call rfl rfl rfl rfl rfl (ref11_IsName_ok k o13.fName) (.inl rfl)) fun v14 => bd 5 [(20, (Bo v14)), (21, (Bo (!v14))), (22, (Bo (!v14)))] rfl rfl <| bifE (fun hc => ?_) fun hc => ?_
        · rw [hc]
          exact reg_end rfl
        · rw [hc]
          refine rd 10 [(23, (V.ptr 4 0 1)), (24, (I o13.fAt)), (25, (Bo (decide (o13.fAt < 0)))), (26, (Bo (decide (o13.fAt < 0)))), (27, (Bo (decide (o13.fAt < 0))))] rfl rfl <| bifE (fun hc => ?_) fun hc => ?_
          · rw [hc]
            exact reg_end rfl
          · rw [hc]
            refine rd 17 [(28, (V.ptr 4 0 1)), (29, (I o13.fAt)), (30, (V.ptr 1 0 3)), (31, (I a0.fSize)), (32, (Bo (decide (o13.fAt > a0.fSize)))), (33, (Bo (decide (o13.fAt > a0.fSize)))), (34, (Bo (decide (o13.fAt > a0.fSize))))] rfl rfl <| bifE (fun hc => ?_) fun hc => ?_
            · rw [hc]
              exact reg_end rfl
            · rw [hc]
              refine rd 22 [(35, (V.ptr 4 0 2)), (36, (I o13.fBytes)), (37, (Bo (decide (o13.fBytes < 1)))), (38, (Bo (decide (o13.fBytes < 1)))), (39, (Bo (decide (o13.fBytes < 1))))] rfl rfl <| bifE (fun hc => ?_) fun hc => ?_
              · rw [hc]
                exact reg_end rfl
              · rw [hc]
                exact reg_end rfl
      refine kc rfl rfl (fun hc => ?_) fun hc => ?_
      · rw [hc]
        refine et k_assoc <| kr ⟨[(2, (Bo false))], [], 112⟩ rfl <| et k_ret <| et blk_ret <| et loop_ret <| et (hret _) ?_
        rfl
      · rw [hc]
        refine et k_skip <| kr ⟨[(1, (Pt 1)), (3, (I x11)), (4, (Pt 4)), (5, (I 0))], [(1, vS 8 (eType a0)), (4, vS 3 (eField o13))], 112⟩ rfl <| et (k_lblock rfl) <| et k_loop ?_
        refine ref11_fields_L2_ok k a0 x11 o13 _ _ ?h_ref11_fields_L2_0 ?hr_ref11_fields_L2 k 0
        · intro y21
          exact et blk_exit <| et k_lskip <| et blk_normal <| kl ⟨[(1, (Pt 1)), (3, (I (Go.IntKind.wrap .i64 (x11 + 1))))], [(1, vS 8 (eType a0))], 112⟩ rfl <| et loop_normal <| ih (Go.IntKind.wrap .i64 (x11 + 1))
        · intro s; exact hret s
    · rw [hc]
      exact et k_exit <| et loop_exit <| hK0 x11
theorem ref11_fields_ok (k : Nat) (a0 : T_api_Type) : EV k 87 [(eType a0)] = (ref11_fields k a0).map ref11_fields_fin := by
  cases k with
  | zero => rfl
  | succ k =>
    unfold ref11_fields
    refine et (evF_succ (c := f87c) (N := 112) (regs := f87n) rfl func87 rfl (by decide) rfl rfl rfl) <| kr ⟨[(1, (Pt 1))], [(1, vS 8 (eType a0))], 112⟩ rfl <| et k_assoc <| kra [(3, (I 0))] rfl <| et (k_block rfl) <| et k_loop ?_
    refine ref11_fields_L1_ok k a0 _ _ ?h_ref11_fields_L1_0 ?hr_ref11_fields_L1 k 0
    · intro y22
      refine et blk_exit <| et k_assoc <| kg f87a12 rfl (fun (o23 : Bool) => ⟨[(1, (Pt 1)), (82, (Bo o23))], [(1, vS 8 (eType a0))], 112⟩) ?_ fun o23 => ?_
      · refine rd 4 [(63, (V.ptr 1 0 5)), (64, (I a0.fKey)), (65, (Bo (decide (a0.fKey < (-1))))), (66, (Bo (decide (a0.fKey < (-1)))))] rfl rfl <| bifE (fun hc => ?_) fun hc => ?_
        · rw [hc]
          exact reg_end rfl
        · rw [hc]
          refine rd 8 [(67, (V.ptr 1 0 5)), (68, (I a0.fKey)), (69, (V.ptr 1 0 4)), (70, (sField a0.fFields))] rfl rfl <| rl rfl (p_len (e := eField) rfl rfl rfl rfl rfl rfl underlying43) <| bd 12 [(71, (I (a0.fFields.length : Int))), (72, (Bo (decide (a0.fKey ≥ (a0.fFields.length : Int))))), (73, (Bo (decide (a0.fKey ≥ (a0.fFields.length : Int))))), (74, (Bo (decide (a0.fKey ≥ (a0.fFields.length : Int)))))] rfl rfl <| bifE (fun hc => ?_) fun hc => ?_
          · rw [hc]
            exact reg_end rfl
          · rw [hc]
            refine rd 16 [(75, (V.ptr 1 0 5)), (76, (I a0.fKey)), (77, (Bo (decide (a0.fKey < 0)))), (78, (Bo (decide (a0.fKey < 0))))] rfl rfl <| bifE (fun hc => ?_) fun hc => ?_
            · rw [hc]
              exact reg_end rfl
            · rw [hc]
              exact reg_end rfl
      refine kc rfl rfl (fun hc => ?_) fun hc => ?_
      · rw [hc]
        refine et k_assoc <| kr ⟨[(2, (Bo false))], [], 112⟩ rfl <| et k_ret ?_
        rfl
      · rw [hc]
        refine et k_skip <| kd f87a14 rfl (fun (o26 : Bool) => ⟨[(2, (Bo o26))], [], 112⟩) ?_ fun o26 => ?_
        · refine et (regionE_regp (p := 30) (dk := true) (t := [(1, (Pt 1)), (82, (Bo false))]) (σ := [(1, vS 8 (eType a0))]) (n := 112) rfl (by decide) (by decide) rfl) <| et (regp_adv (m := 2) (j := 2) (t' := [(1, (Pt 1)), (82, (Bo false)), (83, (V.ptr 1 0 4)), (84, (sField a0.fFields))]) rfl rfl rfl) <| et (regp_pure (x := some ()) (w := fun _ => (I (a0.fFields.length : Int))) rfl rfl rfl rfl rfl (p_len (e := eField) rfl rfl rfl rfl rfl rfl underlying43)) <| et some_bind <| et (putp_adv (m := 2) (j := 5) (t' := [(1, (Pt 1)), (82, (Bo false)), (83, (V.ptr 1 0 4)), (84, (sField a0.fFields)), (85, (I (a0.fFields.length : Int))), (86, (Bo (decide ((a0.fFields.length : Int) ≤ 5)))), (87, (Bo (decide ((a0.fFields.length : Int) ≤ 5))))]) rfl rfl rfl) <| bifE (fun hc => ?_) fun hc => ?_
          · rw [hc]
            refine et (regp_adv (m := 4) (j := 9) (t' := [(1, (Pt 1)), (82, (Bo false)), (83, (V.ptr 1 0 4)), (84, (sField a0.fFields)), (85, (I (a0.fFields.length : Int))), (86, (Bo true)), (87, (Bo true)), (88, (V.ptr 1 0 5)), (89, (I a0.fKey)), (90, (Bo (decide (a0.fKey < 0)))), (91, (Bo (decide (a0.fKey < 0))))]) rfl rfl rfl) <| bifE (fun hc => ?_) fun hc => ?_
            · rw [hc]
              exact regp_end rfl
            · rw [hc]
              exact et (regp_adv (m := 4) (j := 13) (t' := [(1, (Pt 1)), (82, (Bo false)), (83, (V.ptr 1 0 4)), (84, (sField a0.fFields)), (85, (I (a0.fFields.length : Int))), (86, (Bo true)), (87, (Bo true)), (88, (V.ptr 1 0 5)), (89, (I a0.fKey)), (90, (Bo false)), (91, (Bo false)), (92, (V.ptr 1 0 4)), (93, (sField a0.fFields)), (94, (V.ptr 1 0 5)), (95, (I a0.fKey))]) rfl rfl rfl) <| et (regp_pure (x := (idx a0.fFields a0.fKey)) (w := fun v24 => (Pr (eField v24))) rfl rfl rfl rfl rfl (p_index (e := eField) rfl rfl rfl underlying43 rfl (by decide))) <| bindE fun v24 => et (putp_adv (m := 6) (j := 20) (t' := [(1, (Pt 1)), (82, (Bo false)), (83, (V.ptr 1 0 4)), (84, (sField a0.fFields)), (85, (I (a0.fFields.length : Int))), (86, (Bo true)), (87, (Bo true)), (88, (V.ptr 1 0 5)), (89, (I a0.fKey)), (90, (Bo false)), (91, (Bo false)), (92, (V.ptr 1 0 4)), (93, (sField a0.fFields)), (94, (V.ptr 1 0 5)), (95, (I a0.fKey)), (96, (Pr (eField v24))), (97, (Pr (I v24.fAt))), (98, (I v24.fAt)), (99, (V.ptr 1 0 4)), (100, (sField a0.fFields)), (101, (V.ptr 1 0 5)), (102, (I a0.fKey))]) rfl rfl rfl) <| et (regp_pure (x := (idx a0.fFields a0.fKey)) (w := fun v25 => (Pr (eField v25))) rfl rfl rfl rfl rfl (p_index (e := eField) rfl rfl rfl underlying43 rfl (by decide))) <| bindE fun v25 => regp_end rfl
          · rw [hc]
            exact regp_end rfl
        refine et k_lret ?_
        rfl
    · intro s; exact rfl
def ref11_above_fin : Bool → V × List V := fun r => ((Bo r), [])
theorem ref11_above_L1_ok (k : Nat) (a0 : T_api_Base) (a1 : Int) (a2 : Int)  (K0 : Int → Option Bool) (Kst : X × St → Option (V × List V)) (hK0 : ∀ (y0 : Int), Kst (X.exit 0, ⟨[(1, (I a1)), (2, (I y0)), (3, (Pt 3)), (14, (Bo false))], [(3, vS 4 (eBase a0))], 24⟩) = (K0 y0).map ref11_above_fin) (hret : ∀ s, Kst (X.ret, s) = endK prog 24 [(eBase a0), (I a1), (I a2)] [] [.tmp 6] (X.ret, s)) :
    ∀ (m : Nat) (x5 : Int), (iter (exec prog (EV k) f88n k f88b0) m ⟨[(1, (I a1)), (2, (I x5)), (3, (Pt 3))], [(3, vS 4 (eBase a0))], 24⟩).bind Kst = (ref11_above_L1 a0 a1 K0 m x5).map ref11_above_fin := by
  intro m
  induction m with
  | zero => intros; rfl
  | succ m ih =>
    intro x5
    unfold ref11_above_L1
    refine et k_round <| et k_assoc <| kra [(14, (Bo (decide (x5 ≥ 0))))] rfl <| kc rfl rfl (fun hc => ?_) fun hc => ?_
    · rw [hc]
      refine et k_skip <| et (k_block rfl) <| kr ⟨[(1, (I a1)), (2, (I x5)), (3, (Pt 3)), (23, (Bo (x5 == a1)))], [(3, vS 4 (eBase a0))], 24⟩ rfl <| kcl rfl rfl (fun hc => ?_) fun hc => ?_
      · rw [hc]
        refine kr ⟨[(6, (Bo true))], [], 24⟩ rfl <| et k_lret <| et blk_ret <| et loop_ret <| et (hret _) ?_
        rfl
      · rw [hc]
        exact et k_lskip <| et blk_normal <| kgl f88a3 rfl (fun (o7 : Int) => ⟨[(1, (I a1)), (2, (I o7)), (3, (Pt 3))], [(3, vS 4 (eBase a0))], 24⟩) (ra 3 3 ⟨[(1, (I a1)), (2, (I x5)), (3, (Pt 3)), (15, (V.ptr 3 0 2)), (16, (sType a0.fTypes)), (17, (I x5)), (23, (Bo false))], [(3, vS 4 (eBase a0))], 24⟩ rfl rfl rfl <| rp rfl (p_index (e := eType) rfl rfl rfl underlying22 rfl (by decide)) fun v6 => bind_end rfl) fun o7 => et loop_normal <| ih o7
    · rw [hc]
      exact et k_exit <| et loop_exit <| hK0 x5
theorem ref11_above_ok (k : Nat) (a0 : T_api_Base) (a1 : Int) (a2 : Int) : EV k 88 [(eBase a0), (I a1), (I a2)] = (ref11_above k a0 a1 a2).map ref11_above_fin := by
  cases k with
  | zero => rfl
  | succ k =>
    unfold ref11_above
    refine et (evF_succ (c := f88c) (N := 24) (regs := f88n) rfl func88 rfl (by decide) rfl rfl rfl) <| kr ⟨[(1, (I a1)), (2, (I a2)), (3, (Pt 3))], [(3, vS 4 (eBase a0))], 24⟩ rfl <| et k_assoc <| kg f88a1 rfl (fun (o2 : Int) => ⟨[(1, (I a1)), (2, (I o2)), (3, (Pt 3))], [(3, vS 4 (eBase a0))], 24⟩) (rd 3 [(7, (V.ptr 3 0 2)), (8, (sType a0.fTypes)), (9, (I a2))] rfl rfl <| rp rfl (p_index (e := eType) rfl rfl rfl underlying22 rfl (by decide)) fun v1 => bind_end rfl) fun o2 => et (k_block rfl) <| et k_loop ?_
    refine ref11_above_L1_ok k a0 a1 a2 _ _ ?h_ref11_above_L1_0 ?hr_ref11_above_L1 k o2
    · intro y8
      refine et blk_exit <| kr ⟨[(6, (Bo false))], [], 24⟩ rfl <| et k_lret ?_
      rfl
    · intro s; exact rfl
def ref11_way_fin : (List Int) → V × List V := fun r => ((sI r), [])
theorem ref11_way_L1_ok (k : Nat) (a0 : T_api_Base) (a1 : Int)  (K0 : Int → (List Int) → Option (List Int)) (Kst : X × St → Option (V × List V)) (hK0 : ∀ (y0 : Int) (y1 : (List Int)), Kst (X.exit 0, ⟨[(1, (I y0)), (2, (Pt 2)), (5, (sI y1)), (7, (Bo false))], [(2, vS 4 (eBase a0))], 19⟩) = (K0 y0 y1).map ref11_way_fin) (hret : ∀ s, Kst (X.ret, s) = endK prog 19 [(eBase a0), (I a1)] [] [.tmp 4] (X.ret, s)) :
    ∀ (m : Nat) (x5 : Int) (x6 : (List Int)), (iter (exec prog (EV k) f89n k f89b0) m ⟨[(1, (I x5)), (2, (Pt 2)), (5, (sI x6))], [(2, vS 4 (eBase a0))], 19⟩).bind Kst = (ref11_way_L1 a0 K0 m x5 x6).map ref11_way_fin := by
  intro m
  induction m with
  | zero => intros; rfl
  | succ m ih =>
    intro x5 x6
    unfold ref11_way_L1
    refine et k_round <| et k_assoc <| kra [(7, (Bo (decide (x5 ≥ 0))))] rfl <| kc rfl rfl (fun hc => ?_) fun hc => ?_
    · rw [hc]
      exact et k_skip <| et (k_lblock rfl) <| kg f89a3 rfl (fun (o8 : (List Int)) => ⟨[(1, (I x5)), (2, (Pt 2)), (5, (sI o8))], [(2, vS 4 (eBase a0))], 19⟩) (rd 3 [(8, (I x5)), (9, (V.sl 1 1 (List.map I ([x5] : List Int)))), (10, (sI x6))] rfl rfl <| et (reg_eff (x := (app ([x5] : List Int) x6)) (w := fun v7 => ((V.sl 1 1 (List.map I v7)), _)) rfl rfl rfl rfl (p_app (e := I) rfl rfl rfl rfl rfl rfl rfl rfl rfl rfl (by decide))) <| bind_self fun v7 => bind_end rfl) fun o8 => kgl f89a4 rfl (fun (o10 : Int) => ⟨[(1, (I o10)), (2, (Pt 2)), (5, (sI o8))], [(2, vS 4 (eBase a0))], 19⟩) (rd 3 [(12, (V.ptr 2 0 2)), (13, (sType a0.fTypes)), (14, (I x5))] rfl rfl <| rp rfl (p_index (e := eType) rfl rfl rfl underlying22 rfl (by decide)) fun v9 => bind_end rfl) fun o10 => et blk_normal <| et k_lskip <| et loop_normal <| ih o10 o8
    · rw [hc]
      exact et k_exit <| et loop_exit <| hK0 x5 x6
theorem ref11_way_ok (k : Nat) (a0 : T_api_Base) (a1 : Int) : EV k 89 [(eBase a0), (I a1)] = (ref11_way k a0 a1).map ref11_way_fin := by
  cases k with
  | zero => rfl
  | succ k =>
    unfold ref11_way
    refine et (evF_succ (c := f89c) (N := 19) (regs := f89n) rfl func89 rfl (by decide) rfl rfl rfl) <| kr ⟨[(1, (I a1)), (2, (Pt 2))], [(2, vS 4 (eBase a0))], 19⟩ rfl <| kra [(5, (sI (([] : List Int))))] rfl <| et (k_block rfl) <| et k_loop ?_
    refine ref11_way_L1_ok k a0 a1 _ _ ?h_ref11_way_L1_0 ?hr_ref11_way_L1 k a1 ([] : List Int)
    · intro y11 y12
      refine et blk_exit <| kr ⟨[(4, (sI y12))], [], 19⟩ rfl <| et k_lret ?_
      rfl
    · intro s; exact rfl
def ref11_Valid_fin : Bool → V × List V := fun r => ((Bo r), [])
theorem ref11_Valid_L2_ok (k : Nat) (a0 : T_api_Base) (x20 : Int) (o22 : T_api_Type)  (K0 : Int → Option Bool) (Kst : X × St → Option (V × List V)) (hK0 : ∀ (y0 : Int), Kst (X.exit 2, ⟨[(1, (Pt 1)), (3, (I x20)), (4, (Pt 4)), (5, (I y0)), (81, (Bo false))], [(1, vS 4 (eBase a0)), (4, vS 8 (eType o22))], 232⟩) = (K0 y0).map ref11_Valid_fin) (hret : ∀ s, Kst (X.ret, s) = endK prog 232 [(eBase a0)] [] [.tmp 2] (X.ret, s)) :
    ∀ (m : Nat) (x28 : Int), (iter (exec prog (EV k) f64n k f64b0) m ⟨[(1, (Pt 1)), (3, (I x20)), (4, (Pt 4)), (5, (I x28))], [(1, vS 4 (eBase a0)), (4, vS 8 (eType o22))], 232⟩).bind Kst = (ref11_Valid_L2 a0 x20 o22 K0 m x28).map ref11_Valid_fin := by
  intro m
  induction m with
  | zero => intros; rfl
  | succ m ih =>
    intro x28
    unfold ref11_Valid_L2
    refine et k_round <| et k_assoc <| kra [(81, (Bo (decide (x28 < x20))))] rfl <| kc rfl rfl (fun hc => ?_) fun hc => ?_
    · rw [hc]
      refine et k_skip <| et (k_block rfl) <| kd f64a12 rfl (fun (o30 : Bool) => ⟨[(1, (Pt 1)), (3, (I x20)), (4, (Pt 4)), (5, (I x28)), (92, (Bo o30))], [(1, vS 4 (eBase a0)), (4, vS 8 (eType o22))], 232⟩) (et (regionE_regp (p := 9) (dk := true) (t := [(1, (Pt 1)), (3, (I x20)), (4, (Pt 4)), (5, (I x28)), (81, (Bo true))]) (σ := [(1, vS 4 (eBase a0)), (4, vS 8 (eType o22))]) (n := 232) rfl (by decide) (by decide) rfl) <| et (regp_adv (m := 3) (j := 3) (t' := [(1, (Pt 1)), (3, (I x20)), (4, (Pt 4)), (5, (I x28)), (81, (Bo true)), (84, (V.ptr 1 0 2)), (85, (sType a0.fTypes)), (86, (I x28))]) rfl rfl rfl) <| et (regp_pure (x := (idx a0.fTypes x28)) (w := fun v29 => (Pr (eType v29))) rfl rfl rfl rfl rfl (p_index (e := eType) rfl rfl rfl underlying22 rfl (by decide))) <| bindE fun v29 => regp_end rfl) fun o30 => kcl rfl rfl (fun hc => ?_) fun hc => ?_
      · rw [hc]
        refine kr ⟨[(2, (Bo false))], [], 232⟩ rfl <| et k_lret <| et blk_ret <| et loop_ret <| et (hret _) ?_
        rfl
      · rw [hc]
        exact et k_lskip <| et blk_normal <| kl ⟨[(1, (Pt 1)), (3, (I x20)), (4, (Pt 4)), (5, (I (Go.IntKind.wrap .i64 (x28 + 1))))], [(1, vS 4 (eBase a0)), (4, vS 8 (eType o22))], 232⟩ rfl <| et loop_normal <| ih (Go.IntKind.wrap .i64 (x28 + 1))
    · rw [hc]
      exact et k_exit <| et loop_exit <| hK0 x28
theorem ref11_Valid_L1_ok (k : Nat) (a0 : T_api_Base)  (K0 : Int → Option Bool) (Kst : X × St → Option (V × List V)) (hK0 : ∀ (y0 : Int), Kst (X.exit 0, ⟨[(1, (Pt 1)), (3, (I y0)), (45, (Bo false))], [(1, vS 4 (eBase a0))], 232⟩) = (K0 y0).map ref11_Valid_fin) (hret : ∀ s, Kst (X.ret, s) = endK prog 232 [(eBase a0)] [] [.tmp 2] (X.ret, s)) :
    ∀ (m : Nat) (x20 : Int), (iter (exec prog (EV k) f64n k f64b1) m ⟨[(1, (Pt 1)), (3, (I x20))], [(1, vS 4 (eBase a0))], 232⟩).bind Kst = (ref11_Valid_L1 k a0 K0 m x20).map ref11_Valid_fin := by
  intro m
  induction m with
  | zero => intros; rfl
  | succ m ih =>
    intro x20
    unfold ref11_Valid_L1
    refine et k_round <| et k_assoc <| krp f64a4 rfl ⟨[(1, (Pt 1)), (3, (I x20)), (45, (Bo (decide (x20 < (a0.fTypes.length : Int)))))], [(1, vS 4 (eBase a0))], 232⟩ ?_ ?_
    · exact rd 3 [(41, (I x20)), (42, (V.ptr 1 0 2)), (43, (sType a0.fTypes))] rfl rfl <| rl rfl (p_len (e := eType) rfl rfl rfl rfl rfl rfl underlying22) <| bind_end rfl
    refine kc rfl rfl (fun hc => ?_) fun hc => ?_
    · rw [hc]
      refine et k_skip <| et (k_block rfl) <| kg f64a6 rfl (fun (o22 : T_api_Type) => ⟨[(1, (Pt 1)), (3, (I x20)), (4, (Pt 4))], [(1, vS 4 (eBase a0)), (4, vS 8 (eType o22))], 232⟩) (rd 3 [(48, (V.ptr 1 0 2)), (49, (sType a0.fTypes)), (50, (I x20))] rfl rfl <| rs rfl (p_index (e := eType) rfl rfl rfl underlying22 rfl (by decide)) fun v21 => bind_end rfl) fun o22 => et k_assoc <| kga f64a7 rfl (fun (o25 : Bool) => [(78, (Bo o25))]) ?_ fun o25 => ?_
      · refine rd 2 [(53, (Pt 4)), (54, (Sr o22.fName))] rfl rfl <| rp rfl (p_call rfl rfl rfl rfl rfl (ref11_IsName_ok k o22.fName) (.inl rfl)) fun v23 => bd 5 [(55, (Bo v23)), (56, (Bo (!v23))), (57, (Bo (!v23)))] rfl rfl <| bifE (fun hc => ?_) fun hc => ?_
        · rw [hc]
          exact reg_end rfl
        · rw [hc]
          refine rd 10 [(58, (V.ptr 4 0 2)), (59, (I o22.fMin)), (60, (Bo (decide (o22.fMin < 1)))), (61, (Bo (decide (o22.fMin < 1)))), (62, (Bo (decide (o22.fMin < 1))))] rfl rfl <| bifE (fun hc => ?_) fun hc => ?_
          · rw [hc]
            exact reg_end rfl
          · rw [hc]
            refine rd 17 [(63, (V.ptr 4 0 2)), (64, (I o22.fMin)), (65, (V.ptr 4 0 3)), (66, (I o22.fSize)), (67, (Bo (decide (o22.fMin > o22.fSize)))), (68, (Bo (decide (o22.fMin > o22.fSize)))), (69, (Bo (decide (o22.fMin > o22.fSize))))] rfl rfl <| bifE (fun hc => ?_) fun hc => ?_
            · rw [hc]
              exact reg_end rfl
            · rw [hc]
              refine rd 22 [(70, (V.ptr 4 0 3)), (71, (I o22.fSize)), (72, (Bo (decide (o22.fSize > 40)))), (73, (Bo (decide (o22.fSize > 40)))), (74, (Bo (decide (o22.fSize > 40))))] rfl rfl <| bifE (fun hc => ?_) fun hc => ?_
              · rw [hc]
                exact reg_end rfl
              · rw [hc]
                exact rd 23 [(75, (eType o22))] rfl rfl <| rp rfl (p_call rfl rfl rfl rfl rfl (ref11_fields_ok k o22) (.inl rfl)) fun v24 => bind_end rfl
      refine kc rfl rfl (fun hc => ?_) fun hc => ?_
      · rw [hc]
        refine et k_assoc <| kr ⟨[(2, (Bo false))], [], 232⟩ rfl <| et k_ret <| et blk_ret <| et loop_ret <| et (hret _) ?_
        rfl
      · rw [hc]
        refine et k_skip <| et k_assoc <| kr ⟨[(1, (Pt 1)), (3, (I x20)), (4, (Pt 4)), (5, (I 0))], [(1, vS 4 (eBase a0)), (4, vS 8 (eType o22))], 232⟩ rfl <| et (k_block rfl) <| et k_loop ?_
        refine ref11_Valid_L2_ok k a0 x20 o22 _ _ ?h_ref11_Valid_L2_0 ?hr_ref11_Valid_L2 k 0
        · intro y31
          refine et blk_exit <| et k_assoc <| kr ⟨[(1, (Pt 1)), (3, (I x20)), (4, (Pt 4)), (94, (Bo (x20 == 0)))], [(1, vS 4 (eBase a0)), (4, vS 8 (eType o22))], 232⟩ rfl <| kc rfl rfl (fun hc => ?_) fun hc => ?_
          · rw [hc]
            refine et k_assoc <| et k_assoc <| kg f64a15 rfl (fun (o33 : Bool) => ⟨[(1, (Pt 1)), (3, (I x20)), (117, (Bo o33))], [(1, vS 4 (eBase a0))], 232⟩) ?_ fun o33 => ?_
            · refine rd 4 [(95, (V.ptr 4 0 1)), (96, (I o22.fParent)), (97, (Bo (o22.fParent != (-1)))), (98, (Bo (o22.fParent != (-1))))] rfl rfl <| bifE (fun hc => ?_) fun hc => ?_
              · rw [hc]
                exact reg_end rfl
              · rw [hc]
                refine rd 9 [(99, (V.ptr 4 0 5)), (100, (I o22.fKey)), (101, (Bo (decide (o22.fKey < 0)))), (102, (Bo (decide (o22.fKey < 0)))), (103, (Bo (decide (o22.fKey < 0))))] rfl rfl <| bifE (fun hc => ?_) fun hc => ?_
                · rw [hc]
                  exact reg_end rfl
                · rw [hc]
                  refine rd 14 [(104, (V.ptr 4 0 6)), (105, (Bo o22.fUnique)), (106, (Bo (!o22.fUnique))), (107, (Bo (!o22.fUnique))), (108, (Bo (!o22.fUnique)))] rfl rfl <| bifE (fun hc => ?_) fun hc => ?_
                  · rw [hc]
                    exact reg_end rfl
                  · rw [hc]
                    exact rd 18 [(109, (V.ptr 4 0 4)), (110, (sField o22.fFields)), (111, (V.ptr 4 0 5)), (112, (I o22.fKey))] rfl rfl <| rp rfl (p_index (e := eField) rfl rfl rfl underlying43 rfl (by decide)) fun v32 => bind_end rfl
            refine kc rfl rfl (fun hc => ?_) fun hc => ?_
            · rw [hc]
              refine et k_assoc <| kr ⟨[(2, (Bo false))], [], 232⟩ rfl <| et k_ret <| et blk_ret <| et loop_ret <| et (hret _) ?_
              rfl
            · rw [hc]
              exact et k_skip <| et k_exit <| et blk_exit <| kl ⟨[(1, (Pt 1)), (3, (I (Go.IntKind.wrap .i64 (x20 + 1))))], [(1, vS 4 (eBase a0))], 232⟩ rfl <| et loop_normal <| ih (Go.IntKind.wrap .i64 (x20 + 1))
          · rw [hc]
            refine et k_skip <| kg f64a17 rfl (fun (o37 : Bool) => ⟨[(1, (Pt 1)), (3, (I x20)), (149, (Bo o37))], [(1, vS 4 (eBase a0))], 232⟩) ?_ fun o37 => ?_
            · refine rd 4 [(118, (V.ptr 4 0 1)), (119, (I o22.fParent)), (120, (Bo (decide (o22.fParent < 0)))), (121, (Bo (decide (o22.fParent < 0))))] rfl rfl <| bifE (fun hc => ?_) fun hc => ?_
              · rw [hc]
                exact reg_end rfl
              · rw [hc]
                refine rd 10 [(122, (V.ptr 4 0 1)), (123, (I o22.fParent)), (124, (I x20)), (125, (Bo (decide (o22.fParent ≥ x20)))), (126, (Bo (decide (o22.fParent ≥ x20)))), (127, (Bo (decide (o22.fParent ≥ x20))))] rfl rfl <| bifE (fun hc => ?_) fun hc => ?_
                · rw [hc]
                  exact reg_end rfl
                · rw [hc]
                  refine rd 16 [(128, (V.ptr 4 0 1)), (129, (I o22.fParent)), (130, (I x20)), (131, (I (Go.IntKind.wrap .i64 (x20 - 1)))), (132, (Bo (o22.fParent != (Go.IntKind.wrap .i64 (x20 - 1))))), (133, (Bo (o22.fParent != (Go.IntKind.wrap .i64 (x20 - 1)))))] rfl rfl <| bifE (fun hc => ?_) fun hc => ?_
                  · rw [hc]
                    refine rd 21 [(134, (eBase a0)), (135, (V.ptr 4 0 1)), (136, (I o22.fParent)), (137, (I x20)), (138, (I (Go.IntKind.wrap .i64 (x20 - 1))))] rfl rfl <| rp rfl (p_call rfl rfl rfl rfl rfl (ref11_above_ok k a0 o22.fParent (Go.IntKind.wrap .i64 (x20 - 1))) (.inl rfl)) fun v34 => bd 26 [(139, (Bo v34)), (140, (Bo (!v34))), (141, (Bo (!v34))), (142, (Bo (!v34))), (143, (Bo (!v34)))] rfl rfl <| bifE (fun hc => ?_) fun hc => ?_
                    · rw [hc]
                      exact reg_end rfl
                    · rw [hc]
                      exact rd 28 [(144, (eBase a0)), (145, (I x20))] rfl rfl <| rp rfl (p_call rfl rfl rfl rfl rfl (ref11_way_ok k a0 x20) (.inl rfl)) fun v35 => bd 29 [(146, (sI v35))] rfl rfl <| rl rfl (p_len (e := I) rfl rfl rfl rfl rfl rfl underlying87) <| bind_end rfl
                  · rw [hc]
                    exact rd 28 [(134, (V.tup [])), (135, (V.tup [])), (136, (V.tup [])), (137, (V.tup [])), (138, (V.tup [])), (139, (V.tup [])), (140, (V.tup [])), (141, (Bo false)), (142, (Bo false)), (143, (Bo false)), (144, (eBase a0)), (145, (I x20))] rfl rfl <| rp rfl (p_call rfl rfl rfl rfl rfl (ref11_way_ok k a0 x20) (.inl rfl)) fun v36 => bd 29 [(146, (sI v36))] rfl rfl <| rl rfl (p_len (e := I) rfl rfl rfl rfl rfl rfl underlying87) <| bind_end rfl
            refine kcl rfl rfl (fun hc => ?_) fun hc => ?_
            · rw [hc]
              refine kr ⟨[(2, (Bo false))], [], 232⟩ rfl <| et k_lret <| et blk_ret <| et loop_ret <| et (hret _) ?_
              rfl
            · rw [hc]
              exact et k_lskip <| et blk_normal <| kl ⟨[(1, (Pt 1)), (3, (I (Go.IntKind.wrap .i64 (x20 + 1))))], [(1, vS 4 (eBase a0))], 232⟩ rfl <| et loop_normal <| ih (Go.IntKind.wrap .i64 (x20 + 1))
        · intro s; exact hret s
    · rw [hc]
      exact et k_exit <| et loop_exit <| hK0 x20
theorem ref11_Valid_L4_ok (k : Nat) (a0 : T_api_Base) (x52 : Int) (o54 : T_api_Search)  (K0 : Int → Option Bool) (Kst : X × St → Option (V × List V)) (hK0 : ∀ (y0 : Int), Kst (X.exit 6, ⟨[(1, (Pt 1)), (6, (I x52)), (7, (Pt 7)), (8, (I y0)), (220, (Bo false))], [(1, vS 4 (eBase a0)), (7, vS 4 (eSearch o54))], 232⟩) = (K0 y0).map ref11_Valid_fin) (hret : ∀ s, Kst (X.ret, s) = endK prog 232 [(eBase a0)] [] [.tmp 2] (X.ret, s)) :
    ∀ (m : Nat) (x62 : Int), (iter (exec prog (EV k) f64n k f64b2) m ⟨[(1, (Pt 1)), (6, (I x52)), (7, (Pt 7)), (8, (I x62))], [(1, vS 4 (eBase a0)), (7, vS 4 (eSearch o54))], 232⟩).bind Kst = (ref11_Valid_L4 a0 x52 o54 K0 m x62).map ref11_Valid_fin := by
  intro m
  induction m with
  | zero => intros; rfl
  | succ m ih =>
    intro x62
    unfold ref11_Valid_L4
    refine et k_round <| et k_assoc <| kra [(220, (Bo (decide (x62 < x52))))] rfl <| kc rfl rfl (fun hc => ?_) fun hc => ?_
    · rw [hc]
      refine et k_skip <| et (k_block rfl) <| kd f64a28 rfl (fun (o64 : Bool) => ⟨[(1, (Pt 1)), (6, (I x52)), (7, (Pt 7)), (8, (I x62)), (231, (Bo o64))], [(1, vS 4 (eBase a0)), (7, vS 4 (eSearch o54))], 232⟩) (et (regionE_regp (p := 9) (dk := true) (t := [(1, (Pt 1)), (6, (I x52)), (7, (Pt 7)), (8, (I x62)), (220, (Bo true))]) (σ := [(1, vS 4 (eBase a0)), (7, vS 4 (eSearch o54))]) (n := 232) rfl (by decide) (by decide) rfl) <| et (regp_adv (m := 3) (j := 3) (t' := [(1, (Pt 1)), (6, (I x52)), (7, (Pt 7)), (8, (I x62)), (220, (Bo true)), (223, (V.ptr 1 0 3)), (224, (sSearch a0.fIndexes)), (225, (I x62))]) rfl rfl rfl) <| et (regp_pure (x := (idx a0.fIndexes x62)) (w := fun v63 => (Pr (eSearch v63))) rfl rfl rfl rfl rfl (p_index (e := eSearch) rfl rfl rfl underlying23 rfl (by decide))) <| bindE fun v63 => regp_end rfl) fun o64 => kcl rfl rfl (fun hc => ?_) fun hc => ?_
      · rw [hc]
        refine kr ⟨[(2, (Bo false))], [], 232⟩ rfl <| et k_lret <| et blk_ret <| et loop_ret <| et (hret _) ?_
        rfl
      · rw [hc]
        exact et k_lskip <| et blk_normal <| kl ⟨[(1, (Pt 1)), (6, (I x52)), (7, (Pt 7)), (8, (I (Go.IntKind.wrap .i64 (x62 + 1))))], [(1, vS 4 (eBase a0)), (7, vS 4 (eSearch o54))], 232⟩ rfl <| et loop_normal <| ih (Go.IntKind.wrap .i64 (x62 + 1))
    · rw [hc]
      exact et k_exit <| et loop_exit <| hK0 x62
theorem ref11_Valid_L3_ok (k : Nat) (a0 : T_api_Base)  (K0 : Int → Option Bool) (Kst : X × St → Option (V × List V)) (hK0 : ∀ (y0 : Int), Kst (X.exit 4, ⟨[(1, (Pt 1)), (6, (I y0)), (154, (Bo false))], [(1, vS 4 (eBase a0))], 232⟩) = (K0 y0).map ref11_Valid_fin) (hret : ∀ s, Kst (X.ret, s) = endK prog 232 [(eBase a0)] [] [.tmp 2] (X.ret, s)) :
    ∀ (m : Nat) (x52 : Int), (iter (exec prog (EV k) f64n k f64b3) m ⟨[(1, (Pt 1)), (6, (I x52))], [(1, vS 4 (eBase a0))], 232⟩).bind Kst = (ref11_Valid_L3 k a0 K0 m x52).map ref11_Valid_fin := by
  intro m
  induction m with
  | zero => intros; rfl
  | succ m ih =>
    intro x52
    unfold ref11_Valid_L3
    refine et k_round <| et k_assoc <| krp f64a20 rfl ⟨[(1, (Pt 1)), (6, (I x52)), (154, (Bo (decide (x52 < (a0.fIndexes.length : Int)))))], [(1, vS 4 (eBase a0))], 232⟩ ?_ ?_
    · exact rd 3 [(150, (I x52)), (151, (V.ptr 1 0 3)), (152, (sSearch a0.fIndexes))] rfl rfl <| rl rfl (p_len (e := eSearch) rfl rfl rfl rfl rfl rfl underlying23) <| bind_end rfl
    refine kc rfl rfl (fun hc => ?_) fun hc => ?_
    · rw [hc]
      refine et k_skip <| et (k_block rfl) <| kg f64a22 rfl (fun (o54 : T_api_Search) => ⟨[(1, (Pt 1)), (6, (I x52)), (7, (Pt 7))], [(1, vS 4 (eBase a0)), (7, vS 4 (eSearch o54))], 232⟩) (rd 3 [(157, (V.ptr 1 0 3)), (158, (sSearch a0.fIndexes)), (159, (I x52))] rfl rfl <| rs rfl (p_index (e := eSearch) rfl rfl rfl underlying23 rfl (by decide)) fun v53 => bind_end rfl) fun o54 => et k_assoc <| kd f64a23 rfl (fun (o59 : Bool) => ⟨[(1, (Pt 1)), (6, (I x52)), (7, (Pt 7)), (217, (Bo o59))], [(1, vS 4 (eBase a0)), (7, vS 4 (eSearch o54))], 232⟩) ?_ fun o59 => ?_
      · refine et (regionE_regp (p := 56) (dk := true) (t := [(1, (Pt 1)), (6, (I x52)), (7, (Pt 7))]) (σ := [(1, vS 4 (eBase a0)), (7, vS 4 (eSearch o54))]) (n := 232) rfl (by decide) (by decide) rfl) <| et (regp_adv (m := 2) (j := 2) (t' := [(1, (Pt 1)), (6, (I x52)), (7, (Pt 7)), (162, (Pt 7)), (163, (Sr o54.fName))]) rfl rfl rfl) <| et (regp_pure (x := (ref11_IsName k o54.fName)) (w := fun v55 => (Bo v55)) rfl rfl rfl rfl rfl (p_call rfl rfl rfl rfl rfl (ref11_IsName_ok k o54.fName) (.inl rfl))) <| bindE fun v55 => et (putp_adv (m := 2) (j := 5) (t' := [(1, (Pt 1)), (6, (I x52)), (7, (Pt 7)), (162, (Pt 7)), (163, (Sr o54.fName)), (164, (Bo v55)), (165, (Bo (!v55))), (166, (Bo (!v55)))]) rfl rfl rfl) <| bifE (fun hc => ?_) fun hc => ?_
        · rw [hc]
          exact regp_end rfl
        · rw [hc]
          refine et (regp_adv (m := 5) (j := 10) (t' := [(1, (Pt 1)), (6, (I x52)), (7, (Pt 7)), (162, (Pt 7)), (163, (Sr o54.fName)), (164, (Bo v55)), (165, (Bo false)), (166, (Bo false)), (167, (V.ptr 7 0 1)), (168, (I o54.fType)), (169, (Bo (decide (o54.fType < 0)))), (170, (Bo (decide (o54.fType < 0)))), (171, (Bo (decide (o54.fType < 0))))]) rfl rfl rfl) <| bifE (fun hc => ?_) fun hc => ?_
          · rw [hc]
            exact regp_end rfl
          · rw [hc]
            refine et (regp_adv (m := 4) (j := 14) (t' := [(1, (Pt 1)), (6, (I x52)), (7, (Pt 7)), (162, (Pt 7)), (163, (Sr o54.fName)), (164, (Bo v55)), (165, (Bo false)), (166, (Bo false)), (167, (V.ptr 7 0 1)), (168, (I o54.fType)), (169, (Bo false)), (170, (Bo false)), (171, (Bo false)), (172, (V.ptr 7 0 1)), (173, (I o54.fType)), (174, (V.ptr 1 0 2)), (175, (sType a0.fTypes))]) rfl rfl rfl) <| et (regp_pure (x := some ()) (w := fun _ => (I (a0.fTypes.length : Int))) rfl rfl rfl rfl rfl (p_len (e := eType) rfl rfl rfl rfl rfl rfl underlying22)) <| et some_bind <| et (putp_adv (m := 3) (j := 18) (t' := [(1, (Pt 1)), (6, (I x52)), (7, (Pt 7)), (162, (Pt 7)), (163, (Sr o54.fName)), (164, (Bo v55)), (165, (Bo false)), (166, (Bo false)), (167, (V.ptr 7 0 1)), (168, (I o54.fType)), (169, (Bo false)), (170, (Bo false)), (171, (Bo false)), (172, (V.ptr 7 0 1)), (173, (I o54.fType)), (174, (V.ptr 1 0 2)), (175, (sType a0.fTypes)), (176, (I (a0.fTypes.length : Int))), (177, (Bo (decide (o54.fType ≥ (a0.fTypes.length : Int))))), (178, (Bo (decide (o54.fType ≥ (a0.fTypes.length : Int))))), (179, (Bo (decide (o54.fType ≥ (a0.fTypes.length : Int)))))]) rfl rfl rfl) <| bifE (fun hc => ?_) fun hc => ?_
            · rw [hc]
              exact regp_end rfl
            · rw [hc]
              refine et (regp_adv (m := 5) (j := 23) (t' := [(1, (Pt 1)), (6, (I x52)), (7, (Pt 7)), (162, (Pt 7)), (163, (Sr o54.fName)), (164, (Bo v55)), (165, (Bo false)), (166, (Bo false)), (167, (V.ptr 7 0 1)), (168, (I o54.fType)), (169, (Bo false)), (170, (Bo false)), (171, (Bo false)), (172, (V.ptr 7 0 1)), (173, (I o54.fType)), (174, (V.ptr 1 0 2)), (175, (sType a0.fTypes)), (176, (I (a0.fTypes.length : Int))), (177, (Bo false)), (178, (Bo false)), (179, (Bo false)), (180, (V.ptr 7 0 2)), (181, (I o54.fField)), (182, (Bo (decide (o54.fField < 0)))), (183, (Bo (decide (o54.fField < 0)))), (184, (Bo (decide (o54.fField < 0))))]) rfl rfl rfl) <| bifE (fun hc => ?_) fun hc => ?_
              · rw [hc]
                exact regp_end rfl
              · rw [hc]
                refine et (regp_adv (m := 6) (j := 29) (t' := [(1, (Pt 1)), (6, (I x52)), (7, (Pt 7)), (162, (Pt 7)), (163, (Sr o54.fName)), (164, (Bo v55)), (165, (Bo false)), (166, (Bo false)), (167, (V.ptr 7 0 1)), (168, (I o54.fType)), (169, (Bo false)), (170, (Bo false)), (171, (Bo false)), (172, (V.ptr 7 0 1)), (173, (I o54.fType)), (174, (V.ptr 1 0 2)), (175, (sType a0.fTypes)), (176, (I (a0.fTypes.length : Int))), (177, (Bo false)), (178, (Bo false)), (179, (Bo false)), (180, (V.ptr 7 0 2)), (181, (I o54.fField)), (182, (Bo false)), (183, (Bo false)), (184, (Bo false)), (185, (V.ptr 7 0 2)), (186, (I o54.fField)), (187, (V.ptr 1 0 2)), (188, (sType a0.fTypes)), (189, (V.ptr 7 0 1)), (190, (I o54.fType))]) rfl rfl rfl) <| et (regp_pure (x := (idx a0.fTypes o54.fType)) (w := fun v56 => (Pr (eType v56))) rfl rfl rfl rfl rfl (p_index (e := eType) rfl rfl rfl underlying22 rfl (by decide))) <| bindE fun v56 => et (putp_adv (m := 2) (j := 32) (t' := [(1, (Pt 1)), (6, (I x52)), (7, (Pt 7)), (162, (Pt 7)), (163, (Sr o54.fName)), (164, (Bo v55)), (165, (Bo false)), (166, (Bo false)), (167, (V.ptr 7 0 1)), (168, (I o54.fType)), (169, (Bo false)), (170, (Bo false)), (171, (Bo false)), (172, (V.ptr 7 0 1)), (173, (I o54.fType)), (174, (V.ptr 1 0 2)), (175, (sType a0.fTypes)), (176, (I (a0.fTypes.length : Int))), (177, (Bo false)), (178, (Bo false)), (179, (Bo false)), (180, (V.ptr 7 0 2)), (181, (I o54.fField)), (182, (Bo false)), (183, (Bo false)), (184, (Bo false)), (185, (V.ptr 7 0 2)), (186, (I o54.fField)), (187, (V.ptr 1 0 2)), (188, (sType a0.fTypes)), (189, (V.ptr 7 0 1)), (190, (I o54.fType)), (191, (Pr (eType v56))), (192, (Pr (sField v56.fFields))), (193, (sField v56.fFields))]) rfl rfl rfl) <| et (regp_pure (x := some ()) (w := fun _ => (I (v56.fFields.length : Int))) rfl rfl rfl rfl rfl (p_len (e := eField) rfl rfl rfl rfl rfl rfl underlying43)) <| et some_bind <| et (putp_adv (m := 3) (j := 36) (t' := [(1, (Pt 1)), (6, (I x52)), (7, (Pt 7)), (162, (Pt 7)), (163, (Sr o54.fName)), (164, (Bo v55)), (165, (Bo false)), (166, (Bo false)), (167, (V.ptr 7 0 1)), (168, (I o54.fType)), (169, (Bo false)), (170, (Bo false)), (171, (Bo false)), (172, (V.ptr 7 0 1)), (173, (I o54.fType)), (174, (V.ptr 1 0 2)), (175, (sType a0.fTypes)), (176, (I (a0.fTypes.length : Int))), (177, (Bo false)), (178, (Bo false)), (179, (Bo false)), (180, (V.ptr 7 0 2)), (181, (I o54.fField)), (182, (Bo false)), (183, (Bo false)), (184, (Bo false)), (185, (V.ptr 7 0 2)), (186, (I o54.fField)), (187, (V.ptr 1 0 2)), (188, (sType a0.fTypes)), (189, (V.ptr 7 0 1)), (190, (I o54.fType)), (191, (Pr (eType v56))), (192, (Pr (sField v56.fFields))), (193, (sField v56.fFields)), (194, (I (v56.fFields.length : Int))), (195, (Bo (decide (o54.fField ≥ (v56.fFields.length : Int))))), (196, (Bo (decide (o54.fField ≥ (v56.fFields.length : Int))))), (197, (Bo (decide (o54.fField ≥ (v56.fFields.length : Int)))))]) rfl rfl rfl) <| bifE (fun hc => ?_) fun hc => ?_
                · rw [hc]
                  exact regp_end rfl
                · rw [hc]
                  refine et (regp_adv (m := 4) (j := 40) (t' := [(1, (Pt 1)), (6, (I x52)), (7, (Pt 7)), (162, (Pt 7)), (163, (Sr o54.fName)), (164, (Bo v55)), (165, (Bo false)), (166, (Bo false)), (167, (V.ptr 7 0 1)), (168, (I o54.fType)), (169, (Bo false)), (170, (Bo false)), (171, (Bo false)), (172, (V.ptr 7 0 1)), (173, (I o54.fType)), (174, (V.ptr 1 0 2)), (175, (sType a0.fTypes)), (176, (I (a0.fTypes.length : Int))), (177, (Bo false)), (178, (Bo false)), (179, (Bo false)), (180, (V.ptr 7 0 2)), (181, (I o54.fField)), (182, (Bo false)), (183, (Bo false)), (184, (Bo false)), (185, (V.ptr 7 0 2)), (186, (I o54.fField)), (187, (V.ptr 1 0 2)), (188, (sType a0.fTypes)), (189, (V.ptr 7 0 1)), (190, (I o54.fType)), (191, (Pr (eType v56))), (192, (Pr (sField v56.fFields))), (193, (sField v56.fFields)), (194, (I (v56.fFields.length : Int))), (195, (Bo false)), (196, (Bo false)), (197, (Bo false)), (198, (V.ptr 1 0 2)), (199, (sType a0.fTypes)), (200, (V.ptr 7 0 1)), (201, (I o54.fType))]) rfl rfl rfl) <| et (regp_pure (x := (idx a0.fTypes o54.fType)) (w := fun v57 => (Pr (eType v57))) rfl rfl rfl rfl rfl (p_index (e := eType) rfl rfl rfl underlying22 rfl (by decide))) <| bindE fun v57 => et (putp_adv (m := 4) (j := 45) (t' := [(1, (Pt 1)), (6, (I x52)), (7, (Pt 7)), (162, (Pt 7)), (163, (Sr o54.fName)), (164, (Bo v55)), (165, (Bo false)), (166, (Bo false)), (167, (V.ptr 7 0 1)), (168, (I o54.fType)), (169, (Bo false)), (170, (Bo false)), (171, (Bo false)), (172, (V.ptr 7 0 1)), (173, (I o54.fType)), (174, (V.ptr 1 0 2)), (175, (sType a0.fTypes)), (176, (I (a0.fTypes.length : Int))), (177, (Bo false)), (178, (Bo false)), (179, (Bo false)), (180, (V.ptr 7 0 2)), (181, (I o54.fField)), (182, (Bo false)), (183, (Bo false)), (184, (Bo false)), (185, (V.ptr 7 0 2)), (186, (I o54.fField)), (187, (V.ptr 1 0 2)), (188, (sType a0.fTypes)), (189, (V.ptr 7 0 1)), (190, (I o54.fType)), (191, (Pr (eType v56))), (192, (Pr (sField v56.fFields))), (193, (sField v56.fFields)), (194, (I (v56.fFields.length : Int))), (195, (Bo false)), (196, (Bo false)), (197, (Bo false)), (198, (V.ptr 1 0 2)), (199, (sType a0.fTypes)), (200, (V.ptr 7 0 1)), (201, (I o54.fType)), (202, (Pr (eType v57))), (203, (Pr (sField v57.fFields))), (204, (sField v57.fFields)), (205, (V.ptr 7 0 2)), (206, (I o54.fField))]) rfl rfl rfl) <| et (regp_pure (x := (idx v57.fFields o54.fField)) (w := fun v58 => (Pr (eField v58))) rfl rfl rfl rfl rfl (p_index (e := eField) rfl rfl rfl underlying43 rfl (by decide))) <| bindE fun v58 => et (putp_adv (m := 5) (j := 51) (t' := [(1, (Pt 1)), (6, (I x52)), (7, (Pt 7)), (162, (Pt 7)), (163, (Sr o54.fName)), (164, (Bo v55)), (165, (Bo false)), (166, (Bo false)), (167, (V.ptr 7 0 1)), (168, (I o54.fType)), (169, (Bo false)), (170, (Bo false)), (171, (Bo false)), (172, (V.ptr 7 0 1)), (173, (I o54.fType)), (174, (V.ptr 1 0 2)), (175, (sType a0.fTypes)), (176, (I (a0.fTypes.length : Int))), (177, (Bo false)), (178, (Bo false)), (179, (Bo false)), (180, (V.ptr 7 0 2)), (181, (I o54.fField)), (182, (Bo false)), (183, (Bo false)), (184, (Bo false)), (185, (V.ptr 7 0 2)), (186, (I o54.fField)), (187, (V.ptr 1 0 2)), (188, (sType a0.fTypes)), (189, (V.ptr 7 0 1)), (190, (I o54.fType)), (191, (Pr (eType v56))), (192, (Pr (sField v56.fFields))), (193, (sField v56.fFields)), (194, (I (v56.fFields.length : Int))), (195, (Bo false)), (196, (Bo false)), (197, (Bo false)), (198, (V.ptr 1 0 2)), (199, (sType a0.fTypes)), (200, (V.ptr 7 0 1)), (201, (I o54.fType)), (202, (Pr (eType v57))), (203, (Pr (sField v57.fFields))), (204, (sField v57.fFields)), (205, (V.ptr 7 0 2)), (206, (I o54.fField)), (207, (Pr (eField v58))), (208, (Pr (I v58.fBytes))), (209, (I v58.fBytes)), (210, (Bo (decide (v58.fBytes > 20)))), (211, (Bo (decide (v58.fBytes > 20)))), (212, (Bo (decide (v58.fBytes > 20))))]) rfl rfl rfl) <| bifE (fun hc => ?_) fun hc => ?_
                  · rw [hc]
                    exact regp_end rfl
                  · rw [hc]
                    exact regp_end rfl
      refine kc rfl rfl (fun hc => ?_) fun hc => ?_
      · rw [hc]
        refine et k_assoc <| kr ⟨[(2, (Bo false))], [], 232⟩ rfl <| et k_ret <| et blk_ret <| et loop_ret <| et (hret _) ?_
        rfl
      · rw [hc]
        refine et k_skip <| kr ⟨[(1, (Pt 1)), (6, (I x52)), (7, (Pt 7)), (8, (I 0))], [(1, vS 4 (eBase a0)), (7, vS 4 (eSearch o54))], 232⟩ rfl <| et (k_lblock rfl) <| et k_loop ?_
        refine ref11_Valid_L4_ok k a0 x52 o54 _ _ ?h_ref11_Valid_L4_0 ?hr_ref11_Valid_L4 k 0
        · intro y65
          exact et blk_exit <| et k_lskip <| et blk_normal <| kl ⟨[(1, (Pt 1)), (6, (I (Go.IntKind.wrap .i64 (x52 + 1))))], [(1, vS 4 (eBase a0))], 232⟩ rfl <| et loop_normal <| ih (Go.IntKind.wrap .i64 (x52 + 1))
        · intro s; exact hret s
    · rw [hc]
      exact et k_exit <| et loop_exit <| hK0 x52
theorem ref11_Valid_ok (k : Nat) (a0 : T_api_Base) : EV k 64 [(eBase a0)] = (ref11_Valid k a0).map ref11_Valid_fin := by
  cases k with
  | zero => rfl
  | succ k =>
    unfold ref11_Valid
    refine et (evF_succ (c := f64c) (N := 232) (regs := f64n) rfl func64 rfl (by decide) rfl rfl rfl) <| kr ⟨[(1, (Pt 1))], [(1, vS 4 (eBase a0))], 232⟩ rfl <| et k_assoc <| kga f64a1 rfl (fun (o2 : Bool) => [(40, (Bo o2))]) ?_ fun o2 => ?_
    · refine rd 2 [(9, (Pt 1)), (10, (Sr a0.fName))] rfl rfl <| rp rfl (p_call rfl rfl rfl rfl rfl (ref11_IsName_ok k a0.fName) (.inl rfl)) fun v1 => bd 5 [(11, (Bo v1)), (12, (Bo (!v1))), (13, (Bo (!v1)))] rfl rfl <| bifE (fun hc => ?_) fun hc => ?_
      · rw [hc]
        exact reg_end rfl
      · rw [hc]
        refine rd 10 [(14, (V.ptr 1 0 1)), (15, (I a0.fKind)), (16, (Bo (decide (a0.fKind < 1)))), (17, (Bo (decide (a0.fKind < 1)))), (18, (Bo (decide (a0.fKind < 1))))] rfl rfl <| bifE (fun hc => ?_) fun hc => ?_
        · rw [hc]
          exact reg_end rfl
        · rw [hc]
          refine rd 15 [(19, (V.ptr 1 0 1)), (20, (I a0.fKind)), (21, (Bo (decide (a0.fKind > 4)))), (22, (Bo (decide (a0.fKind > 4)))), (23, (Bo (decide (a0.fKind > 4))))] rfl rfl <| bifE (fun hc => ?_) fun hc => ?_
          · rw [hc]
            exact reg_end rfl
          · rw [hc]
            refine rd 17 [(24, (V.ptr 1 0 2)), (25, (sType a0.fTypes))] rfl rfl <| rl rfl (p_len (e := eType) rfl rfl rfl rfl rfl rfl underlying22) <| bd 21 [(26, (I (a0.fTypes.length : Int))), (27, (Bo (decide ((a0.fTypes.length : Int) < 1)))), (28, (Bo (decide ((a0.fTypes.length : Int) < 1)))), (29, (Bo (decide ((a0.fTypes.length : Int) < 1))))] rfl rfl <| bifE (fun hc => ?_) fun hc => ?_
            · rw [hc]
              exact reg_end rfl
            · rw [hc]
              refine rd 23 [(30, (V.ptr 1 0 2)), (31, (sType a0.fTypes))] rfl rfl <| rl rfl (p_len (e := eType) rfl rfl rfl rfl rfl rfl underlying22) <| bd 27 [(32, (I (a0.fTypes.length : Int))), (33, (Bo (decide ((a0.fTypes.length : Int) > 8)))), (34, (Bo (decide ((a0.fTypes.length : Int) > 8)))), (35, (Bo (decide ((a0.fTypes.length : Int) > 8))))] rfl rfl <| bifE (fun hc => ?_) fun hc => ?_
              · rw [hc]
                exact reg_end rfl
              · rw [hc]
                exact rd 29 [(36, (V.ptr 1 0 3)), (37, (sSearch a0.fIndexes))] rfl rfl <| rl rfl (p_len (e := eSearch) rfl rfl rfl rfl rfl rfl underlying23) <| bind_end rfl
    refine kc rfl rfl (fun hc => ?_) fun hc => ?_
    · rw [hc]
      refine et k_assoc <| kr ⟨[(2, (Bo false))], [], 232⟩ rfl <| et k_ret ?_
      rfl
    · rw [hc]
      refine et k_skip <| et k_assoc <| kr ⟨[(1, (Pt 1)), (3, (I 0))], [(1, vS 4 (eBase a0))], 232⟩ rfl <| et (k_block rfl) <| et k_loop ?_
      refine ref11_Valid_L1_ok k a0 _ _ ?h_ref11_Valid_L1_0 ?hr_ref11_Valid_L1 k 0
      · intro y38
        refine et blk_exit <| et k_assoc <| kr ⟨[(1, (Pt 1)), (6, (I 0))], [(1, vS 4 (eBase a0))], 232⟩ rfl <| et (k_block rfl) <| et k_loop ?_
        refine ref11_Valid_L3_ok k a0 _ _ ?h_ref11_Valid_L3_0 ?hr_ref11_Valid_L3 k 0
        · intro y66
          refine et blk_exit <| kr ⟨[(2, (Bo true))], [], 232⟩ rfl <| et k_lret ?_
          rfl
        · intro s; exact rfl
      · intro s; exact rfl
def ref11_isType_fin : Bool → V × List V := fun r => ((Bo r), [])
theorem ref11_isType_ok (k : Nat) (a0 : T_api_Base) (a1 : Int) : EV k 94 [(eBase a0), (I a1)] = (ref11_isType k a0 a1).map ref11_isType_fin := by
  cases k with
  | zero => rfl
  | succ k =>
    unfold ref11_isType
    refine et (evF_succ (c := f94c) (N := 14) (regs := f94n) rfl func94 rfl (by decide) rfl rfl rfl) <| kr ⟨[(1, (I a1)), (2, (Pt 2))], [(2, vS 4 (eBase a0))], 14⟩ rfl <| kg f94a1 rfl (fun (o1 : Bool) => ⟨[(4, (Bo o1))], [], 14⟩) ?_ fun o1 => ?_
    · refine rd 3 [(5, (I a1)), (6, (Bo (decide (a1 ≥ 0)))), (7, (Bo (decide (a1 ≥ 0))))] rfl rfl <| bifE (fun hc => ?_) fun hc => ?_
      · rw [hc]
        exact rd 6 [(8, (I a1)), (9, (V.ptr 2 0 2)), (10, (sType a0.fTypes))] rfl rfl <| rl rfl (p_len (e := eType) rfl rfl rfl rfl rfl rfl underlying22) <| bind_end rfl
      · rw [hc]
        exact reg_end rfl
    refine et k_lret ?_
    rfl
def ref11_asked_fin : Int → V × List V := fun r => ((I r), [])
theorem ref11_asked_L1_ok (k : Nat) (a0 : T_api_Base) (a1 : (List Int))  (K0 : Int → Option Int) (Kst : X × St → Option (V × List V)) (hK0 : ∀ (y0 : Int), Kst (X.exit 0, ⟨[(1, (sI a1)), (2, (Pt 2)), (5, (I y0)), (12, (Bo false))], [(2, vS 4 (eBase a0))], 22⟩) = (K0 y0).map ref11_asked_fin) (hret : ∀ s, Kst (X.ret, s) = endK prog 22 [(eBase a0), (sI a1)] [] [.tmp 4] (X.ret, s)) :
    ∀ (m : Nat) (x6 : Int), (iter (exec prog (EV k) f73n k f73b0) m ⟨[(1, (sI a1)), (2, (Pt 2)), (5, (I x6))], [(2, vS 4 (eBase a0))], 22⟩).bind Kst = (ref11_asked_L1 k a0 a1 K0 m x6).map ref11_asked_fin := by
  intro m
  induction m with
  | zero => intros; rfl
  | succ m ih =>
    intro x6
    unfold ref11_asked_L1
    refine et k_round <| et k_assoc <| krp f73a4 rfl ⟨[(1, (sI a1)), (2, (Pt 2)), (5, (I x6)), (12, (Bo (decide (x6 < (a1.length : Int)))))], [(2, vS 4 (eBase a0))], 22⟩ ?_ ?_
    · exact rd 2 [(9, (I x6)), (10, (sI a1))] rfl rfl <| rl rfl (p_len (e := I) rfl rfl rfl rfl rfl rfl underlying87) <| bind_end rfl
    refine kc rfl rfl (fun hc => ?_) fun hc => ?_
    · rw [hc]
      refine et k_skip <| et (k_block rfl) <| kd f73a6 rfl (fun (o9 : Bool) => ⟨[(1, (sI a1)), (2, (Pt 2)), (5, (I x6)), (21, (Bo o9))], [(2, vS 4 (eBase a0))], 22⟩) (et (regionE_regp (p := 7) (dk := true) (t := [(1, (sI a1)), (2, (Pt 2)), (5, (I x6)), (12, (Bo true))]) (σ := [(2, vS 4 (eBase a0))]) (n := 22) rfl (by decide) (by decide) rfl) <| et (regp_adv (m := 3) (j := 3) (t' := [(1, (sI a1)), (2, (Pt 2)), (5, (I x6)), (12, (Bo true)), (15, (eBase a0)), (16, (sI a1)), (17, (I x6))]) rfl rfl rfl) <| et (regp_pure (x := (idx a1 x6)) (w := fun v7 => (Pr (I v7))) rfl rfl rfl rfl rfl (p_index (e := I) rfl rfl rfl underlying87 rfl (by decide))) <| bindE fun v7 => et (putp_adv (m := 1) (j := 5) (t' := [(1, (sI a1)), (2, (Pt 2)), (5, (I x6)), (12, (Bo true)), (15, (eBase a0)), (16, (sI a1)), (17, (I x6)), (18, (Pr (I v7))), (19, (I v7))]) rfl rfl rfl) <| et (regp_pure (x := (ref11_isType k a0 v7)) (w := fun v8 => (Bo v8)) rfl rfl rfl rfl rfl (p_call rfl rfl rfl rfl rfl (ref11_isType_ok k a0 v7) (.inl rfl))) <| bindE fun v8 => regp_end rfl) fun o9 => kcl rfl rfl (fun hc => ?_) fun hc => ?_
      · rw [hc]
        refine kr ⟨[(4, (I 2))], [], 22⟩ rfl <| et k_lret <| et blk_ret <| et loop_ret <| et (hret _) ?_
        rfl
      · rw [hc]
        exact et k_lskip <| et blk_normal <| kl ⟨[(1, (sI a1)), (2, (Pt 2)), (5, (I (Go.IntKind.wrap .i64 (x6 + 1))))], [(2, vS 4 (eBase a0))], 22⟩ rfl <| et loop_normal <| ih (Go.IntKind.wrap .i64 (x6 + 1))
    · rw [hc]
      exact et k_exit <| et loop_exit <| hK0 x6
theorem ref11_asked_ok (k : Nat) (a0 : T_api_Base) (a1 : (List Int)) : EV k 73 [(eBase a0), (sI a1)] = (ref11_asked k a0 a1).map ref11_asked_fin := by
  cases k with
  | zero => rfl
  | succ k =>
    unfold ref11_asked
    refine et (evF_succ (c := f73c) (N := 22) (regs := f73n) rfl func73 rfl (by decide) rfl rfl rfl) <| kr ⟨[(1, (sI a1)), (2, (Pt 2))], [(2, vS 4 (eBase a0))], 22⟩ rfl <| et k_assoc <| kga f73a1 rfl (fun (o2 : Bool) => [(8, (Bo o2))]) (rd 1 [(6, (eBase a0))] rfl rfl <| rp rfl (p_call rfl rfl rfl rfl rfl (ref11_Valid_ok k a0) (.inl rfl)) fun v1 => bind_end rfl) fun o2 => kc rfl rfl (fun hc => ?_) fun hc => ?_
    · rw [hc]
      refine et k_assoc <| kr ⟨[(4, (I 100))], [], 22⟩ rfl <| et k_ret ?_
      rfl
    · rw [hc]
      refine et k_skip <| et k_assoc <| kr ⟨[(1, (sI a1)), (2, (Pt 2)), (5, (I 0))], [(2, vS 4 (eBase a0))], 22⟩ rfl <| et (k_block rfl) <| et k_loop ?_
      refine ref11_asked_L1_ok k a0 a1 _ _ ?h_ref11_asked_L1_0 ?hr_ref11_asked_L1 k 0
      · intro y10
        refine et blk_exit <| kr ⟨[(4, (I 0))], [], 22⟩ rfl <| et k_lret ?_
        rfl
      · intro s; exact rfl
def ref11_Field_fin : (Int × Int) → V × List V := fun r => (.tup [(I r.1), (I r.2)], [])
theorem ref11_Field_L1_ok (k : Nat) (a0 : T_api_Base) (a1 : Int) (a2 : Str)  (K0 : Int → Option (Int × Int)) (Kst : X × St → Option (V × List V)) (hK0 : ∀ (y0 : Int), Kst (X.exit 0, ⟨[(1, (I a1)), (2, (Sr a2)), (3, (Pt 3)), (9, (I y0)), (25, (Bo false))], [(3, vS 4 (eBase a0))], 41⟩) = (K0 y0).map ref11_Field_fin) (hret : ∀ s, Kst (X.ret, s) = endK prog 41 [(eBase a0), (I a1), (Sr a2)] [] [.tmp 6, .tmp 7] (X.ret, s)) :
    ∀ (m : Nat) (x8 : Int), (iter (exec prog (EV k) f53n k f53b0) m ⟨[(1, (I a1)), (2, (Sr a2)), (3, (Pt 3)), (9, (I x8))], [(3, vS 4 (eBase a0))], 41⟩).bind Kst = (ref11_Field_L1 a0 a1 a2 K0 m x8).map ref11_Field_fin := by
  intro m
  induction m with
  | zero => intros; rfl
  | succ m ih =>
    intro x8
    unfold ref11_Field_L1
    refine et k_round <| et k_assoc <| kga f53a5 rfl (fun (o10 : Bool) => [(25, (Bo o10))]) (rd 4 [(17, (I x8)), (18, (V.ptr 3 0 2)), (19, (sType a0.fTypes)), (20, (I a1))] rfl rfl <| rp rfl (p_index (e := eType) rfl rfl rfl underlying22 rfl (by decide)) fun v9 => bd 7 [(21, (Pr (eType v9))), (22, (Pr (sField v9.fFields))), (23, (sField v9.fFields))] rfl rfl <| rl rfl (p_len (e := eField) rfl rfl rfl rfl rfl rfl underlying43) <| bind_end rfl) fun o10 => kc rfl rfl (fun hc => ?_) fun hc => ?_
    · rw [hc]
      refine et k_skip <| et (k_block rfl) <| kg f53a7 rfl (fun (o13 : Bool) => ⟨[(1, (I a1)), (2, (Sr a2)), (3, (Pt 3)), (9, (I x8)), (39, (Bo o13))], [(3, vS 4 (eBase a0))], 41⟩) (rd 3 [(28, (V.ptr 3 0 2)), (29, (sType a0.fTypes)), (30, (I a1))] rfl rfl <| rp rfl (p_index (e := eType) rfl rfl rfl underlying22 rfl (by decide)) fun v11 => bd 7 [(31, (Pr (eType v11))), (32, (Pr (sField v11.fFields))), (33, (sField v11.fFields)), (34, (I x8))] rfl rfl <| rp rfl (p_index (e := eField) rfl rfl rfl underlying43 rfl (by decide)) fun v12 => bind_end rfl) fun o13 => kcl rfl rfl (fun hc => ?_) fun hc => ?_
      · rw [hc]
        refine kr ⟨[(6, (I x8)), (7, (I 0))], [], 41⟩ rfl <| et k_lret <| et blk_ret <| et loop_ret <| et (hret _) ?_
        rfl
      · rw [hc]
        exact et k_lskip <| et blk_normal <| kl ⟨[(1, (I a1)), (2, (Sr a2)), (3, (Pt 3)), (9, (I (Go.IntKind.wrap .i64 (x8 + 1))))], [(3, vS 4 (eBase a0))], 41⟩ rfl <| et loop_normal <| ih (Go.IntKind.wrap .i64 (x8 + 1))
    · rw [hc]
      exact et k_exit <| et loop_exit <| hK0 x8
theorem ref11_Field_ok (k : Nat) (a0 : T_api_Base) (a1 : Int) (a2 : Str) : EV k 53 [(eBase a0), (I a1), (Sr a2)] = (ref11_Field k a0 a1 a2).map ref11_Field_fin := by
  cases k with
  | zero => rfl
  | succ k =>
    unfold ref11_Field
    refine et (evF_succ (c := f53c) (N := 41) (regs := f53n) rfl func53 rfl (by decide) rfl rfl rfl) <| kr ⟨[(1, (I a1)), (2, (Sr a2)), (3, (Pt 3))], [(3, vS 4 (eBase a0))], 41⟩ rfl <| et k_assoc <| kga f53a1 rfl (fun (o2 : Int) => [(8, (I o2))]) (rd 3 [(10, (eBase a0)), (11, (I a1)), (12, (sI (([a1] : List Int))))] rfl rfl <| rs rfl (p_call rfl rfl rfl rfl rfl (ref11_asked_ok k a0 ([a1] : List Int)) (.inl rfl)) fun v1 => bind_end rfl) fun o2 => et k_assoc <| kra [(15, (Bo (o2 != 0)))] rfl <| kc rfl rfl (fun hc => ?_) fun hc => ?_
    · rw [hc]
      refine et k_assoc <| kr ⟨[(6, (I 0)), (7, (I o2))], [], 41⟩ rfl <| et k_ret ?_
      rfl
    · rw [hc]
      refine et k_skip <| et k_assoc <| kr ⟨[(1, (I a1)), (2, (Sr a2)), (3, (Pt 3)), (9, (I 0))], [(3, vS 4 (eBase a0))], 41⟩ rfl <| et (k_block rfl) <| et k_loop ?_
      refine ref11_Field_L1_ok k a0 a1 a2 _ _ ?h_ref11_Field_L1_0 ?hr_ref11_Field_L1 k 0
      · intro y14
        refine et blk_exit <| kr ⟨[(6, (I 0)), (7, (I 5))], [], 41⟩ rfl <| et k_lret ?_
        rfl
      · intro s; exact rfl
def ref11_Fits_fin : (Bool × Int) → V × List V := fun r => (.tup [(Bo r.1), (I r.2)], [])
theorem ref11_Fits_ok (k : Nat) (a0 : T_api_Base) (a1 : Int) (a2 : Str) : EV k 45 [(eBase a0), (I a1), (Sr a2)] = (ref11_Fits k a0 a1 a2).map ref11_Fits_fin := by
  cases k with
  | zero => rfl
  | succ k =>
    unfold ref11_Fits
    refine et (evF_succ (c := f45c) (N := 36) (regs := f45n) rfl func45 rfl (by decide) rfl rfl rfl) <| kr ⟨[(1, (I a1)), (2, (Sr a2)), (3, (Pt 3))], [(3, vS 4 (eBase a0))], 36⟩ rfl <| et k_assoc <| kga f45a1 rfl (fun (o2 : Int) => [(8, (I o2))]) (rd 3 [(9, (eBase a0)), (10, (I a1)), (11, (sI (([a1] : List Int))))] rfl rfl <| rs rfl (p_call rfl rfl rfl rfl rfl (ref11_asked_ok k a0 ([a1] : List Int)) (.inl rfl)) fun v1 => bind_end rfl) fun o2 => et k_assoc <| kra [(14, (Bo (o2 != 0)))] rfl <| kc rfl rfl (fun hc => ?_) fun hc => ?_
    · rw [hc]
      refine et k_assoc <| kr ⟨[(6, (Bo false)), (7, (I o2))], [], 36⟩ rfl <| et k_ret ?_
      rfl
    · rw [hc]
      refine et k_skip <| kg f45a4 rfl (fun (o5 : Bool × Int) => ⟨[(6, (Bo o5.1)), (7, (I o5.2))], [], 36⟩) ?_ fun o5 => ?_
      · refine rd 5 [(16, (Sr a2)), (17, (I (a2.length : Int))), (18, (V.ptr 3 0 2)), (19, (sType a0.fTypes)), (20, (I a1))] rfl rfl <| rp rfl (p_index (e := eType) rfl rfl rfl underlying22 rfl (by decide)) fun v3 => bd 10 [(21, (Pr (eType v3))), (22, (Pr (I v3.fMin))), (23, (I v3.fMin)), (24, (Bo (decide ((a2.length : Int) ≥ v3.fMin)))), (25, (Bo (decide ((a2.length : Int) ≥ v3.fMin))))] rfl rfl <| bifE (fun hc => ?_) fun hc => ?_
        · rw [hc]
          exact rd 15 [(26, (Sr a2)), (27, (I (a2.length : Int))), (28, (V.ptr 3 0 2)), (29, (sType a0.fTypes)), (30, (I a1))] rfl rfl <| rp rfl (p_index (e := eType) rfl rfl rfl underlying22 rfl (by decide)) fun v4 => bind_end rfl
        · rw [hc]
          exact reg_end rfl
      refine et k_lret ?_
      rfl
def ref11_Value_fin : (Str × Bool × Int) → V × List V := fun r => (.tup [(Sr r.1), (Bo r.2.1), (I r.2.2)], [])
theorem ref11_Value_ok (k : Nat) (a0 : T_api_Base) (a1 : Int) (a2 : Str) (a3 : Int) : EV k 54 [(eBase a0), (I a1), (Sr a2), (I a3)] = (ref11_Value k a0 a1 a2 a3).map ref11_Value_fin := by
  cases k with
  | zero => rfl
  | succ k =>
    unfold ref11_Value
    refine et (evF_succ (c := f54c) (N := 69) (regs := f54n) rfl func54 rfl (by decide) rfl rfl rfl) <| kr ⟨[(1, (I a1)), (2, (Sr a2)), (3, (I a3)), (4, (Pt 4))], [(4, vS 4 (eBase a0))], 69⟩ rfl <| kga f54a1 rfl (fun (o2 : Bool × Int) => [(11, (Bo o2.1)), (12, (I o2.2))]) (rd 3 [(15, (eBase a0)), (16, (I a1)), (17, (Sr a2))] rfl rfl <| rp rfl (p_call rfl rfl rfl rfl rfl (ref11_Fits_ok k a0 a1 a2) (.inl rfl)) fun v1 => bind_end rfl) fun o2 => et (k_block rfl) <| kra [(21, (Bo (o2.2 != 0)))] rfl <| kcl rfl rfl (fun hc => ?_) fun hc => ?_
    · rw [hc]
      refine kr ⟨[(8, (Sr ([] : Str))), (9, (Bo false)), (10, (I o2.2))], [], 69⟩ rfl <| et k_lret <| et blk_ret ?_
      rfl
    · rw [hc]
      refine kg f54a4 rfl (fun (o4 : Bool) => ⟨[(1, (I a1)), (2, (Sr a2)), (3, (I a3)), (4, (Pt 4)), (25, (Bo o4))], [(4, vS 4 (eBase a0))], 69⟩) ?_ fun o4 => ?_
      · refine rd 3 [(26, (Bo o2.1)), (27, (Bo (!o2.1))), (28, (Bo (!o2.1)))] rfl rfl <| bifE (fun hc => ?_) fun hc => ?_
        · rw [hc]
          exact reg_end rfl
        · rw [hc]
          refine rd 7 [(29, (I a3)), (30, (Bo (decide (a3 < 0)))), (31, (Bo (decide (a3 < 0)))), (32, (Bo (decide (a3 < 0))))] rfl rfl <| bifE (fun hc => ?_) fun hc => ?_
          · rw [hc]
            exact reg_end rfl
          · rw [hc]
            exact rd 11 [(33, (I a3)), (34, (V.ptr 4 0 2)), (35, (sType a0.fTypes)), (36, (I a1))] rfl rfl <| rp rfl (p_index (e := eType) rfl rfl rfl underlying22 rfl (by decide)) fun v3 => bd 14 [(37, (Pr (eType v3))), (38, (Pr (sField v3.fFields))), (39, (sField v3.fFields))] rfl rfl <| rl rfl (p_len (e := eField) rfl rfl rfl rfl rfl rfl underlying43) <| bind_end rfl
      refine kcl rfl rfl (fun hc => ?_) fun hc => ?_
      · rw [hc]
        refine kr ⟨[(8, (Sr ([] : Str))), (9, (Bo false)), (10, (I 2))], [], 69⟩ rfl <| et k_lret <| et blk_ret ?_
        rfl
      · rw [hc]
        refine et k_lskip <| et blk_normal <| kg f54a6 rfl (fun (o7 : T_api_Field) => ⟨[(2, (Sr a2)), (13, (Pt 13))], [(13, vS 3 (eField o7))], 69⟩) (rd 3 [(43, (V.ptr 4 0 2)), (44, (sType a0.fTypes)), (45, (I a1))] rfl rfl <| rp rfl (p_index (e := eType) rfl rfl rfl underlying22 rfl (by decide)) fun v5 => bd 7 [(46, (Pr (eType v5))), (47, (Pr (sField v5.fFields))), (48, (sField v5.fFields)), (49, (I a3))] rfl rfl <| rs rfl (p_index (e := eField) rfl rfl rfl underlying43 rfl (by decide)) fun v6 => bind_end rfl) fun o7 => et k_assoc <| kra [(59, (Bo (decide ((Go.IntKind.wrap .i64 (o7.fAt + o7.fBytes)) > (a2.length : Int)))))] rfl <| kc rfl rfl (fun hc => ?_) fun hc => ?_
        · rw [hc]
          refine et k_assoc <| kr ⟨[(8, (Sr ([] : Str))), (9, (Bo false)), (10, (I 0))], [], 69⟩ rfl <| et k_ret ?_
          rfl
        · rw [hc]
          refine et k_skip <| kg f54a9 rfl (fun (o9 : Str × Bool × Int) => ⟨[(8, (Sr o9.1)), (9, (Bo o9.2.1)), (10, (I o9.2.2))], [], 69⟩) (rd 8 [(60, (Sr a2)), (61, (V.ptr 13 0 1)), (62, (I o7.fAt)), (63, (V.ptr 13 0 1)), (64, (I o7.fAt)), (65, (V.ptr 13 0 2)), (66, (I o7.fBytes)), (67, (I (Go.IntKind.wrap .i64 (o7.fAt + o7.fBytes))))] rfl rfl <| rp rfl (p_sliceS rfl rfl rfl rfl rfl rfl underlying9) fun v8 => bind_end rfl) fun o9 => et k_lret ?_
          rfl
def law12_parted_fin : Bool → V × List V := fun r => ((Bo r), [])
theorem law12_parted_ok (k : Nat) (a0 : T_progenylaw12_Case) (a1 : T_api_Term) (a2 : Str) : EV k 26 [(eCase a0), (eTerm a1), (Sr a2)] = (law12_parted k a0 a1 a2).map law12_parted_fin := by
  cases k with
  | zero => rfl
  | succ k =>
    unfold law12_parted
    refine et (evF_succ (c := f26c) (N := 107) (regs := f26n) rfl func26 rfl (by decide) rfl rfl rfl) <| kr ⟨[(2, (Sr a2)), (3, (Pt 3)), (4, (Pt 4))], [(3, vS 6 (eCase a0)), (4, vS 3 (eTerm a1))], 107⟩ rfl <| et k_assoc <| kga f26a1 rfl (fun (o1 : Bool) => [(24, (Bo o1))]) ?_ fun o1 => ?_
    · refine rd 4 [(17, (V.ptr 4 0 1)), (18, (I a1.fOp)), (19, (Bo (decide (a1.fOp < 1)))), (20, (Bo (decide (a1.fOp < 1))))] rfl rfl <| bifE (fun hc => ?_) fun hc => ?_
      · rw [hc]
        exact reg_end rfl
      · rw [hc]
        exact reg_end rfl
    refine kc rfl rfl (fun hc => ?_) fun hc => ?_
    · rw [hc]
      refine et k_assoc <| kr ⟨[(6, (Bo false))], [], 107⟩ rfl <| et k_ret ?_
      rfl
    · rw [hc]
      refine et k_skip <| kr ⟨[(2, (Sr a2)), (3, (Pt 3)), (4, (Pt 4)), (7, (Pt 7))], [(3, vS 6 (eCase a0)), (4, vS 3 (eTerm a1)), (7, vS 3 (eTerm a1))], 107⟩ rfl <| kg f26a4 rfl (fun (o3 : T_api_Term) => ⟨[(2, (Sr a2)), (3, (Pt 3)), (4, (Pt 4)), (7, (Pt 7))], [(3, vS 6 (eCase a0)), (4, vS 3 (eTerm a1)), (7, vS 3 (eTerm o3))], 107⟩) (rd 4 [(26, (sI (([2, 1, 6, 5, 4, 3] : List Int)))), (27, (V.ptr 4 0 1)), (28, (I a1.fOp)), (29, (I (Go.IntKind.wrap .i64 (a1.fOp - 1))))] rfl rfl <| rp rfl (p_index (e := I) rfl rfl rfl underlying87 rfl (by decide)) fun v2 => bind_end rfl) fun o3 => kga f26a5 rfl (fun (o5 : Bool × Int) => [(8, (Bo o5.1)), (9, (I o5.2))]) (rd 8 [(34, (Pt 3)), (35, (eBase a0.fBase)), (36, (V.ptr 3 0 4)), (37, (I a0.fType)), (38, (eTerm a1)), (39, (sTerm (([a1] : List T_api_Term)))), (40, (V.sl 0 1 (List.map sTerm ([([a1] : List T_api_Term)] : List (List T_api_Term))))), (41, (Sr a2))] rfl rfl <| rp rfl (p_call rfl rfl rfl rfl rfl (match_Holds_ok k a0.fBase a0.fType ([([a1] : List T_api_Term)] : List (List T_api_Term)) a2) (.inl rfl)) fun v4 => bind_end rfl) fun o5 => kg f26a6 rfl (fun (o7 : Bool × Int) => ⟨[(2, (Sr a2)), (3, (Pt 3)), (4, (Pt 4)), (8, (Bo o5.1)), (9, (I o5.2)), (10, (Bo o7.1)), (11, (I o7.2))], [(3, vS 6 (eCase a0)), (4, vS 3 (eTerm a1))], 107⟩) (rd 8 [(46, (Pt 3)), (47, (eBase a0.fBase)), (48, (V.ptr 3 0 4)), (49, (I a0.fType)), (50, (eTerm o3)), (51, (sTerm (([o3] : List T_api_Term)))), (52, (V.sl 0 1 (List.map sTerm ([([o3] : List T_api_Term)] : List (List T_api_Term))))), (53, (Sr a2))] rfl rfl <| rp rfl (p_call rfl rfl rfl rfl rfl (match_Holds_ok k a0.fBase a0.fType ([([o3] : List T_api_Term)] : List (List T_api_Term)) a2) (.inl rfl)) fun v6 => bind_end rfl) fun o7 => kg f26a7 rfl (fun (o9 : Int × Int) => ⟨[(2, (Sr a2)), (3, (Pt 3)), (8, (Bo o5.1)), (9, (I o5.2)), (10, (Bo o7.1)), (11, (I o7.2)), (12, (I o9.1)), (13, (I o9.2))], [(3, vS 6 (eCase a0))], 107⟩) (rd 6 [(58, (Pt 3)), (59, (eBase a0.fBase)), (60, (V.ptr 3 0 4)), (61, (I a0.fType)), (62, (Pt 4)), (63, (Sr a1.fField))] rfl rfl <| rp rfl (p_call rfl rfl rfl rfl rfl (ref11_Field_ok k a0.fBase a0.fType a1.fField) (.inl rfl)) fun v8 => bind_end rfl) fun o9 => kg f26a8 rfl (fun (o11 : Bool × Int) => ⟨[(8, (Bo o5.1)), (9, (I o5.2)), (10, (Bo o7.1)), (11, (I o7.2)), (13, (I o9.2)), (15, (Bo o11.1)), (16, (I o11.2))], [], 107⟩) (rd 6 [(68, (Pt 3)), (69, (eBase a0.fBase)), (70, (V.ptr 3 0 4)), (71, (I a0.fType)), (72, (Sr a2)), (73, (I o9.1))] rfl rfl <| rp rfl (p_call rfl rfl rfl rfl rfl (ref11_Value_ok k a0.fBase a0.fType a2 o9.1) (.inl rfl)) fun v10 => bind_end rfl) fun o11 => kg f26a9 rfl (fun (o12 : Bool) => ⟨[(6, (Bo o12))], [], 107⟩) ?_ fun o12 => ?_
      · refine rd 3 [(78, (I o5.2)), (79, (Bo (o5.2 == 0))), (80, (Bo (o5.2 == 0)))] rfl rfl <| bifE (fun hc => ?_) fun hc => ?_
        · rw [hc]
          refine rd 7 [(81, (I o7.2)), (82, (Bo (o7.2 == 0))), (83, (Bo (o7.2 == 0))), (84, (Bo (o7.2 == 0)))] rfl rfl <| bifE (fun hc => ?_) fun hc => ?_
          · rw [hc]
            refine rd 11 [(85, (I o9.2)), (86, (Bo (o9.2 == 0))), (87, (Bo (o9.2 == 0))), (88, (Bo (o9.2 == 0)))] rfl rfl <| bifE (fun hc => ?_) fun hc => ?_
            · rw [hc]
              refine rd 15 [(89, (I o11.2)), (90, (Bo (o11.2 == 0))), (91, (Bo (o11.2 == 0))), (92, (Bo (o11.2 == 0)))] rfl rfl <| bifE (fun hc => ?_) fun hc => ?_
              · rw [hc]
                refine rd 17 [(93, (Bo o5.1)), (94, (Bo o5.1))] rfl rfl <| bifE (fun hc => ?_) fun hc => ?_
                · rw [hc]
                  refine rd 22 [(95, (Bo o7.1)), (96, (Bo o7.1)), (97, (Bo (!o7.1))), (98, (Bo (!o7.1))), (99, (Bo (!o7.1)))] rfl rfl <| bifE (fun hc => ?_) fun hc => ?_
                  · rw [hc]
                    exact reg_end rfl
                  · rw [hc]
                    exact reg_end rfl
                · rw [hc]
                  exact reg_end rfl
              · rw [hc]
                exact reg_end rfl
            · rw [hc]
              exact reg_end rfl
          · rw [hc]
            exact reg_end rfl
        · rw [hc]
          exact reg_end rfl
      refine et k_lret ?_
      rfl
def ref11_KeyOf_fin : (Str × Int) → V × List V := fun r => (.tup [(Sr r.1), (I r.2)], [])
theorem ref11_KeyOf_ok (k : Nat) (a0 : T_api_Base) (a1 : Int) (a2 : Str) : EV k 27 [(eBase a0), (I a1), (Sr a2)] = (ref11_KeyOf k a0 a1 a2).map ref11_KeyOf_fin := by
  cases k with
  | zero => rfl
  | succ k =>
    unfold ref11_KeyOf
    refine et (evF_succ (c := f27c) (N := 50) (regs := f27n) rfl func27 rfl (by decide) rfl rfl rfl) <| kr ⟨[(1, (I a1)), (2, (Sr a2)), (3, (Pt 3))], [(3, vS 4 (eBase a0))], 50⟩ rfl <| kga f27a1 rfl (fun (o2 : Bool × Int) => [(8, (Bo o2.1)), (9, (I o2.2))]) (rd 3 [(14, (eBase a0)), (15, (I a1)), (16, (Sr a2))] rfl rfl <| rp rfl (p_call rfl rfl rfl rfl rfl (ref11_Fits_ok k a0 a1 a2) (.inl rfl)) fun v1 => bind_end rfl) fun o2 => et (k_block rfl) <| kra [(20, (Bo (o2.2 != 0)))] rfl <| kcl rfl rfl (fun hc => ?_) fun hc => ?_
    · rw [hc]
      refine kr ⟨[(6, (Sr ([] : Str))), (7, (I o2.2))], [], 50⟩ rfl <| et k_lret <| et blk_ret ?_
      rfl
    · rw [hc]
      refine kr ⟨[(1, (I a1)), (2, (Sr a2)), (3, (Pt 3)), (24, (Bo (!o2.1)))], [(3, vS 4 (eBase a0))], 50⟩ rfl <| kcl rfl rfl (fun hc => ?_) fun hc => ?_
      · rw [hc]
        refine kr ⟨[(6, (Sr ([] : Str))), (7, (I 2))], [], 50⟩ rfl <| et k_lret <| et blk_ret ?_
        rfl
      · rw [hc]
        refine kg f27a6 rfl (fun (o4 : Bool) => ⟨[(1, (I a1)), (2, (Sr a2)), (3, (Pt 3)), (27, (Bo o4))], [(3, vS 4 (eBase a0))], 50⟩) (rd 3 [(28, (V.ptr 3 0 2)), (29, (sType a0.fTypes)), (30, (I a1))] rfl rfl <| rp rfl (p_index (e := eType) rfl rfl rfl underlying22 rfl (by decide)) fun v3 => bind_end rfl) fun o4 => kcl rfl rfl (fun hc => ?_) fun hc => ?_
        · rw [hc]
          refine kr ⟨[(6, (Sr ([] : Str))), (7, (I 0))], [], 50⟩ rfl <| et k_lret <| et blk_ret ?_
          rfl
        · rw [hc]
          refine et k_lskip <| et blk_normal <| kd f27a8 rfl (fun (o7 : Str) => ⟨[(10, (Sr o7))], [], 50⟩) (et (regionE_regp (p := 17) (dk := true) (t := [(1, (I a1)), (2, (Sr a2)), (3, (Pt 3)), (27, (Bo false))]) (σ := [(3, vS 4 (eBase a0))]) (n := 50) rfl (by decide) (by decide) rfl) <| et (regp_adv (m := 6) (j := 6) (t' := [(1, (I a1)), (2, (Sr a2)), (3, (Pt 3)), (27, (Bo false)), (36, (eBase a0)), (37, (I a1)), (38, (Sr a2)), (39, (V.ptr 3 0 2)), (40, (sType a0.fTypes)), (41, (I a1))]) rfl rfl rfl) <| et (regp_pure (x := (idx a0.fTypes a1)) (w := fun v5 => (Pr (eType v5))) rfl rfl rfl rfl rfl (p_index (e := eType) rfl rfl rfl underlying22 rfl (by decide))) <| bindE fun v5 => et (putp_adv (m := 2) (j := 9) (t' := [(1, (I a1)), (2, (Sr a2)), (3, (Pt 3)), (27, (Bo false)), (36, (eBase a0)), (37, (I a1)), (38, (Sr a2)), (39, (V.ptr 3 0 2)), (40, (sType a0.fTypes)), (41, (I a1)), (42, (Pr (eType v5))), (43, (Pr (I v5.fKey))), (44, (I v5.fKey))]) rfl rfl rfl) <| et (regp_pure (x := (ref11_Value k a0 a1 a2 v5.fKey)) (w := fun v6 => (V.tup [(Sr v6.1), (Bo v6.2.1), (I v6.2.2)])) rfl rfl rfl rfl rfl (p_call rfl rfl rfl rfl rfl (ref11_Value_ok k a0 a1 a2 v5.fKey) (.inl rfl))) <| bindE fun v6 => regp_end rfl) fun o7 => kr ⟨[(6, (Sr o7)), (7, (I 0))], [], 50⟩ rfl <| et k_lret ?_
          rfl
def law12_MatchLogic_fin : Bool → V × List V := fun r => ((Bo r), [])
theorem law12_MatchLogic_L2_ok (k : Nat) (a0 : T_progenylaw12_Case) (a1 : (List (List T_api_Term))) (a2 : Str) (o23 : Bool × Bool) (x38 : Int)  (K0 : Int → Option Bool) (Kst : X × St → Option (V × List V)) (hK0 : ∀ (y0 : Int), Kst (X.exit 2, ⟨[(2, (Sr a2)), (3, (Pt 3)), (7, (Bo o23.1)), (17, (I x38)), (18, (I y0)), (148, (Bo false))], [(3, vS 6 (eCase a0))], 212⟩) = (K0 y0).map law12_MatchLogic_fin) (hret : ∀ s, Kst (X.ret, s) = endK prog 212 [(eCase a0), (V.sl 0 1 (List.map sTerm a1)), (Sr a2)] [] [.tmp 6] (X.ret, s)) :
    ∀ (m : Nat) (x45 : Int), (iter (exec prog (EV k) f7n k f7b0) m ⟨[(2, (Sr a2)), (3, (Pt 3)), (7, (Bo o23.1)), (17, (I x38)), (18, (I x45))], [(3, vS 6 (eCase a0))], 212⟩).bind Kst = (law12_MatchLogic_L2 k a0 a2 x38 K0 m x45).map law12_MatchLogic_fin := by
  intro m
  induction m with
  | zero => intros; rfl
  | succ m ih =>
    intro x45
    unfold law12_MatchLogic_L2
    refine et k_round <| et k_assoc <| kga f7a21 rfl (fun (o47 : Bool) => [(148, (Bo o47))]) (rd 4 [(141, (I x45)), (142, (V.ptr 3 0 5)), (143, (V.sl 0 1 (List.map sTerm a0.fWhen))), (144, (I x38))] rfl rfl <| rp rfl (p_index (e := sTerm) rfl rfl rfl underlying26 rfl (by decide)) fun v46 => bd 6 [(145, (Pr (sTerm v46))), (146, (sTerm v46))] rfl rfl <| rl rfl (p_len (e := eTerm) rfl rfl rfl rfl rfl rfl underlying50) <| bind_end rfl) fun o47 => kc rfl rfl (fun hc => ?_) fun hc => ?_
    · rw [hc]
      refine et k_skip <| et (k_block rfl) <| kd f7a23 rfl (fun (o51 : Bool) => ⟨[(2, (Sr a2)), (3, (Pt 3)), (7, (Bo o23.1)), (17, (I x38)), (18, (I x45)), (162, (Bo o51))], [(3, vS 6 (eCase a0))], 212⟩) (et (regionE_regp (p := 12) (dk := true) (t := [(2, (Sr a2)), (3, (Pt 3)), (7, (Bo o23.1)), (17, (I x38)), (18, (I x45)), (148, (Bo true))]) (σ := [(3, vS 6 (eCase a0))]) (n := 212) rfl (by decide) (by decide) rfl) <| et (regp_adv (m := 4) (j := 4) (t' := [(2, (Sr a2)), (3, (Pt 3)), (7, (Bo o23.1)), (17, (I x38)), (18, (I x45)), (148, (Bo true)), (151, (eCase a0)), (152, (V.ptr 3 0 5)), (153, (V.sl 0 1 (List.map sTerm a0.fWhen))), (154, (I x38))]) rfl rfl rfl) <| et (regp_pure (x := (idx a0.fWhen x38)) (w := fun v48 => (Pr (sTerm v48))) rfl rfl rfl rfl rfl (p_index (e := sTerm) rfl rfl rfl underlying26 rfl (by decide))) <| bindE fun v48 => et (putp_adv (m := 2) (j := 7) (t' := [(2, (Sr a2)), (3, (Pt 3)), (7, (Bo o23.1)), (17, (I x38)), (18, (I x45)), (148, (Bo true)), (151, (eCase a0)), (152, (V.ptr 3 0 5)), (153, (V.sl 0 1 (List.map sTerm a0.fWhen))), (154, (I x38)), (155, (Pr (sTerm v48))), (156, (sTerm v48)), (157, (I x45))]) rfl rfl rfl) <| et (regp_pure (x := (idx v48 x45)) (w := fun v49 => (Pr (eTerm v49))) rfl rfl rfl rfl rfl (p_index (e := eTerm) rfl rfl rfl underlying50 rfl (by decide))) <| bindE fun v49 => et (putp_adv (m := 2) (j := 10) (t' := [(2, (Sr a2)), (3, (Pt 3)), (7, (Bo o23.1)), (17, (I x38)), (18, (I x45)), (148, (Bo true)), (151, (eCase a0)), (152, (V.ptr 3 0 5)), (153, (V.sl 0 1 (List.map sTerm a0.fWhen))), (154, (I x38)), (155, (Pr (sTerm v48))), (156, (sTerm v48)), (157, (I x45)), (158, (Pr (eTerm v49))), (159, (eTerm v49)), (160, (Sr a2))]) rfl rfl rfl) <| et (regp_pure (x := (law12_parted k a0 v49 a2)) (w := fun v50 => (Bo v50)) rfl rfl rfl rfl rfl (p_call rfl rfl rfl rfl rfl (law12_parted_ok k a0 v49 a2) (.inl rfl))) <| bindE fun v50 => regp_end rfl) fun o51 => kcl rfl rfl (fun hc => ?_) fun hc => ?_
      · rw [hc]
        refine kr ⟨[(6, (Bo false))], [], 212⟩ rfl <| et k_lret <| et blk_ret <| et loop_ret <| et (hret _) ?_
        rfl
      · rw [hc]
        exact et k_lskip <| et blk_normal <| kl ⟨[(2, (Sr a2)), (3, (Pt 3)), (7, (Bo o23.1)), (17, (I x38)), (18, (I (Go.IntKind.wrap .i64 (x45 + 1))))], [(3, vS 6 (eCase a0))], 212⟩ rfl <| et loop_normal <| ih (Go.IntKind.wrap .i64 (x45 + 1))
    · rw [hc]
      exact et k_exit <| et loop_exit <| hK0 x45
theorem law12_MatchLogic_L1_ok (k : Nat) (a0 : T_progenylaw12_Case) (a1 : (List (List T_api_Term))) (a2 : Str) (o23 : Bool × Bool)  (K0 : Int → Option Bool) (Kst : X × St → Option (V × List V)) (hK0 : ∀ (y0 : Int), Kst (X.exit 0, ⟨[(2, (Sr a2)), (3, (Pt 3)), (7, (Bo o23.1)), (17, (I y0)), (138, (Bo false))], [(3, vS 6 (eCase a0))], 212⟩) = (K0 y0).map law12_MatchLogic_fin) (hret : ∀ s, Kst (X.ret, s) = endK prog 212 [(eCase a0), (V.sl 0 1 (List.map sTerm a1)), (Sr a2)] [] [.tmp 6] (X.ret, s)) :
    ∀ (m : Nat) (x38 : Int), (iter (exec prog (EV k) f7n k f7b1) m ⟨[(2, (Sr a2)), (3, (Pt 3)), (7, (Bo o23.1)), (17, (I x38))], [(3, vS 6 (eCase a0))], 212⟩).bind Kst = (law12_MatchLogic_L1 k a0 a2 K0 m x38).map law12_MatchLogic_fin := by
  intro m
  induction m with
  | zero => intros; rfl
  | succ m ih =>
    intro x38
    unfold law12_MatchLogic_L1
    refine et k_round <| et k_assoc <| krp f7a18 rfl ⟨[(2, (Sr a2)), (3, (Pt 3)), (7, (Bo o23.1)), (17, (I x38)), (138, (Bo (decide (x38 < (a0.fWhen.length : Int)))))], [(3, vS 6 (eCase a0))], 212⟩ ?_ ?_
    · exact rd 3 [(134, (I x38)), (135, (V.ptr 3 0 5)), (136, (V.sl 0 1 (List.map sTerm a0.fWhen)))] rfl rfl <| rl rfl (p_len (e := sTerm) rfl rfl rfl rfl rfl rfl underlying26) <| bind_end rfl
    refine kc rfl rfl (fun hc => ?_) fun hc => ?_
    · rw [hc]
      refine et k_skip <| et (k_block rfl) <| kr ⟨[(2, (Sr a2)), (3, (Pt 3)), (7, (Bo o23.1)), (17, (I x38)), (18, (I 0))], [(3, vS 6 (eCase a0))], 212⟩ rfl <| et (k_lblock rfl) <| et k_loop ?_
      refine law12_MatchLogic_L2_ok k a0 a1 a2 o23 x38 _ _ ?h_law12_MatchLogic_L2_0 ?hr_law12_MatchLogic_L2 k 0
      · intro y52
        exact et blk_exit <| et k_lskip <| et blk_normal <| kl ⟨[(2, (Sr a2)), (3, (Pt 3)), (7, (Bo o23.1)), (17, (I (Go.IntKind.wrap .i64 (x38 + 1))))], [(3, vS 6 (eCase a0))], 212⟩ rfl <| et loop_normal <| ih (Go.IntKind.wrap .i64 (x38 + 1))
      · intro s; exact hret s
    · rw [hc]
      exact et k_exit <| et loop_exit <| hK0 x38
theorem law12_MatchLogic_L4_ok (k : Nat) (a0 : T_progenylaw12_Case) (a1 : (List (List T_api_Term))) (a2 : Str) (o18 : Bool × Bool) (x77 : Int)  (K0 : Int → Option Bool) (Kst : X × St → Option (V × List V)) (hK0 : ∀ (y0 : Int), Kst (X.exit 2, ⟨[(2, (Sr a2)), (3, (Pt 3)), (7, (Bo o18.1)), (17, (I x77)), (18, (I y0)), (148, (Bo false))], [(3, vS 6 (eCase a0))], 212⟩) = (K0 y0).map law12_MatchLogic_fin) (hret : ∀ s, Kst (X.ret, s) = endK prog 212 [(eCase a0), (V.sl 0 1 (List.map sTerm a1)), (Sr a2)] [] [.tmp 6] (X.ret, s)) :
    ∀ (m : Nat) (x84 : Int), (iter (exec prog (EV k) f7n k f7b0) m ⟨[(2, (Sr a2)), (3, (Pt 3)), (7, (Bo o18.1)), (17, (I x77)), (18, (I x84))], [(3, vS 6 (eCase a0))], 212⟩).bind Kst = (law12_MatchLogic_L4 k a0 a2 x77 K0 m x84).map law12_MatchLogic_fin := by
  intro m
  induction m with
  | zero => intros; rfl
  | succ m ih =>
    intro x84
    unfold law12_MatchLogic_L4
    refine et k_round <| et k_assoc <| kga f7a21 rfl (fun (o86 : Bool) => [(148, (Bo o86))]) (rd 4 [(141, (I x84)), (142, (V.ptr 3 0 5)), (143, (V.sl 0 1 (List.map sTerm a0.fWhen))), (144, (I x77))] rfl rfl <| rp rfl (p_index (e := sTerm) rfl rfl rfl underlying26 rfl (by decide)) fun v85 => bd 6 [(145, (Pr (sTerm v85))), (146, (sTerm v85))] rfl rfl <| rl rfl (p_len (e := eTerm) rfl rfl rfl rfl rfl rfl underlying50) <| bind_end rfl) fun o86 => kc rfl rfl (fun hc => ?_) fun hc => ?_
    · rw [hc]
      refine et k_skip <| et (k_block rfl) <| kd f7a23 rfl (fun (o90 : Bool) => ⟨[(2, (Sr a2)), (3, (Pt 3)), (7, (Bo o18.1)), (17, (I x77)), (18, (I x84)), (162, (Bo o90))], [(3, vS 6 (eCase a0))], 212⟩) (et (regionE_regp (p := 12) (dk := true) (t := [(2, (Sr a2)), (3, (Pt 3)), (7, (Bo o18.1)), (17, (I x77)), (18, (I x84)), (148, (Bo true))]) (σ := [(3, vS 6 (eCase a0))]) (n := 212) rfl (by decide) (by decide) rfl) <| et (regp_adv (m := 4) (j := 4) (t' := [(2, (Sr a2)), (3, (Pt 3)), (7, (Bo o18.1)), (17, (I x77)), (18, (I x84)), (148, (Bo true)), (151, (eCase a0)), (152, (V.ptr 3 0 5)), (153, (V.sl 0 1 (List.map sTerm a0.fWhen))), (154, (I x77))]) rfl rfl rfl) <| et (regp_pure (x := (idx a0.fWhen x77)) (w := fun v87 => (Pr (sTerm v87))) rfl rfl rfl rfl rfl (p_index (e := sTerm) rfl rfl rfl underlying26 rfl (by decide))) <| bindE fun v87 => et (putp_adv (m := 2) (j := 7) (t' := [(2, (Sr a2)), (3, (Pt 3)), (7, (Bo o18.1)), (17, (I x77)), (18, (I x84)), (148, (Bo true)), (151, (eCase a0)), (152, (V.ptr 3 0 5)), (153, (V.sl 0 1 (List.map sTerm a0.fWhen))), (154, (I x77)), (155, (Pr (sTerm v87))), (156, (sTerm v87)), (157, (I x84))]) rfl rfl rfl) <| et (regp_pure (x := (idx v87 x84)) (w := fun v88 => (Pr (eTerm v88))) rfl rfl rfl rfl rfl (p_index (e := eTerm) rfl rfl rfl underlying50 rfl (by decide))) <| bindE fun v88 => et (putp_adv (m := 2) (j := 10) (t' := [(2, (Sr a2)), (3, (Pt 3)), (7, (Bo o18.1)), (17, (I x77)), (18, (I x84)), (148, (Bo true)), (151, (eCase a0)), (152, (V.ptr 3 0 5)), (153, (V.sl 0 1 (List.map sTerm a0.fWhen))), (154, (I x77)), (155, (Pr (sTerm v87))), (156, (sTerm v87)), (157, (I x84)), (158, (Pr (eTerm v88))), (159, (eTerm v88)), (160, (Sr a2))]) rfl rfl rfl) <| et (regp_pure (x := (law12_parted k a0 v88 a2)) (w := fun v89 => (Bo v89)) rfl rfl rfl rfl rfl (p_call rfl rfl rfl rfl rfl (law12_parted_ok k a0 v88 a2) (.inl rfl))) <| bindE fun v89 => regp_end rfl) fun o90 => kcl rfl rfl (fun hc => ?_) fun hc => ?_
      · rw [hc]
        refine kr ⟨[(6, (Bo false))], [], 212⟩ rfl <| et k_lret <| et blk_ret <| et loop_ret <| et (hret _) ?_
        rfl
      · rw [hc]
        exact et k_lskip <| et blk_normal <| kl ⟨[(2, (Sr a2)), (3, (Pt 3)), (7, (Bo o18.1)), (17, (I x77)), (18, (I (Go.IntKind.wrap .i64 (x84 + 1))))], [(3, vS 6 (eCase a0))], 212⟩ rfl <| et loop_normal <| ih (Go.IntKind.wrap .i64 (x84 + 1))
    · rw [hc]
      exact et k_exit <| et loop_exit <| hK0 x84
theorem law12_MatchLogic_L3_ok (k : Nat) (a0 : T_progenylaw12_Case) (a1 : (List (List T_api_Term))) (a2 : Str) (o18 : Bool × Bool)  (K0 : Int → Option Bool) (Kst : X × St → Option (V × List V)) (hK0 : ∀ (y0 : Int), Kst (X.exit 0, ⟨[(2, (Sr a2)), (3, (Pt 3)), (7, (Bo o18.1)), (17, (I y0)), (138, (Bo false))], [(3, vS 6 (eCase a0))], 212⟩) = (K0 y0).map law12_MatchLogic_fin) (hret : ∀ s, Kst (X.ret, s) = endK prog 212 [(eCase a0), (V.sl 0 1 (List.map sTerm a1)), (Sr a2)] [] [.tmp 6] (X.ret, s)) :
    ∀ (m : Nat) (x77 : Int), (iter (exec prog (EV k) f7n k f7b1) m ⟨[(2, (Sr a2)), (3, (Pt 3)), (7, (Bo o18.1)), (17, (I x77))], [(3, vS 6 (eCase a0))], 212⟩).bind Kst = (law12_MatchLogic_L3 k a0 a2 K0 m x77).map law12_MatchLogic_fin := by
  intro m
  induction m with
  | zero => intros; rfl
  | succ m ih =>
    intro x77
    unfold law12_MatchLogic_L3
    refine et k_round <| et k_assoc <| krp f7a18 rfl ⟨[(2, (Sr a2)), (3, (Pt 3)), (7, (Bo o18.1)), (17, (I x77)), (138, (Bo (decide (x77 < (a0.fWhen.length : Int)))))], [(3, vS 6 (eCase a0))], 212⟩ ?_ ?_
    · exact rd 3 [(134, (I x77)), (135, (V.ptr 3 0 5)), (136, (V.sl 0 1 (List.map sTerm a0.fWhen)))] rfl rfl <| rl rfl (p_len (e := sTerm) rfl rfl rfl rfl rfl rfl underlying26) <| bind_end rfl
    refine kc rfl rfl (fun hc => ?_) fun hc => ?_
    · rw [hc]
      refine et k_skip <| et (k_block rfl) <| kr ⟨[(2, (Sr a2)), (3, (Pt 3)), (7, (Bo o18.1)), (17, (I x77)), (18, (I 0))], [(3, vS 6 (eCase a0))], 212⟩ rfl <| et (k_lblock rfl) <| et k_loop ?_
      refine law12_MatchLogic_L4_ok k a0 a1 a2 o18 x77 _ _ ?h_law12_MatchLogic_L4_0 ?hr_law12_MatchLogic_L4 k 0
      · intro y91
        exact et blk_exit <| et k_lskip <| et blk_normal <| kl ⟨[(2, (Sr a2)), (3, (Pt 3)), (7, (Bo o18.1)), (17, (I (Go.IntKind.wrap .i64 (x77 + 1))))], [(3, vS 6 (eCase a0))], 212⟩ rfl <| et loop_normal <| ih (Go.IntKind.wrap .i64 (x77 + 1))
      · intro s; exact hret s
    · rw [hc]
      exact et k_exit <| et loop_exit <| hK0 x77
theorem law12_MatchLogic_L6_ok (k : Nat) (a0 : T_progenylaw12_Case) (a1 : (List (List T_api_Term))) (a2 : Str) (o106 : Bool × Bool) (x121 : Int)  (K0 : Int → Option Bool) (Kst : X × St → Option (V × List V)) (hK0 : ∀ (y0 : Int), Kst (X.exit 2, ⟨[(2, (Sr a2)), (3, (Pt 3)), (7, (Bo o106.1)), (17, (I x121)), (18, (I y0)), (148, (Bo false))], [(3, vS 6 (eCase a0))], 212⟩) = (K0 y0).map law12_MatchLogic_fin) (hret : ∀ s, Kst (X.ret, s) = endK prog 212 [(eCase a0), (V.sl 0 1 (List.map sTerm a1)), (Sr a2)] [] [.tmp 6] (X.ret, s)) :
    ∀ (m : Nat) (x128 : Int), (iter (exec prog (EV k) f7n k f7b0) m ⟨[(2, (Sr a2)), (3, (Pt 3)), (7, (Bo o106.1)), (17, (I x121)), (18, (I x128))], [(3, vS 6 (eCase a0))], 212⟩).bind Kst = (law12_MatchLogic_L6 k a0 a2 x121 K0 m x128).map law12_MatchLogic_fin := by
  intro m
  induction m with
  | zero => intros; rfl
  | succ m ih =>
    intro x128
    unfold law12_MatchLogic_L6
    refine et k_round <| et k_assoc <| kga f7a21 rfl (fun (o130 : Bool) => [(148, (Bo o130))]) (rd 4 [(141, (I x128)), (142, (V.ptr 3 0 5)), (143, (V.sl 0 1 (List.map sTerm a0.fWhen))), (144, (I x121))] rfl rfl <| rp rfl (p_index (e := sTerm) rfl rfl rfl underlying26 rfl (by decide)) fun v129 => bd 6 [(145, (Pr (sTerm v129))), (146, (sTerm v129))] rfl rfl <| rl rfl (p_len (e := eTerm) rfl rfl rfl rfl rfl rfl underlying50) <| bind_end rfl) fun o130 => kc rfl rfl (fun hc => ?_) fun hc => ?_
    · rw [hc]
      refine et k_skip <| et (k_block rfl) <| kd f7a23 rfl (fun (o134 : Bool) => ⟨[(2, (Sr a2)), (3, (Pt 3)), (7, (Bo o106.1)), (17, (I x121)), (18, (I x128)), (162, (Bo o134))], [(3, vS 6 (eCase a0))], 212⟩) (et (regionE_regp (p := 12) (dk := true) (t := [(2, (Sr a2)), (3, (Pt 3)), (7, (Bo o106.1)), (17, (I x121)), (18, (I x128)), (148, (Bo true))]) (σ := [(3, vS 6 (eCase a0))]) (n := 212) rfl (by decide) (by decide) rfl) <| et (regp_adv (m := 4) (j := 4) (t' := [(2, (Sr a2)), (3, (Pt 3)), (7, (Bo o106.1)), (17, (I x121)), (18, (I x128)), (148, (Bo true)), (151, (eCase a0)), (152, (V.ptr 3 0 5)), (153, (V.sl 0 1 (List.map sTerm a0.fWhen))), (154, (I x121))]) rfl rfl rfl) <| et (regp_pure (x := (idx a0.fWhen x121)) (w := fun v131 => (Pr (sTerm v131))) rfl rfl rfl rfl rfl (p_index (e := sTerm) rfl rfl rfl underlying26 rfl (by decide))) <| bindE fun v131 => et (putp_adv (m := 2) (j := 7) (t' := [(2, (Sr a2)), (3, (Pt 3)), (7, (Bo o106.1)), (17, (I x121)), (18, (I x128)), (148, (Bo true)), (151, (eCase a0)), (152, (V.ptr 3 0 5)), (153, (V.sl 0 1 (List.map sTerm a0.fWhen))), (154, (I x121)), (155, (Pr (sTerm v131))), (156, (sTerm v131)), (157, (I x128))]) rfl rfl rfl) <| et (regp_pure (x := (idx v131 x128)) (w := fun v132 => (Pr (eTerm v132))) rfl rfl rfl rfl rfl (p_index (e := eTerm) rfl rfl rfl underlying50 rfl (by decide))) <| bindE fun v132 => et (putp_adv (m := 2) (j := 10) (t' := [(2, (Sr a2)), (3, (Pt 3)), (7, (Bo o106.1)), (17, (I x121)), (18, (I x128)), (148, (Bo true)), (151, (eCase a0)), (152, (V.ptr 3 0 5)), (153, (V.sl 0 1 (List.map sTerm a0.fWhen))), (154, (I x121)), (155, (Pr (sTerm v131))), (156, (sTerm v131)), (157, (I x128)), (158, (Pr (eTerm v132))), (159, (eTerm v132)), (160, (Sr a2))]) rfl rfl rfl) <| et (regp_pure (x := (law12_parted k a0 v132 a2)) (w := fun v133 => (Bo v133)) rfl rfl rfl rfl rfl (p_call rfl rfl rfl rfl rfl (law12_parted_ok k a0 v132 a2) (.inl rfl))) <| bindE fun v133 => regp_end rfl) fun o134 => kcl rfl rfl (fun hc => ?_) fun hc => ?_
      · rw [hc]
        refine kr ⟨[(6, (Bo false))], [], 212⟩ rfl <| et k_lret <| et blk_ret <| et loop_ret <| et (hret _) ?_
        rfl
      · rw [hc]
        exact et k_lskip <| et blk_normal <| kl ⟨[(2, (Sr a2)), (3, (Pt 3)), (7, (Bo o106.1)), (17, (I x121)), (18, (I (Go.IntKind.wrap .i64 (x128 + 1))))], [(3, vS 6 (eCase a0))], 212⟩ rfl <| et loop_normal <| ih (Go.IntKind.wrap .i64 (x128 + 1))
    · rw [hc]
      exact et k_exit <| et loop_exit <| hK0 x128
theorem law12_MatchLogic_L5_ok (k : Nat) (a0 : T_progenylaw12_Case) (a1 : (List (List T_api_Term))) (a2 : Str) (o106 : Bool × Bool)  (K0 : Int → Option Bool) (Kst : X × St → Option (V × List V)) (hK0 : ∀ (y0 : Int), Kst (X.exit 0, ⟨[(2, (Sr a2)), (3, (Pt 3)), (7, (Bo o106.1)), (17, (I y0)), (138, (Bo false))], [(3, vS 6 (eCase a0))], 212⟩) = (K0 y0).map law12_MatchLogic_fin) (hret : ∀ s, Kst (X.ret, s) = endK prog 212 [(eCase a0), (V.sl 0 1 (List.map sTerm a1)), (Sr a2)] [] [.tmp 6] (X.ret, s)) :
    ∀ (m : Nat) (x121 : Int), (iter (exec prog (EV k) f7n k f7b1) m ⟨[(2, (Sr a2)), (3, (Pt 3)), (7, (Bo o106.1)), (17, (I x121))], [(3, vS 6 (eCase a0))], 212⟩).bind Kst = (law12_MatchLogic_L5 k a0 a2 K0 m x121).map law12_MatchLogic_fin := by
  intro m
  induction m with
  | zero => intros; rfl
  | succ m ih =>
    intro x121
    unfold law12_MatchLogic_L5
    refine et k_round <| et k_assoc <| krp f7a18 rfl ⟨[(2, (Sr a2)), (3, (Pt 3)), (7, (Bo o106.1)), (17, (I x121)), (138, (Bo (decide (x121 < (a0.fWhen.length : Int)))))], [(3, vS 6 (eCase a0))], 212⟩ ?_ ?_
    · exact rd 3 [(134, (I x121)), (135, (V.ptr 3 0 5)), (136, (V.sl 0 1 (List.map sTerm a0.fWhen)))] rfl rfl <| rl rfl (p_len (e := sTerm) rfl rfl rfl rfl rfl rfl underlying26) <| bind_end rfl
    refine kc rfl rfl (fun hc => ?_) fun hc => ?_
    · rw [hc]
      refine et k_skip <| et (k_block rfl) <| kr ⟨[(2, (Sr a2)), (3, (Pt 3)), (7, (Bo o106.1)), (17, (I x121)), (18, (I 0))], [(3, vS 6 (eCase a0))], 212⟩ rfl <| et (k_lblock rfl) <| et k_loop ?_
      refine law12_MatchLogic_L6_ok k a0 a1 a2 o106 x121 _ _ ?h_law12_MatchLogic_L6_0 ?hr_law12_MatchLogic_L6 k 0
      · intro y135
        exact et blk_exit <| et k_lskip <| et blk_normal <| kl ⟨[(2, (Sr a2)), (3, (Pt 3)), (7, (Bo o106.1)), (17, (I (Go.IntKind.wrap .i64 (x121 + 1))))], [(3, vS 6 (eCase a0))], 212⟩ rfl <| et loop_normal <| ih (Go.IntKind.wrap .i64 (x121 + 1))
      · intro s; exact hret s
    · rw [hc]
      exact et k_exit <| et loop_exit <| hK0 x121
theorem law12_MatchLogic_L8_ok (k : Nat) (a0 : T_progenylaw12_Case) (a1 : (List (List T_api_Term))) (a2 : Str) (o8 : Bool × Int) (x160 : Int)  (K0 : Int → Option Bool) (Kst : X × St → Option (V × List V)) (hK0 : ∀ (y0 : Int), Kst (X.exit 2, ⟨[(2, (Sr a2)), (3, (Pt 3)), (7, (Bo o8.1)), (17, (I x160)), (18, (I y0)), (148, (Bo false))], [(3, vS 6 (eCase a0))], 212⟩) = (K0 y0).map law12_MatchLogic_fin) (hret : ∀ s, Kst (X.ret, s) = endK prog 212 [(eCase a0), (V.sl 0 1 (List.map sTerm a1)), (Sr a2)] [] [.tmp 6] (X.ret, s)) :
    ∀ (m : Nat) (x167 : Int), (iter (exec prog (EV k) f7n k f7b0) m ⟨[(2, (Sr a2)), (3, (Pt 3)), (7, (Bo o8.1)), (17, (I x160)), (18, (I x167))], [(3, vS 6 (eCase a0))], 212⟩).bind Kst = (law12_MatchLogic_L8 k a0 a2 x160 K0 m x167).map law12_MatchLogic_fin := by
  intro m
  induction m with
  | zero => intros; rfl
  | succ m ih =>
    intro x167
    unfold law12_MatchLogic_L8
    refine et k_round <| et k_assoc <| kga f7a21 rfl (fun (o169 : Bool) => [(148, (Bo o169))]) (rd 4 [(141, (I x167)), (142, (V.ptr 3 0 5)), (143, (V.sl 0 1 (List.map sTerm a0.fWhen))), (144, (I x160))] rfl rfl <| rp rfl (p_index (e := sTerm) rfl rfl rfl underlying26 rfl (by decide)) fun v168 => bd 6 [(145, (Pr (sTerm v168))), (146, (sTerm v168))] rfl rfl <| rl rfl (p_len (e := eTerm) rfl rfl rfl rfl rfl rfl underlying50) <| bind_end rfl) fun o169 => kc rfl rfl (fun hc => ?_) fun hc => ?_
    · rw [hc]
      refine et k_skip <| et (k_block rfl) <| kd f7a23 rfl (fun (o173 : Bool) => ⟨[(2, (Sr a2)), (3, (Pt 3)), (7, (Bo o8.1)), (17, (I x160)), (18, (I x167)), (162, (Bo o173))], [(3, vS 6 (eCase a0))], 212⟩) (et (regionE_regp (p := 12) (dk := true) (t := [(2, (Sr a2)), (3, (Pt 3)), (7, (Bo o8.1)), (17, (I x160)), (18, (I x167)), (148, (Bo true))]) (σ := [(3, vS 6 (eCase a0))]) (n := 212) rfl (by decide) (by decide) rfl) <| et (regp_adv (m := 4) (j := 4) (t' := [(2, (Sr a2)), (3, (Pt 3)), (7, (Bo o8.1)), (17, (I x160)), (18, (I x167)), (148, (Bo true)), (151, (eCase a0)), (152, (V.ptr 3 0 5)), (153, (V.sl 0 1 (List.map sTerm a0.fWhen))), (154, (I x160))]) rfl rfl rfl) <| et (regp_pure (x := (idx a0.fWhen x160)) (w := fun v170 => (Pr (sTerm v170))) rfl rfl rfl rfl rfl (p_index (e := sTerm) rfl rfl rfl underlying26 rfl (by decide))) <| bindE fun v170 => et (putp_adv (m := 2) (j := 7) (t' := [(2, (Sr a2)), (3, (Pt 3)), (7, (Bo o8.1)), (17, (I x160)), (18, (I x167)), (148, (Bo true)), (151, (eCase a0)), (152, (V.ptr 3 0 5)), (153, (V.sl 0 1 (List.map sTerm a0.fWhen))), (154, (I x160)), (155, (Pr (sTerm v170))), (156, (sTerm v170)), (157, (I x167))]) rfl rfl rfl) <| et (regp_pure (x := (idx v170 x167)) (w := fun v171 => (Pr (eTerm v171))) rfl rfl rfl rfl rfl (p_index (e := eTerm) rfl rfl rfl underlying50 rfl (by decide))) <| bindE fun v171 => et (putp_adv (m := 2) (j := 10) (t' := [(2, (Sr a2)), (3, (Pt 3)), (7, (Bo o8.1)), (17, (I x160)), (18, (I x167)), (148, (Bo true)), (151, (eCase a0)), (152, (V.ptr 3 0 5)), (153, (V.sl 0 1 (List.map sTerm a0.fWhen))), (154, (I x160)), (155, (Pr (sTerm v170))), (156, (sTerm v170)), (157, (I x167)), (158, (Pr (eTerm v171))), (159, (eTerm v171)), (160, (Sr a2))]) rfl rfl rfl) <| et (regp_pure (x := (law12_parted k a0 v171 a2)) (w := fun v172 => (Bo v172)) rfl rfl rfl rfl rfl (p_call rfl rfl rfl rfl rfl (law12_parted_ok k a0 v171 a2) (.inl rfl))) <| bindE fun v172 => regp_end rfl) fun o173 => kcl rfl rfl (fun hc => ?_) fun hc => ?_
      · rw [hc]
        refine kr ⟨[(6, (Bo false))], [], 212⟩ rfl <| et k_lret <| et blk_ret <| et loop_ret <| et (hret _) ?_
        rfl
      · rw [hc]
        exact et k_lskip <| et blk_normal <| kl ⟨[(2, (Sr a2)), (3, (Pt 3)), (7, (Bo o8.1)), (17, (I x160)), (18, (I (Go.IntKind.wrap .i64 (x167 + 1))))], [(3, vS 6 (eCase a0))], 212⟩ rfl <| et loop_normal <| ih (Go.IntKind.wrap .i64 (x167 + 1))
    · rw [hc]
      exact et k_exit <| et loop_exit <| hK0 x167
theorem law12_MatchLogic_L7_ok (k : Nat) (a0 : T_progenylaw12_Case) (a1 : (List (List T_api_Term))) (a2 : Str) (o8 : Bool × Int)  (K0 : Int → Option Bool) (Kst : X × St → Option (V × List V)) (hK0 : ∀ (y0 : Int), Kst (X.exit 0, ⟨[(2, (Sr a2)), (3, (Pt 3)), (7, (Bo o8.1)), (17, (I y0)), (138, (Bo false))], [(3, vS 6 (eCase a0))], 212⟩) = (K0 y0).map law12_MatchLogic_fin) (hret : ∀ s, Kst (X.ret, s) = endK prog 212 [(eCase a0), (V.sl 0 1 (List.map sTerm a1)), (Sr a2)] [] [.tmp 6] (X.ret, s)) :
    ∀ (m : Nat) (x160 : Int), (iter (exec prog (EV k) f7n k f7b1) m ⟨[(2, (Sr a2)), (3, (Pt 3)), (7, (Bo o8.1)), (17, (I x160))], [(3, vS 6 (eCase a0))], 212⟩).bind Kst = (law12_MatchLogic_L7 k a0 a2 K0 m x160).map law12_MatchLogic_fin := by
  intro m
  induction m with
  | zero => intros; rfl
  | succ m ih =>
    intro x160
    unfold law12_MatchLogic_L7
    refine et k_round <| et k_assoc <| krp f7a18 rfl ⟨[(2, (Sr a2)), (3, (Pt 3)), (7, (Bo o8.1)), (17, (I x160)), (138, (Bo (decide (x160 < (a0.fWhen.length : Int)))))], [(3, vS 6 (eCase a0))], 212⟩ ?_ ?_
    · exact rd 3 [(134, (I x160)), (135, (V.ptr 3 0 5)), (136, (V.sl 0 1 (List.map sTerm a0.fWhen)))] rfl rfl <| rl rfl (p_len (e := sTerm) rfl rfl rfl rfl rfl rfl underlying26) <| bind_end rfl
    refine kc rfl rfl (fun hc => ?_) fun hc => ?_
    · rw [hc]
      refine et k_skip <| et (k_block rfl) <| kr ⟨[(2, (Sr a2)), (3, (Pt 3)), (7, (Bo o8.1)), (17, (I x160)), (18, (I 0))], [(3, vS 6 (eCase a0))], 212⟩ rfl <| et (k_lblock rfl) <| et k_loop ?_
      refine law12_MatchLogic_L8_ok k a0 a1 a2 o8 x160 _ _ ?h_law12_MatchLogic_L8_0 ?hr_law12_MatchLogic_L8 k 0
      · intro y174
        exact et blk_exit <| et k_lskip <| et blk_normal <| kl ⟨[(2, (Sr a2)), (3, (Pt 3)), (7, (Bo o8.1)), (17, (I (Go.IntKind.wrap .i64 (x160 + 1))))], [(3, vS 6 (eCase a0))], 212⟩ rfl <| et loop_normal <| ih (Go.IntKind.wrap .i64 (x160 + 1))
      · intro s; exact hret s
    · rw [hc]
      exact et k_exit <| et loop_exit <| hK0 x160
theorem law12_MatchLogic_ok (k : Nat) (a0 : T_progenylaw12_Case) (a1 : (List (List T_api_Term))) (a2 : Str) : EV k 7 [(eCase a0), (V.sl 0 1 (List.map sTerm a1)), (Sr a2)] = (law12_MatchLogic k a0 a1 a2).map law12_MatchLogic_fin := by
  cases k with
  | zero => rfl
  | succ k =>
    unfold law12_MatchLogic
    refine et (evF_succ (c := f7c) (N := 212) (regs := f7n) rfl func7 rfl (by decide) rfl rfl rfl) <| kr ⟨[(1, (V.sl 0 1 (List.map sTerm a1))), (2, (Sr a2)), (3, (Pt 3))], [(3, vS 6 (eCase a0))], 212⟩ rfl <| et k_assoc <| kga f7a1 rfl (fun (o4 : Bool) => [(38, (Bo o4))]) ?_ fun o4 => ?_
    · refine rd 2 [(22, (Pt 3)), (23, (eBase a0.fBase))] rfl rfl <| rp rfl (p_call rfl rfl rfl rfl rfl (law12_Large_ok k a0.fBase) (.inl rfl)) fun v1 => bd 4 [(24, (Bo v1)), (25, (Bo v1))] rfl rfl <| bifE (fun hc => ?_) fun hc => ?_
      · rw [hc]
        exact reg_end rfl
      · rw [hc]
        refine rd 6 [(26, (V.ptr 3 0 5)), (27, (V.sl 0 1 (List.map sTerm a0.fWhen)))] rfl rfl <| rp rfl (p_call rfl rfl rfl rfl rfl (law12_Long_ok k a0.fWhen) (.inl rfl)) fun v2 => bd 9 [(28, (Bo v2)), (29, (Bo v2)), (30, (Bo v2))] rfl rfl <| bifE (fun hc => ?_) fun hc => ?_
        · rw [hc]
          exact reg_end rfl
        · rw [hc]
          refine rd 10 [(31, (V.sl 0 1 (List.map sTerm a1)))] rfl rfl <| rp rfl (p_call rfl rfl rfl rfl rfl (law12_Long_ok k a1) (.inl rfl)) fun v3 => bd 13 [(32, (Bo v3)), (33, (Bo v3)), (34, (Bo v3))] rfl rfl <| bifE (fun hc => ?_) fun hc => ?_
          · rw [hc]
            exact reg_end rfl
          · rw [hc]
            exact reg_end rfl
    refine kc rfl rfl (fun hc => ?_) fun hc => ?_
    · rw [hc]
      refine et k_assoc <| kg f7a2 rfl (fun (o6 : Bool) => ⟨[(6, (Bo o6))], [], 212⟩) (rs rfl (p_call rfl rfl rfl rfl rfl (law12_Awake_ok k) (.inl rfl)) fun v5 => bind_end rfl) fun o6 => et k_ret ?_
      rfl
    · rw [hc]
      refine et k_skip <| kg f7a3 rfl (fun (o8 : Bool × Int) => ⟨[(1, (V.sl 0 1 (List.map sTerm a1))), (2, (Sr a2)), (3, (Pt 3)), (7, (Bo o8.1)), (8, (I o8.2))], [(3, vS 6 (eCase a0))], 212⟩) (rd 7 [(41, (Pt 3)), (42, (eBase a0.fBase)), (43, (V.ptr 3 0 4)), (44, (I a0.fType)), (45, (V.ptr 3 0 5)), (46, (V.sl 0 1 (List.map sTerm a0.fWhen))), (47, (Sr a2))] rfl rfl <| rp rfl (p_call rfl rfl rfl rfl rfl (match_Holds_ok k a0.fBase a0.fType a0.fWhen a2) (.inl rfl)) fun v7 => bind_end rfl) fun o8 => kga f7a4 rfl (fun (o10 : Bool × Int) => [(9, (Bo o10.1)), (10, (I o10.2))]) (rd 6 [(52, (Pt 3)), (53, (eBase a0.fBase)), (54, (V.ptr 3 0 4)), (55, (I a0.fType)), (56, (V.sl 0 1 (List.map sTerm a1))), (57, (Sr a2))] rfl rfl <| rp rfl (p_call rfl rfl rfl rfl rfl (match_Holds_ok k a0.fBase a0.fType a1 a2) (.inl rfl)) fun v9 => bind_end rfl) fun o10 => et k_assoc <| kg f7a5 rfl (fun (o11 : Bool) => ⟨[(1, (V.sl 0 1 (List.map sTerm a1))), (2, (Sr a2)), (3, (Pt 3)), (7, (Bo o8.1)), (9, (Bo o10.1)), (66, (Bo o11))], [(3, vS 6 (eCase a0))], 212⟩) ?_ fun o11 => ?_
      · refine rd 3 [(61, (I o8.2)), (62, (Bo (o8.2 != 0))), (63, (Bo (o8.2 != 0)))] rfl rfl <| bifE (fun hc => ?_) fun hc => ?_
        · rw [hc]
          exact reg_end rfl
        · rw [hc]
          exact reg_end rfl
      refine kc rfl rfl (fun hc => ?_) fun hc => ?_
      · rw [hc]
        refine et k_assoc <| kg f7a6 rfl (fun (o13 : Bool) => ⟨[(6, (Bo o13))], [], 212⟩) (rs rfl (p_call rfl rfl rfl rfl rfl (law12_Awake_ok k) (.inl rfl)) fun v12 => bind_end rfl) fun o13 => et k_ret ?_
        rfl
      · rw [hc]
        refine et k_skip <| kg f7a7 rfl (fun (o15 : Int × (List (List T_api_Term))) => ⟨[(1, (V.sl 0 1 (List.map sTerm a1))), (2, (Sr a2)), (3, (Pt 3)), (7, (Bo o8.1)), (8, (I o15.1)), (9, (Bo o10.1)), (11, (V.sl 0 1 (List.map sTerm o15.2)))], [(3, vS 6 (eCase a0))], 212⟩) (rd 7 [(69, (Pt 3)), (70, (eBase a0.fBase)), (71, (V.ptr 3 0 4)), (72, (I a0.fType)), (73, (V.ptr 3 0 5)), (74, (V.sl 0 1 (List.map sTerm a0.fWhen))), (75, (V.sl 0 1 (List.map sTerm a1)))] rfl rfl <| rp rfl (p_call rfl rfl rfl rfl rfl (match_And_ok k a0.fBase a0.fType a0.fWhen a1) (.inl rfl)) fun v14 => bind_end rfl) fun o15 => et k_assoc <| kr ⟨[(1, (V.sl 0 1 (List.map sTerm a1))), (2, (Sr a2)), (3, (Pt 3)), (7, (Bo o8.1)), (9, (Bo o10.1)), (11, (V.sl 0 1 (List.map sTerm o15.2))), (80, (Bo (o15.1 == 0)))], [(3, vS 6 (eCase a0))], 212⟩ rfl <| kc rfl rfl (fun hc => ?_) fun hc => ?_
        · rw [hc]
          refine et k_assoc <| kg f7a9 rfl (fun (o17 : Bool × Int) => ⟨[(1, (V.sl 0 1 (List.map sTerm a1))), (2, (Sr a2)), (3, (Pt 3)), (7, (Bo o8.1)), (9, (Bo o10.1)), (12, (Bo o17.1)), (13, (I o17.2))], [(3, vS 6 (eCase a0))], 212⟩) (rd 6 [(82, (Pt 3)), (83, (eBase a0.fBase)), (84, (V.ptr 3 0 4)), (85, (I a0.fType)), (86, (V.sl 0 1 (List.map sTerm o15.2))), (87, (Sr a2))] rfl rfl <| rp rfl (p_call rfl rfl rfl rfl rfl (match_Holds_ok k a0.fBase a0.fType o15.2 a2) (.inl rfl)) fun v16 => bind_end rfl) fun o17 => et k_assoc <| kg f7a10 rfl (fun (o18 : Bool × Bool) => ⟨[(1, (V.sl 0 1 (List.map sTerm a1))), (2, (Sr a2)), (3, (Pt 3)), (7, (Bo o18.1)), (9, (Bo o10.1)), (100, (Bo o18.2))], [(3, vS 6 (eCase a0))], 212⟩) ?_ fun o18 => ?_
          · refine rd 3 [(91, (I o17.2)), (92, (Bo (o17.2 != 0))), (93, (Bo (o17.2 != 0)))] rfl rfl <| bifE (fun hc => ?_) fun hc => ?_
            · rw [hc]
              exact reg_end rfl
            · rw [hc]
              refine rd 6 [(94, (Bo o17.1)), (95, (Bo o8.1)), (96, (Bo o8.1))] rfl rfl <| bifE (fun hc => ?_) fun hc => ?_
              · rw [hc]
                exact reg_end rfl
              · rw [hc]
                exact reg_end rfl
          refine kc rfl rfl (fun hc => ?_) fun hc => ?_
          · rw [hc]
            refine et k_assoc <| kr ⟨[(6, (Bo false))], [], 212⟩ rfl <| et k_ret ?_
            rfl
          · rw [hc]
            refine et k_skip <| kg f7a12 rfl (fun (o20 : Int × (List (List T_api_Term))) => ⟨[(2, (Sr a2)), (3, (Pt 3)), (7, (Bo o18.1)), (8, (I o20.1)), (9, (Bo o10.1)), (14, (V.sl 0 1 (List.map sTerm o20.2)))], [(3, vS 6 (eCase a0))], 212⟩) (rd 7 [(102, (Pt 3)), (103, (eBase a0.fBase)), (104, (V.ptr 3 0 4)), (105, (I a0.fType)), (106, (V.ptr 3 0 5)), (107, (V.sl 0 1 (List.map sTerm a0.fWhen))), (108, (V.sl 0 1 (List.map sTerm a1)))] rfl rfl <| rp rfl (p_call rfl rfl rfl rfl rfl (match_Or_ok k a0.fBase a0.fType a0.fWhen a1) (.inl rfl)) fun v19 => bind_end rfl) fun o20 => et k_assoc <| kr ⟨[(2, (Sr a2)), (3, (Pt 3)), (7, (Bo o18.1)), (9, (Bo o10.1)), (14, (V.sl 0 1 (List.map sTerm o20.2))), (113, (Bo (o20.1 == 0)))], [(3, vS 6 (eCase a0))], 212⟩ rfl <| kc rfl rfl (fun hc => ?_) fun hc => ?_
            · rw [hc]
              refine et k_assoc <| kg f7a14 rfl (fun (o22 : Bool × Int) => ⟨[(2, (Sr a2)), (3, (Pt 3)), (7, (Bo o18.1)), (9, (Bo o10.1)), (15, (Bo o22.1)), (16, (I o22.2))], [(3, vS 6 (eCase a0))], 212⟩) (rd 6 [(115, (Pt 3)), (116, (eBase a0.fBase)), (117, (V.ptr 3 0 4)), (118, (I a0.fType)), (119, (V.sl 0 1 (List.map sTerm o20.2))), (120, (Sr a2))] rfl rfl <| rp rfl (p_call rfl rfl rfl rfl rfl (match_Holds_ok k a0.fBase a0.fType o20.2 a2) (.inl rfl)) fun v21 => bind_end rfl) fun o22 => et k_assoc <| kg f7a15 rfl (fun (o23 : Bool × Bool) => ⟨[(2, (Sr a2)), (3, (Pt 3)), (7, (Bo o23.1)), (133, (Bo o23.2))], [(3, vS 6 (eCase a0))], 212⟩) ?_ fun o23 => ?_
              · refine rd 3 [(124, (I o22.2)), (125, (Bo (o22.2 != 0))), (126, (Bo (o22.2 != 0)))] rfl rfl <| bifE (fun hc => ?_) fun hc => ?_
                · rw [hc]
                  exact reg_end rfl
                · rw [hc]
                  refine rd 6 [(127, (Bo o22.1)), (128, (Bo o18.1)), (129, (Bo o18.1))] rfl rfl <| bifE (fun hc => ?_) fun hc => ?_
                  · rw [hc]
                    exact reg_end rfl
                  · rw [hc]
                    exact reg_end rfl
              refine kc rfl rfl (fun hc => ?_) fun hc => ?_
              · rw [hc]
                refine et k_assoc <| kr ⟨[(6, (Bo false))], [], 212⟩ rfl <| et k_ret ?_
                rfl
              · rw [hc]
                refine et k_skip <| et k_assoc <| kr ⟨[(2, (Sr a2)), (3, (Pt 3)), (7, (Bo o23.1)), (17, (I 0))], [(3, vS 6 (eCase a0))], 212⟩ rfl <| et (k_block rfl) <| et k_loop ?_
                refine law12_MatchLogic_L1_ok k a0 a1 a2 o23 _ _ ?h_law12_MatchLogic_L1_0 ?hr_law12_MatchLogic_L1 k 0
                · intro y53
                  refine et blk_exit <| kg f7a25 rfl (fun (o55 : Int × Str × Str) => ⟨[(2, (Sr a2)), (3, (Pt 3)), (7, (Bo o23.1)), (8, (I o55.1)), (19, (Sr o55.2.1)), (20, (Sr o55.2.2))], [(3, vS 6 (eCase a0))], 212⟩) (rd 6 [(164, (Pt 3)), (165, (eBase a0.fBase)), (166, (V.ptr 3 0 4)), (167, (I a0.fType)), (168, (V.ptr 3 0 5)), (169, (V.sl 0 1 (List.map sTerm a0.fWhen)))] rfl rfl <| rp rfl (p_call rfl rfl rfl rfl rfl (match_Range_ok k a0.fBase a0.fType a0.fWhen) (.inl rfl)) fun v54 => bind_end rfl) fun o55 => kg f7a26 rfl (fun (o57 : Int × Str) => ⟨[(7, (Bo o23.1)), (8, (I o55.1)), (10, (I o57.1)), (19, (Sr o55.2.1)), (20, (Sr o55.2.2)), (21, (Sr o57.2))], [], 212⟩) (rd 5 [(175, (Pt 3)), (176, (eBase a0.fBase)), (177, (V.ptr 3 0 4)), (178, (I a0.fType)), (179, (Sr a2))] rfl rfl <| rp rfl (p_call rfl rfl rfl rfl rfl (ref11_KeyOf_ok k a0.fBase a0.fType a2) (.inl rfl)) fun v56 => bind_end rfl) fun o57 => et k_assoc <| kg f7a27 rfl (fun (o58 : Bool) => ⟨[(7, (Bo o23.1)), (8, (I o55.1)), (19, (Sr o55.2.1)), (20, (Sr o55.2.2)), (21, (Sr o57.2)), (192, (Bo o58))], [], 212⟩) ?_ fun o58 => ?_
                  · refine rd 3 [(183, (I o57.1)), (184, (Bo (o57.1 != 0))), (185, (Bo (o57.1 != 0)))] rfl rfl <| bifE (fun hc => ?_) fun hc => ?_
                    · rw [hc]
                      exact reg_end rfl
                    · rw [hc]
                      refine rd 6 [(186, (I o55.1)), (187, (Bo (o55.1 != 0))), (188, (Bo (o55.1 != 0)))] rfl rfl <| bifE (fun hc => ?_) fun hc => ?_
                      · rw [hc]
                        exact reg_end rfl
                      · rw [hc]
                        exact reg_end rfl
                  refine kc rfl rfl (fun hc => ?_) fun hc => ?_
                  · rw [hc]
                    refine et k_assoc <| kr ⟨[(6, (Bo false))], [], 212⟩ rfl <| et k_ret ?_
                    rfl
                  · rw [hc]
                    refine et k_skip <| kg f7a29 rfl (fun (o62 : Bool) => ⟨[(6, (Bo o62))], [], 212⟩) ?_ fun o62 => ?_
                    · refine rd 3 [(193, (I o55.1)), (194, (Bo (o55.1 != 0))), (195, (Bo (o55.1 != 0)))] rfl rfl <| bifE (fun hc => ?_) fun hc => ?_
                      · rw [hc]
                        exact rd 17 [(196, (V.tup [])), (197, (V.tup [])), (198, (Bo true)), (199, (Bo true)), (200, (V.tup [])), (201, (V.tup [])), (202, (V.tup [])), (203, (V.tup [])), (204, (V.tup [])), (205, (V.tup [])), (206, (V.tup [])), (207, (V.tup [])), (208, (Bo true)), (209, (Bo true))] rfl rfl <| rs rfl (p_call rfl rfl rfl rfl rfl (law12_Awake_ok k) (.inl rfl)) fun v59 => bind_end rfl
                      · rw [hc]
                        refine rd 7 [(196, (Bo o23.1)), (197, (Bo (!o23.1))), (198, (Bo (!o23.1))), (199, (Bo (!o23.1)))] rfl rfl <| bifE (fun hc => ?_) fun hc => ?_
                        · rw [hc]
                          exact rd 17 [(200, (V.tup [])), (201, (V.tup [])), (202, (V.tup [])), (203, (V.tup [])), (204, (V.tup [])), (205, (V.tup [])), (206, (V.tup [])), (207, (V.tup [])), (208, (Bo true)), (209, (Bo true))] rfl rfl <| rs rfl (p_call rfl rfl rfl rfl rfl (law12_Awake_ok k) (.inl rfl)) fun v60 => bind_end rfl
                        · rw [hc]
                          refine rd 11 [(200, (Sr o55.2.1)), (201, (Sr o57.2)), (202, (Bo (Go.AE.bytesLt o55.2.1 o57.2 || o55.2.1 == o57.2))), (203, (Bo (Go.AE.bytesLt o55.2.1 o57.2 || o55.2.1 == o57.2)))] rfl rfl <| bifE (fun hc => ?_) fun hc => ?_
                          · rw [hc]
                            refine rd 17 [(204, (Sr o57.2)), (205, (Sr o55.2.2)), (206, (Bo (Go.AE.bytesLt o57.2 o55.2.2 || o57.2 == o55.2.2))), (207, (Bo (Go.AE.bytesLt o57.2 o55.2.2 || o57.2 == o55.2.2))), (208, (Bo (Go.AE.bytesLt o57.2 o55.2.2 || o57.2 == o55.2.2))), (209, (Bo (Go.AE.bytesLt o57.2 o55.2.2 || o57.2 == o55.2.2)))] rfl rfl <| bifE (fun hc => ?_) fun hc => ?_
                            · rw [hc]
                              exact rs rfl (p_call rfl rfl rfl rfl rfl (law12_Awake_ok k) (.inl rfl)) fun v61 => bind_end rfl
                            · rw [hc]
                              exact reg_end rfl
                          · rw [hc]
                            exact reg_end rfl
                    refine et k_lret ?_
                    rfl
                · intro s; exact rfl
            · rw [hc]
              refine et k_skip <| et k_assoc <| kr ⟨[(2, (Sr a2)), (3, (Pt 3)), (7, (Bo o18.1)), (17, (I 0))], [(3, vS 6 (eCase a0))], 212⟩ rfl <| et (k_block rfl) <| et k_loop ?_
              refine law12_MatchLogic_L3_ok k a0 a1 a2 o18 _ _ ?h_law12_MatchLogic_L3_0 ?hr_law12_MatchLogic_L3 k 0
              · intro y92
                refine et blk_exit <| kg f7a25 rfl (fun (o94 : Int × Str × Str) => ⟨[(2, (Sr a2)), (3, (Pt 3)), (7, (Bo o18.1)), (8, (I o94.1)), (19, (Sr o94.2.1)), (20, (Sr o94.2.2))], [(3, vS 6 (eCase a0))], 212⟩) (rd 6 [(164, (Pt 3)), (165, (eBase a0.fBase)), (166, (V.ptr 3 0 4)), (167, (I a0.fType)), (168, (V.ptr 3 0 5)), (169, (V.sl 0 1 (List.map sTerm a0.fWhen)))] rfl rfl <| rp rfl (p_call rfl rfl rfl rfl rfl (match_Range_ok k a0.fBase a0.fType a0.fWhen) (.inl rfl)) fun v93 => bind_end rfl) fun o94 => kg f7a26 rfl (fun (o96 : Int × Str) => ⟨[(7, (Bo o18.1)), (8, (I o94.1)), (10, (I o96.1)), (19, (Sr o94.2.1)), (20, (Sr o94.2.2)), (21, (Sr o96.2))], [], 212⟩) (rd 5 [(175, (Pt 3)), (176, (eBase a0.fBase)), (177, (V.ptr 3 0 4)), (178, (I a0.fType)), (179, (Sr a2))] rfl rfl <| rp rfl (p_call rfl rfl rfl rfl rfl (ref11_KeyOf_ok k a0.fBase a0.fType a2) (.inl rfl)) fun v95 => bind_end rfl) fun o96 => et k_assoc <| kg f7a27 rfl (fun (o97 : Bool) => ⟨[(7, (Bo o18.1)), (8, (I o94.1)), (19, (Sr o94.2.1)), (20, (Sr o94.2.2)), (21, (Sr o96.2)), (192, (Bo o97))], [], 212⟩) ?_ fun o97 => ?_
                · refine rd 3 [(183, (I o96.1)), (184, (Bo (o96.1 != 0))), (185, (Bo (o96.1 != 0)))] rfl rfl <| bifE (fun hc => ?_) fun hc => ?_
                  · rw [hc]
                    exact reg_end rfl
                  · rw [hc]
                    refine rd 6 [(186, (I o94.1)), (187, (Bo (o94.1 != 0))), (188, (Bo (o94.1 != 0)))] rfl rfl <| bifE (fun hc => ?_) fun hc => ?_
                    · rw [hc]
                      exact reg_end rfl
                    · rw [hc]
                      exact reg_end rfl
                refine kc rfl rfl (fun hc => ?_) fun hc => ?_
                · rw [hc]
                  refine et k_assoc <| kr ⟨[(6, (Bo false))], [], 212⟩ rfl <| et k_ret ?_
                  rfl
                · rw [hc]
                  refine et k_skip <| kg f7a29 rfl (fun (o101 : Bool) => ⟨[(6, (Bo o101))], [], 212⟩) ?_ fun o101 => ?_
                  · refine rd 3 [(193, (I o94.1)), (194, (Bo (o94.1 != 0))), (195, (Bo (o94.1 != 0)))] rfl rfl <| bifE (fun hc => ?_) fun hc => ?_
                    · rw [hc]
                      exact rd 17 [(196, (V.tup [])), (197, (V.tup [])), (198, (Bo true)), (199, (Bo true)), (200, (V.tup [])), (201, (V.tup [])), (202, (V.tup [])), (203, (V.tup [])), (204, (V.tup [])), (205, (V.tup [])), (206, (V.tup [])), (207, (V.tup [])), (208, (Bo true)), (209, (Bo true))] rfl rfl <| rs rfl (p_call rfl rfl rfl rfl rfl (law12_Awake_ok k) (.inl rfl)) fun v98 => bind_end rfl
                    · rw [hc]
                      refine rd 7 [(196, (Bo o18.1)), (197, (Bo (!o18.1))), (198, (Bo (!o18.1))), (199, (Bo (!o18.1)))] rfl rfl <| bifE (fun hc => ?_) fun hc => ?_
                      · rw [hc]
                        exact rd 17 [(200, (V.tup [])), (201, (V.tup [])), (202, (V.tup [])), (203, (V.tup [])), (204, (V.tup [])), (205, (V.tup [])), (206, (V.tup [])), (207, (V.tup [])), (208, (Bo true)), (209, (Bo true))] rfl rfl <| rs rfl (p_call rfl rfl rfl rfl rfl (law12_Awake_ok k) (.inl rfl)) fun v99 => bind_end rfl
                      · rw [hc]
                        refine rd 11 [(200, (Sr o94.2.1)), (201, (Sr o96.2)), (202, (Bo (Go.AE.bytesLt o94.2.1 o96.2 || o94.2.1 == o96.2))), (203, (Bo (Go.AE.bytesLt o94.2.1 o96.2 || o94.2.1 == o96.2)))] rfl rfl <| bifE (fun hc => ?_) fun hc => ?_
                        · rw [hc]
                          refine rd 17 [(204, (Sr o96.2)), (205, (Sr o94.2.2)), (206, (Bo (Go.AE.bytesLt o96.2 o94.2.2 || o96.2 == o94.2.2))), (207, (Bo (Go.AE.bytesLt o96.2 o94.2.2 || o96.2 == o94.2.2))), (208, (Bo (Go.AE.bytesLt o96.2 o94.2.2 || o96.2 == o94.2.2))), (209, (Bo (Go.AE.bytesLt o96.2 o94.2.2 || o96.2 == o94.2.2)))] rfl rfl <| bifE (fun hc => ?_) fun hc => ?_
                          · rw [hc]
                            exact rs rfl (p_call rfl rfl rfl rfl rfl (law12_Awake_ok k) (.inl rfl)) fun v100 => bind_end rfl
                          · rw [hc]
                            exact reg_end rfl
                        · rw [hc]
                          exact reg_end rfl
                  refine et k_lret ?_
                  rfl
              · intro s; exact rfl
        · rw [hc]
          refine et k_skip <| kg f7a12 rfl (fun (o103 : Int × (List (List T_api_Term))) => ⟨[(2, (Sr a2)), (3, (Pt 3)), (7, (Bo o8.1)), (8, (I o103.1)), (9, (Bo o10.1)), (14, (V.sl 0 1 (List.map sTerm o103.2)))], [(3, vS 6 (eCase a0))], 212⟩) (rd 7 [(102, (Pt 3)), (103, (eBase a0.fBase)), (104, (V.ptr 3 0 4)), (105, (I a0.fType)), (106, (V.ptr 3 0 5)), (107, (V.sl 0 1 (List.map sTerm a0.fWhen))), (108, (V.sl 0 1 (List.map sTerm a1)))] rfl rfl <| rp rfl (p_call rfl rfl rfl rfl rfl (match_Or_ok k a0.fBase a0.fType a0.fWhen a1) (.inl rfl)) fun v102 => bind_end rfl) fun o103 => et k_assoc <| kr ⟨[(2, (Sr a2)), (3, (Pt 3)), (7, (Bo o8.1)), (9, (Bo o10.1)), (14, (V.sl 0 1 (List.map sTerm o103.2))), (113, (Bo (o103.1 == 0)))], [(3, vS 6 (eCase a0))], 212⟩ rfl <| kc rfl rfl (fun hc => ?_) fun hc => ?_
          · rw [hc]
            refine et k_assoc <| kg f7a14 rfl (fun (o105 : Bool × Int) => ⟨[(2, (Sr a2)), (3, (Pt 3)), (7, (Bo o8.1)), (9, (Bo o10.1)), (15, (Bo o105.1)), (16, (I o105.2))], [(3, vS 6 (eCase a0))], 212⟩) (rd 6 [(115, (Pt 3)), (116, (eBase a0.fBase)), (117, (V.ptr 3 0 4)), (118, (I a0.fType)), (119, (V.sl 0 1 (List.map sTerm o103.2))), (120, (Sr a2))] rfl rfl <| rp rfl (p_call rfl rfl rfl rfl rfl (match_Holds_ok k a0.fBase a0.fType o103.2 a2) (.inl rfl)) fun v104 => bind_end rfl) fun o105 => et k_assoc <| kg f7a15 rfl (fun (o106 : Bool × Bool) => ⟨[(2, (Sr a2)), (3, (Pt 3)), (7, (Bo o106.1)), (133, (Bo o106.2))], [(3, vS 6 (eCase a0))], 212⟩) ?_ fun o106 => ?_
            · refine rd 3 [(124, (I o105.2)), (125, (Bo (o105.2 != 0))), (126, (Bo (o105.2 != 0)))] rfl rfl <| bifE (fun hc => ?_) fun hc => ?_
              · rw [hc]
                exact reg_end rfl
              · rw [hc]
                refine rd 6 [(127, (Bo o105.1)), (128, (Bo o8.1)), (129, (Bo o8.1))] rfl rfl <| bifE (fun hc => ?_) fun hc => ?_
                · rw [hc]
                  exact reg_end rfl
                · rw [hc]
                  exact reg_end rfl
            refine kc rfl rfl (fun hc => ?_) fun hc => ?_
            · rw [hc]
              refine et k_assoc <| kr ⟨[(6, (Bo false))], [], 212⟩ rfl <| et k_ret ?_
              rfl
            · rw [hc]
              refine et k_skip <| et k_assoc <| kr ⟨[(2, (Sr a2)), (3, (Pt 3)), (7, (Bo o106.1)), (17, (I 0))], [(3, vS 6 (eCase a0))], 212⟩ rfl <| et (k_block rfl) <| et k_loop ?_
              refine law12_MatchLogic_L5_ok k a0 a1 a2 o106 _ _ ?h_law12_MatchLogic_L5_0 ?hr_law12_MatchLogic_L5 k 0
              · intro y136
                refine et blk_exit <| kg f7a25 rfl (fun (o138 : Int × Str × Str) => ⟨[(2, (Sr a2)), (3, (Pt 3)), (7, (Bo o106.1)), (8, (I o138.1)), (19, (Sr o138.2.1)), (20, (Sr o138.2.2))], [(3, vS 6 (eCase a0))], 212⟩) (rd 6 [(164, (Pt 3)), (165, (eBase a0.fBase)), (166, (V.ptr 3 0 4)), (167, (I a0.fType)), (168, (V.ptr 3 0 5)), (169, (V.sl 0 1 (List.map sTerm a0.fWhen)))] rfl rfl <| rp rfl (p_call rfl rfl rfl rfl rfl (match_Range_ok k a0.fBase a0.fType a0.fWhen) (.inl rfl)) fun v137 => bind_end rfl) fun o138 => kg f7a26 rfl (fun (o140 : Int × Str) => ⟨[(7, (Bo o106.1)), (8, (I o138.1)), (10, (I o140.1)), (19, (Sr o138.2.1)), (20, (Sr o138.2.2)), (21, (Sr o140.2))], [], 212⟩) (rd 5 [(175, (Pt 3)), (176, (eBase a0.fBase)), (177, (V.ptr 3 0 4)), (178, (I a0.fType)), (179, (Sr a2))] rfl rfl <| rp rfl (p_call rfl rfl rfl rfl rfl (ref11_KeyOf_ok k a0.fBase a0.fType a2) (.inl rfl)) fun v139 => bind_end rfl) fun o140 => et k_assoc <| kg f7a27 rfl (fun (o141 : Bool) => ⟨[(7, (Bo o106.1)), (8, (I o138.1)), (19, (Sr o138.2.1)), (20, (Sr o138.2.2)), (21, (Sr o140.2)), (192, (Bo o141))], [], 212⟩) ?_ fun o141 => ?_
                · refine rd 3 [(183, (I o140.1)), (184, (Bo (o140.1 != 0))), (185, (Bo (o140.1 != 0)))] rfl rfl <| bifE (fun hc => ?_) fun hc => ?_
                  · rw [hc]
                    exact reg_end rfl
                  · rw [hc]
                    refine rd 6 [(186, (I o138.1)), (187, (Bo (o138.1 != 0))), (188, (Bo (o138.1 != 0)))] rfl rfl <| bifE (fun hc => ?_) fun hc => ?_
                    · rw [hc]
                      exact reg_end rfl
                    · rw [hc]
                      exact reg_end rfl
                refine kc rfl rfl (fun hc => ?_) fun hc => ?_
                · rw [hc]
                  refine et k_assoc <| kr ⟨[(6, (Bo false))], [], 212⟩ rfl <| et k_ret ?_
                  rfl
                · rw [hc]
                  refine et k_skip <| kg f7a29 rfl (fun (o145 : Bool) => ⟨[(6, (Bo o145))], [], 212⟩) ?_ fun o145 => ?_
                  · refine rd 3 [(193, (I o138.1)), (194, (Bo (o138.1 != 0))), (195, (Bo (o138.1 != 0)))] rfl rfl <| bifE (fun hc => ?_) fun hc => ?_
                    · rw [hc]
                      exact rd 17 [(196, (V.tup [])), (197, (V.tup [])), (198, (Bo true)), (199, (Bo true)), (200, (V.tup [])), (201, (V.tup [])), (202, (V.tup [])), (203, (V.tup [])), (204, (V.tup [])), (205, (V.tup [])), (206, (V.tup [])), (207, (V.tup [])), (208, (Bo true)), (209, (Bo true))] rfl rfl <| rs rfl (p_call rfl rfl rfl rfl rfl (law12_Awake_ok k) (.inl rfl)) fun v142 => bind_end rfl
                    · rw [hc]
                      refine rd 7 [(196, (Bo o106.1)), (197, (Bo (!o106.1))), (198, (Bo (!o106.1))), (199, (Bo (!o106.1)))] rfl rfl <| bifE (fun hc => ?_) fun hc => ?_
                      · rw [hc]
                        exact rd 17 [(200, (V.tup [])), (201, (V.tup [])), (202, (V.tup [])), (203, (V.tup [])), (204, (V.tup [])), (205, (V.tup [])), (206, (V.tup [])), (207, (V.tup [])), (208, (Bo true)), (209, (Bo true))] rfl rfl <| rs rfl (p_call rfl rfl rfl rfl rfl (law12_Awake_ok k) (.inl rfl)) fun v143 => bind_end rfl
                      · rw [hc]
                        refine rd 11 [(200, (Sr o138.2.1)), (201, (Sr o140.2)), (202, (Bo (Go.AE.bytesLt o138.2.1 o140.2 || o138.2.1 == o140.2))), (203, (Bo (Go.AE.bytesLt o138.2.1 o140.2 || o138.2.1 == o140.2)))] rfl rfl <| bifE (fun hc => ?_) fun hc => ?_
                        · rw [hc]
                          refine rd 17 [(204, (Sr o140.2)), (205, (Sr o138.2.2)), (206, (Bo (Go.AE.bytesLt o140.2 o138.2.2 || o140.2 == o138.2.2))), (207, (Bo (Go.AE.bytesLt o140.2 o138.2.2 || o140.2 == o138.2.2))), (208, (Bo (Go.AE.bytesLt o140.2 o138.2.2 || o140.2 == o138.2.2))), (209, (Bo (Go.AE.bytesLt o140.2 o138.2.2 || o140.2 == o138.2.2)))] rfl rfl <| bifE (fun hc => ?_) fun hc => ?_
                          · rw [hc]
                            exact rs rfl (p_call rfl rfl rfl rfl rfl (law12_Awake_ok k) (.inl rfl)) fun v144 => bind_end rfl
                          · rw [hc]
                            exact reg_end rfl
                        · rw [hc]
                          exact reg_end rfl
                  refine et k_lret ?_
                  rfl
              · intro s; exact rfl
          · rw [hc]
            refine et k_skip <| et k_assoc <| kr ⟨[(2, (Sr a2)), (3, (Pt 3)), (7, (Bo o8.1)), (17, (I 0))], [(3, vS 6 (eCase a0))], 212⟩ rfl <| et (k_block rfl) <| et k_loop ?_
            refine law12_MatchLogic_L7_ok k a0 a1 a2 o8 _ _ ?h_law12_MatchLogic_L7_0 ?hr_law12_MatchLogic_L7 k 0
            · intro y175
              refine et blk_exit <| kg f7a25 rfl (fun (o177 : Int × Str × Str) => ⟨[(2, (Sr a2)), (3, (Pt 3)), (7, (Bo o8.1)), (8, (I o177.1)), (19, (Sr o177.2.1)), (20, (Sr o177.2.2))], [(3, vS 6 (eCase a0))], 212⟩) (rd 6 [(164, (Pt 3)), (165, (eBase a0.fBase)), (166, (V.ptr 3 0 4)), (167, (I a0.fType)), (168, (V.ptr 3 0 5)), (169, (V.sl 0 1 (List.map sTerm a0.fWhen)))] rfl rfl <| rp rfl (p_call rfl rfl rfl rfl rfl (match_Range_ok k a0.fBase a0.fType a0.fWhen) (.inl rfl)) fun v176 => bind_end rfl) fun o177 => kg f7a26 rfl (fun (o179 : Int × Str) => ⟨[(7, (Bo o8.1)), (8, (I o177.1)), (10, (I o179.1)), (19, (Sr o177.2.1)), (20, (Sr o177.2.2)), (21, (Sr o179.2))], [], 212⟩) (rd 5 [(175, (Pt 3)), (176, (eBase a0.fBase)), (177, (V.ptr 3 0 4)), (178, (I a0.fType)), (179, (Sr a2))] rfl rfl <| rp rfl (p_call rfl rfl rfl rfl rfl (ref11_KeyOf_ok k a0.fBase a0.fType a2) (.inl rfl)) fun v178 => bind_end rfl) fun o179 => et k_assoc <| kg f7a27 rfl (fun (o180 : Bool) => ⟨[(7, (Bo o8.1)), (8, (I o177.1)), (19, (Sr o177.2.1)), (20, (Sr o177.2.2)), (21, (Sr o179.2)), (192, (Bo o180))], [], 212⟩) ?_ fun o180 => ?_
              · refine rd 3 [(183, (I o179.1)), (184, (Bo (o179.1 != 0))), (185, (Bo (o179.1 != 0)))] rfl rfl <| bifE (fun hc => ?_) fun hc => ?_
                · rw [hc]
                  exact reg_end rfl
                · rw [hc]
                  refine rd 6 [(186, (I o177.1)), (187, (Bo (o177.1 != 0))), (188, (Bo (o177.1 != 0)))] rfl rfl <| bifE (fun hc => ?_) fun hc => ?_
                  · rw [hc]
                    exact reg_end rfl
                  · rw [hc]
                    exact reg_end rfl
              refine kc rfl rfl (fun hc => ?_) fun hc => ?_
              · rw [hc]
                refine et k_assoc <| kr ⟨[(6, (Bo false))], [], 212⟩ rfl <| et k_ret ?_
                rfl
              · rw [hc]
                refine et k_skip <| kg f7a29 rfl (fun (o184 : Bool) => ⟨[(6, (Bo o184))], [], 212⟩) ?_ fun o184 => ?_
                · refine rd 3 [(193, (I o177.1)), (194, (Bo (o177.1 != 0))), (195, (Bo (o177.1 != 0)))] rfl rfl <| bifE (fun hc => ?_) fun hc => ?_
                  · rw [hc]
                    exact rd 17 [(196, (V.tup [])), (197, (V.tup [])), (198, (Bo true)), (199, (Bo true)), (200, (V.tup [])), (201, (V.tup [])), (202, (V.tup [])), (203, (V.tup [])), (204, (V.tup [])), (205, (V.tup [])), (206, (V.tup [])), (207, (V.tup [])), (208, (Bo true)), (209, (Bo true))] rfl rfl <| rs rfl (p_call rfl rfl rfl rfl rfl (law12_Awake_ok k) (.inl rfl)) fun v181 => bind_end rfl
                  · rw [hc]
                    refine rd 7 [(196, (Bo o8.1)), (197, (Bo (!o8.1))), (198, (Bo (!o8.1))), (199, (Bo (!o8.1)))] rfl rfl <| bifE (fun hc => ?_) fun hc => ?_
                    · rw [hc]
                      exact rd 17 [(200, (V.tup [])), (201, (V.tup [])), (202, (V.tup [])), (203, (V.tup [])), (204, (V.tup [])), (205, (V.tup [])), (206, (V.tup [])), (207, (V.tup [])), (208, (Bo true)), (209, (Bo true))] rfl rfl <| rs rfl (p_call rfl rfl rfl rfl rfl (law12_Awake_ok k) (.inl rfl)) fun v182 => bind_end rfl
                    · rw [hc]
                      refine rd 11 [(200, (Sr o177.2.1)), (201, (Sr o179.2)), (202, (Bo (Go.AE.bytesLt o177.2.1 o179.2 || o177.2.1 == o179.2))), (203, (Bo (Go.AE.bytesLt o177.2.1 o179.2 || o177.2.1 == o179.2)))] rfl rfl <| bifE (fun hc => ?_) fun hc => ?_
                      · rw [hc]
                        refine rd 17 [(204, (Sr o179.2)), (205, (Sr o177.2.2)), (206, (Bo (Go.AE.bytesLt o179.2 o177.2.2 || o179.2 == o177.2.2))), (207, (Bo (Go.AE.bytesLt o179.2 o177.2.2 || o179.2 == o177.2.2))), (208, (Bo (Go.AE.bytesLt o179.2 o177.2.2 || o179.2 == o177.2.2))), (209, (Bo (Go.AE.bytesLt o179.2 o177.2.2 || o179.2 == o177.2.2)))] rfl rfl <| bifE (fun hc => ?_) fun hc => ?_
                        · rw [hc]
                          exact rs rfl (p_call rfl rfl rfl rfl rfl (law12_Awake_ok k) (.inl rfl)) fun v183 => bind_end rfl
                        · rw [hc]
                          exact reg_end rfl
                      · rw [hc]
                        exact reg_end rfl
                refine et k_lret ?_
                rfl
            · intro s; exact rfl
end
end Go.AE
