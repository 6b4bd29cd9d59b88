/- The program, function by function: the evaluator comes to the typed functions. Conditions: none. -/
import Derived.Test.YtgpblbjceghpjaaA3
import Derived.KernelRfl
import Derived.Test.YtgpblbjceghpjaaProg
import Derived.Test.YtgpblbjceghpjaaB1
import Derived.Test.YtgpblbjceghpjaaE2
namespace Go.AE
open Go.Proofs.Try Go.Sh
set_option linter.unusedSimpArgs false
set_option linter.unusedVariables false
set_option maxRecDepth 100000
set_option maxHeartbeats 4000000
noncomputable section
theorem f32r14 (k : Nat) (a0 : T_api_Field) (a1 : (List T_api_Term)) (x14 : Int) (x15 : Str) (x16 : Str) (o18 : T_api_Term) : RE k f32a14 f32o14 false ⟨[(1, (sTerm a1)), (2, (Pt 2)), (6, (Sr (Go.AE.maxS x15 o18.fValue))), (7, (Sr x16)), (9, (I x14)), (10, (Pt 10)), (63, (Bo true))], [(2, vS 3 (eField a0)), (10, vS 3 (eTerm o18))], 70⟩ = some ⟨[(1, (sTerm a1)), (2, (Pt 2)), (6, (Sr (Go.AE.maxS x15 o18.fValue))), (7, (Sr (Go.AE.minS x16 o18.fValue))), (9, (I x14))], [(2, vS 3 (eField a0))], 70⟩ :=
  rE rfl
theorem ref12_span_r8' (k : Nat) (a0 : T_api_Field) (a1 : (List T_api_Term)) (x14 : Int) (x15 : Str) (x16 : Str) (o18 : T_api_Term) : RE k f32a8 f32o8 false ⟨[(1, (sTerm a1)), (2, (Pt 2)), (6, (Sr (Go.AE.maxS x15 o18.fValue))), (7, (Sr (Go.AE.minS x16 o18.fValue))), (9, (I x14))], [(2, vS 3 (eField a0))], 70⟩ = some ⟨[(1, (sTerm a1)), (2, (Pt 2)), (6, (Sr (Go.AE.maxS x15 o18.fValue))), (7, (Sr (Go.AE.minS x16 o18.fValue))), (9, (I (Go.IntKind.wrap .i64 (x14 + 1))))], [(2, vS 3 (eField a0))], 70⟩ :=
  rE rfl
theorem ref12_span_r8'' (k : Nat) (a0 : T_api_Field) (a1 : (List T_api_Term)) (x14 : Int) (x15 : Str) (x16 : Str) (o18 : T_api_Term) : RE k f32a8 f32o8 false ⟨[(1, (sTerm a1)), (2, (Pt 2)), (6, (Sr (Go.AE.maxS x15 o18.fValue))), (7, (Sr x16)), (9, (I x14)), (10, (Pt 10)), (63, (Bo false))], [(2, vS 3 (eField a0)), (10, vS 3 (eTerm o18))], 70⟩ = some ⟨[(1, (sTerm a1)), (2, (Pt 2)), (6, (Sr (Go.AE.maxS x15 o18.fValue))), (7, (Sr x16)), (9, (I (Go.IntKind.wrap .i64 (x14 + 1))))], [(2, vS 3 (eField a0))], 70⟩ :=
  rE rfl
theorem ref12_span_r13' (k : Nat) (a0 : T_api_Field) (a1 : (List T_api_Term)) (x14 : Int) (x15 : Str) (x16 : Str) (o18 : T_api_Term) : RE k f32a13 f32o13 false ⟨[(1, (sTerm a1)), (2, (Pt 2)), (6, (Sr x15)), (7, (Sr x16)), (9, (I x14)), (10, (Pt 10)), (46, (Bo false))], [(2, vS 3 (eField a0)), (10, vS 3 (eTerm o18))], 70⟩ = ((bif (o18.fOp == 1) then (some (true)) else (bif (o18.fOp == 3) then (some (true)) else (some ((o18.fOp == 4)))))).map (fun (o : Bool) => (⟨[(1, (sTerm a1)), (2, (Pt 2)), (6, (Sr x15)), (7, (Sr x16)), (9, (I x14)), (10, (Pt 10)), (63, (Bo o))], [(2, vS 3 (eField a0)), (10, vS 3 (eTerm o18))], 70⟩ : St)) := by
  refine rg ?_
  refine ra 4 4 ⟨[(1, (sTerm a1)), (2, (Pt 2)), (6, (Sr x15)), (7, (Sr x16)), (9, (I x14)), (10, (Pt 10)), (46, (Bo false)), (51, (V.ptr 10 0 1)), (52, (I o18.fOp)), (53, (Bo (o18.fOp == 1))), (54, (Bo (o18.fOp == 1)))], [(2, vS 3 (eField a0)), (10, vS 3 (eTerm o18))], 70⟩ rfl rfl rfl ?_
  refine bifE (c := (o18.fOp == 1)) (fun hc => ?_) fun hc => ?_
  · rw [hc]
    exact reg_end rfl
  · rw [hc]
    refine ra 5 9 ⟨[(1, (sTerm a1)), (2, (Pt 2)), (6, (Sr x15)), (7, (Sr x16)), (9, (I x14)), (10, (Pt 10)), (46, (Bo false)), (51, (V.ptr 10 0 1)), (52, (I o18.fOp)), (53, (Bo false)), (54, (Bo false)), (55, (V.ptr 10 0 1)), (56, (I o18.fOp)), (57, (Bo (o18.fOp == 3))), (58, (Bo (o18.fOp == 3))), (59, (Bo (o18.fOp == 3)))], [(2, vS 3 (eField a0)), (10, vS 3 (eTerm o18))], 70⟩ rfl rfl rfl ?_
    refine bifE (c := (o18.fOp == 3)) (fun hc => ?_) fun hc => ?_
    · rw [hc]
      exact reg_end rfl
    · rw [hc]
      exact reg_end rfl
theorem ref12_span_r14' (k : Nat) (a0 : T_api_Field) (a1 : (List T_api_Term)) (x14 : Int) (x15 : Str) (x16 : Str) (o18 : T_api_Term) : RE k f32a14 f32o14 false ⟨[(1, (sTerm a1)), (2, (Pt 2)), (6, (Sr x15)), (7, (Sr x16)), (9, (I x14)), (10, (Pt 10)), (63, (Bo true))], [(2, vS 3 (eField a0)), (10, vS 3 (eTerm o18))], 70⟩ = some ⟨[(1, (sTerm a1)), (2, (Pt 2)), (6, (Sr x15)), (7, (Sr (Go.AE.minS x16 o18.fValue))), (9, (I x14))], [(2, vS 3 (eField a0))], 70⟩ :=
  rE rfl
theorem ref12_span_r8''' (k : Nat) (a0 : T_api_Field) (a1 : (List T_api_Term)) (x14 : Int) (x15 : Str) (x16 : Str) (o18 : T_api_Term) : RE k f32a8 f32o8 false ⟨[(1, (sTerm a1)), (2, (Pt 2)), (6, (Sr x15)), (7, (Sr (Go.AE.minS x16 o18.fValue))), (9, (I x14))], [(2, vS 3 (eField a0))], 70⟩ = some ⟨[(1, (sTerm a1)), (2, (Pt 2)), (6, (Sr x15)), (7, (Sr (Go.AE.minS x16 o18.fValue))), (9, (I (Go.IntKind.wrap .i64 (x14 + 1))))], [(2, vS 3 (eField a0))], 70⟩ :=
  rE rfl
theorem ref12_span_r8'''' (k : Nat) (a0 : T_api_Field) (a1 : (List T_api_Term)) (x14 : Int) (x15 : Str) (x16 : Str) (o18 : T_api_Term) : RE k f32a8 f32o8 false ⟨[(1, (sTerm a1)), (2, (Pt 2)), (6, (Sr x15)), (7, (Sr x16)), (9, (I x14)), (10, (Pt 10)), (63, (Bo false))], [(2, vS 3 (eField a0)), (10, vS 3 (eTerm o18))], 70⟩ = some ⟨[(1, (sTerm a1)), (2, (Pt 2)), (6, (Sr x15)), (7, (Sr x16)), (9, (I (Go.IntKind.wrap .i64 (x14 + 1))))], [(2, vS 3 (eField a0))], 70⟩ :=
  rE rfl
theorem ref12_span_L2_ok (k : Nat) (a0 : T_api_Field) (a1 : (List T_api_Term))  (K0 : Str → Str → Int → Option (Str × Str)) (Kst : X × St → Option (V × List V)) (hK0 : ∀ (y0 : Str) (y1 : Str) (y2 : Int), Kst (X.exit 2, ⟨[(1, (sTerm a1)), (2, (Pt 2)), (6, (Sr y0)), (7, (Sr y1)), (9, (I y2)), (22, (Bo false))], [(2, vS 3 (eField a0))], 70⟩) = (K0 y0 y1 y2).map ref12_span_fin) (hret : ∀ s, Kst (X.ret, s) = endK prog 70 [(eField a0), (sTerm a1)] [] [.tmp 4, .tmp 5] (X.ret, s)) :
    ∀ (m : Nat) (x14 : Int) (x15 : Str) (x16 : Str), (iter (exec prog (EV k) f32n k f32b1) m ⟨[(1, (sTerm a1)), (2, (Pt 2)), (6, (Sr x15)), (7, (Sr x16)), (9, (I x14))], [(2, vS 3 (eField a0))], 70⟩).bind Kst = (ref12_span_L2 a0 a1 K0 m x14 x15 x16).map ref12_span_fin := by
  intro m
  induction m with
  | zero => intros; rfl
  | succ m ih =>
    intro x14 x15 x16
    unfold ref12_span_L2
    refine et k_round ?_
    refine et k_assoc ?_
    refine et (k_region0 rfl (f32r7 k a0 a1 x14 x15 x16)) ?_
    refine et (k_cond (t := (decide (x14 < (a1.length : Int)))) rfl rfl) ?_
    refine bifE2 (fun hc => ?_) fun hc => ?_
    · rw [hc]
      refine et k_skip ?_
      refine et (k_block rfl) ?_
      refine et (k_region rfl (f32r9 k a0 a1 x14 x15 x16)) ?_
      refine bindE (fun o18 => ?_)
      refine et k_assoc ?_
      refine et (k_region0 rfl (f32r10 k a0 a1 x14 x15 x16 o18)) ?_
      refine et (k_cond (t := (!(o18.fField == a0.fName))) rfl rfl) ?_
      refine bifE2 (fun hc => ?_) fun hc => ?_
      · rw [hc]
        refine et k_exit ?_
        refine et blk_exit ?_
        refine et (k_lregion0 rfl (f32r8 k a0 a1 x14 x15 x16 o18)) ?_
        refine et loop_normal ?_
        exact ih (Go.IntKind.wrap .i64 (x14 + 1)) x15 x16
      · rw [hc]
        refine et k_skip ?_
        refine et k_assoc ?_
        refine et (k_region rfl (f32r11 k a0 a1 x14 x15 x16 o18)) ?_
        refine bindE (fun o19 => ?_)
        refine et (k_cond (t := o19) rfl rfl) ?_
        refine bifE2 (fun hc => ?_) fun hc => ?_
        · rw [hc]
          refine et (k_region0 rfl (f32r12 k a0 a1 x14 x15 x16 o18)) ?_
          refine et (k_region rfl (f32r13 k a0 a1 x14 x15 x16 o18)) ?_
          refine bindE (fun o20 => ?_)
          refine et (k_lcond (t := o20) rfl rfl) ?_
          refine bifE2 (fun hc => ?_) fun hc => ?_
          · rw [hc]
            refine et (k_lregion0 rfl (f32r14 k a0 a1 x14 x15 x16 o18)) ?_
            refine et blk_normal ?_
            refine et (k_lregion0 rfl (ref12_span_r8' k a0 a1 x14 x15 x16 o18)) ?_
            refine et loop_normal ?_
            exact ih (Go.IntKind.wrap .i64 (x14 + 1)) (Go.AE.maxS x15 o18.fValue) (Go.AE.minS x16 o18.fValue)
          · rw [hc]
            refine et k_lskip ?_
            refine et blk_normal ?_
            refine et (k_lregion0 rfl (ref12_span_r8'' k a0 a1 x14 x15 x16 o18)) ?_
            refine et loop_normal ?_
            exact ih (Go.IntKind.wrap .i64 (x14 + 1)) (Go.AE.maxS x15 o18.fValue) x16
        · rw [hc]
          refine et k_skip ?_
          refine et (k_region rfl (ref12_span_r13' k a0 a1 x14 x15 x16 o18)) ?_
          refine bindE (fun o21 => ?_)
          refine et (k_lcond (t := o21) rfl rfl) ?_
          refine bifE2 (fun hc => ?_) fun hc => ?_
          · rw [hc]
            refine et (k_lregion0 rfl (ref12_span_r14' k a0 a1 x14 x15 x16 o18)) ?_
            refine et blk_normal ?_
            refine et (k_lregion0 rfl (ref12_span_r8''' k a0 a1 x14 x15 x16 o18)) ?_
            refine et loop_normal ?_
            exact ih (Go.IntKind.wrap .i64 (x14 + 1)) x15 (Go.AE.minS x16 o18.fValue)
          · rw [hc]
            refine et k_lskip ?_
            refine et blk_normal ?_
            refine et (k_lregion0 rfl (ref12_span_r8'''' k a0 a1 x14 x15 x16 o18)) ?_
            refine et loop_normal ?_
            exact ih (Go.IntKind.wrap .i64 (x14 + 1)) x15 x16
    · rw [hc]
      refine et k_exit ?_
      refine et loop_exit ?_
      exact hK0 x15 x16 x14
theorem f32r15 (k : Nat) (a0 : T_api_Field) (a1 : (List T_api_Term)) (y22 : Str) (y23 : Str) (y24 : Int) : RE k f32a15 f32o15 false ⟨[(1, (sTerm a1)), (2, (Pt 2)), (6, (Sr y22)), (7, (Sr y23)), (9, (I y24)), (22, (Bo false))], [(2, vS 3 (eField a0))], 70⟩ = some ⟨[(4, (Sr y22)), (5, (Sr y23))], [], 70⟩ :=
  rE rfl
theorem ref12_span_ok (k : Nat) (a0 : T_api_Field) (a1 : (List T_api_Term)) : EV k 32 [(eField a0), (sTerm a1)] = (ref12_span k a0 a1).map ref12_span_fin := by
  cases k with
  | zero => rfl
  | succ k =>
    unfold ref12_span
    refine et (evF_succ (c := f32c) (N := 70) (regs := f32n) rfl func32 rfl (by decide) rfl rfl rfl) ?_
    refine et (k_region0 rfl (f32r0 k a0 a1)) ?_
    refine et (k_region0 rfl (f32r1 k a0 a1)) ?_
    refine et k_assoc ?_
    refine et (k_region0 rfl (f32r2 k a0 a1)) ?_
    refine et (k_block rfl) ?_
    refine et k_loop ?_
    refine ref12_span_L1_ok k a0 a1 _ _ ?h_ref12_span_L1_0 ?hr_ref12_span_L1 k ([] : Str) 0
    · intro y7 y8
      refine et blk_exit ?_
      refine et k_assoc ?_
      refine et (k_region0 rfl (f32r6 k a0 a1 y7 y8)) ?_
      refine et (k_block rfl) ?_
      refine et k_loop ?_
      refine ref12_span_L2_ok k a0 a1 _ _ ?h_ref12_span_L2_0 ?hr_ref12_span_L2 k 0 ([] : Str) y7
      · intro y22 y23 y24
        refine et blk_exit ?_
        refine et (k_region0 rfl (f32r15 k a0 a1 y22 y23 y24)) ?_
        refine et k_lret ?_
        rfl
      · intro s; exact rfl
    · intro s; exact rfl
def ref12_Range_fin : (Str × Str × Int) → V × List V := fun r => (.tup [(Sr r.1), (Sr r.2.1), (I r.2.2)], [])
theorem f12r0 (k : Nat) (a0 : T_api_Base) (a1 : Int) (a2 : (List (List T_api_Term))) : RE k f12a0 f12o0 false ⟨[(0, (eBase a0)), (1, (I a1)), (2, (V.sl 0 1 (List.map sTerm a2)))], [], 76⟩ = some ⟨[(1, (I a1)), (2, (V.sl 0 1 (List.map sTerm a2))), (3, (Pt 3))], [(3, vS 4 (eBase a0))], 76⟩ :=
  rE rfl
theorem f12r1 (k : Nat) (a0 : T_api_Base) (a1 : Int) (a2 : (List (List T_api_Term))) : RE k f12a1 f12o1 false ⟨[(1, (I a1)), (2, (V.sl 0 1 (List.map sTerm a2))), (3, (Pt 3))], [(3, vS 4 (eBase a0))], 76⟩ = ((ref12_asked k a0 a1 a2 ([] : List (List T_api_Term)))).map (fun (o : Int) => (⟨[(1, (I a1)), (2, (V.sl 0 1 (List.map sTerm a2))), (3, (Pt 3)), (9, (I o))], [(3, vS 4 (eBase a0))], 76⟩ : St)) := by
  refine rg ?_
  refine ra 3 3 ⟨[(1, (I a1)), (2, (V.sl 0 1 (List.map sTerm a2))), (3, (Pt 3)), (16, (eBase a0)), (17, (I a1)), (18, (V.sl 0 1 (List.map sTerm a2)))], [(3, vS 4 (eBase a0))], 76⟩ rfl rfl rfl ?_
  refine et (reg_pure (x := (ref12_asked k a0 a1 a2 ([] : List (List T_api_Term)))) (w := fun v1 => (I v1)) rfl rfl rfl rfl (p_call rfl rfl rfl rfl rfl (ref12_asked_ok k a0 a1 a2 ([] : List (List T_api_Term))) (.inl rfl))) ?_
  refine bind_self (fun v1 => ?_)
  exact bind_end rfl
theorem f12r2 (k : Nat) (a0 : T_api_Base) (a1 : Int) (a2 : (List (List T_api_Term))) (o2 : Int) : RE k f12a2 f12o2 false ⟨[(1, (I a1)), (2, (V.sl 0 1 (List.map sTerm a2))), (3, (Pt 3)), (9, (I o2))], [(3, vS 4 (eBase a0))], 76⟩ = some ⟨[(1, (I a1)), (2, (V.sl 0 1 (List.map sTerm a2))), (3, (Pt 3)), (9, (I o2)), (21, (Bo (o2 != 0)))], [(3, vS 4 (eBase a0))], 76⟩ :=
  rE rfl
theorem f12r3 (k : Nat) (a0 : T_api_Base) (a1 : Int) (a2 : (List (List T_api_Term))) (o2 : Int) : RE k f12a3 f12o3 false ⟨[(1, (I a1)), (2, (V.sl 0 1 (List.map sTerm a2))), (3, (Pt 3)), (9, (I o2)), (21, (Bo true))], [(3, vS 4 (eBase a0))], 76⟩ = some ⟨[(6, (Sr ([] : Str))), (7, (Sr ([] : Str))), (8, (I o2))], [], 76⟩ :=
  rE rfl
theorem f12r4 (k : Nat) (a0 : T_api_Base) (a1 : Int) (a2 : (List (List T_api_Term))) (o2 : Int) : RE k f12a4 f12o4 false ⟨[(1, (I a1)), (2, (V.sl 0 1 (List.map sTerm a2))), (3, (Pt 3)), (9, (I o2)), (21, (Bo false))], [(3, vS 4 (eBase a0))], 76⟩ = (((idx a0.fTypes a1).bind fun v3 => (some ((decide (v3.fKey < 0)))))).map (fun (o : Bool) => (⟨[(1, (I a1)), (2, (V.sl 0 1 (List.map sTerm a2))), (3, (Pt 3)), (29, (Bo o))], [(3, vS 4 (eBase a0))], 76⟩ : St)) := by
  refine rg ?_
  refine ra 3 3 ⟨[(1, (I a1)), (2, (V.sl 0 1 (List.map sTerm a2))), (3, (Pt 3)), (9, (I o2)), (21, (Bo false)), (23, (V.ptr 3 0 2)), (24, (sType a0.fTypes)), (25, (I a1))], [(3, vS 4 (eBase a0))], 76⟩ rfl rfl rfl ?_
  refine et (reg_pure (x := (idx a0.fTypes a1)) (w := fun v3 => (Pr (eType v3))) rfl rfl rfl rfl (p_index (e := eType) rfl rfl rfl underlying22 rfl (by decide))) ?_
  refine bindE (fun v3 => ?_)
  exact bind_end rfl
theorem f12r5 (k : Nat) (a0 : T_api_Base) (a1 : Int) (a2 : (List (List T_api_Term))) : RE k f12a5 f12o5 false ⟨[(1, (I a1)), (2, (V.sl 0 1 (List.map sTerm a2))), (3, (Pt 3)), (29, (Bo true))], [(3, vS 4 (eBase a0))], 76⟩ = some ⟨[(6, (Sr ([] : Str))), (7, (Sr ([] : Str))), (8, (I 5))], [], 76⟩ :=
  rE rfl
theorem f12r6 (k : Nat) (a0 : T_api_Base) (a1 : Int) (a2 : (List (List T_api_Term))) : RE k f12a6 f12o6 true ⟨[(1, (I a1)), (2, (V.sl 0 1 (List.map sTerm a2))), (3, (Pt 3)), (29, (Bo false))], [(3, vS 4 (eBase a0))], 76⟩ = (((idx a0.fTypes a1).bind fun v5 => ((idx a0.fTypes a1).bind fun v6 => (idx v5.fFields v6.fKey)))).map (fun (o : T_api_Field) => (⟨[(2, (V.sl 0 1 (List.map sTerm a2))), (10, (Pt 10))], [(10, vS 3 (eField o))], 76⟩ : St)) := by
  refine et (regionE_regp (p := 15) (dk := true) (t := [(1, (I a1)), (2, (V.sl 0 1 (List.map sTerm a2))), (3, (Pt 3)), (29, (Bo false))]) (σ := [(3, vS 4 (eBase a0))]) (n := 76) rfl (by decide) (by decide) rfl) ?_
  refine et (regp_adv (m := 3) (j := 3) (t' := [(1, (I a1)), (2, (V.sl 0 1 (List.map sTerm a2))), (3, (Pt 3)), (29, (Bo false)), (30, (V.ptr 3 0 2)), (31, (sType a0.fTypes)), (32, (I a1))]) rfl rfl rfl) ?_
  refine et (regp_pure (x := (idx a0.fTypes a1)) (w := fun v5 => (Pr (eType v5))) rfl rfl rfl rfl rfl (p_index (e := eType) rfl rfl rfl underlying22 rfl (by decide))) ?_
  refine bindE (fun v5 => ?_)
  refine et (putp_adv (m := 5) (j := 9) (t' := [(1, (I a1)), (2, (V.sl 0 1 (List.map sTerm a2))), (3, (Pt 3)), (29, (Bo false)), (30, (V.ptr 3 0 2)), (31, (sType a0.fTypes)), (32, (I a1)), (33, (Pr (eType v5))), (34, (Pr (sField v5.fFields))), (35, (sField v5.fFields)), (36, (V.ptr 3 0 2)), (37, (sType a0.fTypes)), (38, (I a1))]) rfl rfl rfl) ?_
  refine et (regp_pure (x := (idx a0.fTypes a1)) (w := fun v6 => (Pr (eType v6))) rfl rfl rfl rfl rfl (p_index (e := eType) rfl rfl rfl underlying22 rfl (by decide))) ?_
  refine bindE (fun v6 => ?_)
  refine et (putp_adv (m := 2) (j := 12) (t' := [(1, (I a1)), (2, (V.sl 0 1 (List.map sTerm a2))), (3, (Pt 3)), (29, (Bo false)), (30, (V.ptr 3 0 2)), (31, (sType a0.fTypes)), (32, (I a1)), (33, (Pr (eType v5))), (34, (Pr (sField v5.fFields))), (35, (sField v5.fFields)), (36, (V.ptr 3 0 2)), (37, (sType a0.fTypes)), (38, (I a1)), (39, (Pr (eType v6))), (40, (Pr (I v6.fKey))), (41, (I v6.fKey))]) rfl rfl rfl) ?_
  refine et (regp_pure (x := (idx v5.fFields v6.fKey)) (w := fun v7 => (Pr (eField v7))) rfl rfl rfl rfl rfl (p_index (e := eField) rfl rfl rfl underlying43 rfl (by decide))) ?_
  refine bind_self (fun v7 => ?_)
  exact regp_end rfl
theorem f12r7 (k : Nat) (a2 : (List (List T_api_Term))) (o8 : T_api_Field) : RE k f12a7 f12o7 false ⟨[(2, (V.sl 0 1 (List.map sTerm a2))), (10, (Pt 10))], [(10, vS 3 (eField o8))], 76⟩ = (((ref12_span k o8 ([] : List T_api_Term)).bind fun v9 => (some (v9.1, v9.2)))).map (fun (o : Str × Str) => (⟨[(2, (V.sl 0 1 (List.map sTerm a2))), (10, (Pt 10)), (11, (Sr o.1)), (12, (Sr o.2))], [(10, vS 3 (eField o8))], 76⟩ : St)) := by
  refine rg ?_
  refine ra 1 1 ⟨[(2, (V.sl 0 1 (List.map sTerm a2))), (10, (Pt 10)), (45, (eField o8))], [(10, vS 3 (eField o8))], 76⟩ rfl rfl rfl ?_
  refine et (reg_pure (x := (ref12_span k o8 ([] : List T_api_Term))) (w := fun v9 => (V.tup [(Sr v9.1), (Sr v9.2)])) rfl rfl rfl rfl (p_call rfl rfl rfl rfl rfl (ref12_span_ok k o8 ([] : List T_api_Term)) (.inl rfl))) ?_
  refine bindE (fun v9 => ?_)
  exact bind_end rfl
theorem f12r8 (k : Nat) (a2 : (List (List T_api_Term))) (o8 : T_api_Field) (o10 : Str × Str) : RE k f12a8 f12o8 false ⟨[(2, (V.sl 0 1 (List.map sTerm a2))), (10, (Pt 10)), (11, (Sr o10.1)), (12, (Sr o10.2))], [(10, vS 3 (eField o8))], 76⟩ = some ⟨[(2, (V.sl 0 1 (List.map sTerm a2))), (10, (Pt 10)), (11, (Sr o10.1)), (12, (Sr o10.2)), (13, (I 0))], [(10, vS 3 (eField o8))], 76⟩ :=
  rE rfl
theorem f12r9 (k : Nat) (a2 : (List (List T_api_Term))) (o8 : T_api_Field) (x14 : Str) (x15 : Str) (x16 : Int) : RE k f12a9 f12o9 false ⟨[(2, (V.sl 0 1 (List.map sTerm a2))), (10, (Pt 10)), (11, (Sr x14)), (12, (Sr x15)), (13, (I x16))], [(10, vS 3 (eField o8))], 76⟩ = some ⟨[(2, (V.sl 0 1 (List.map sTerm a2))), (10, (Pt 10)), (11, (Sr x14)), (12, (Sr x15)), (13, (I x16)), (52, (Bo (decide (x16 < (a2.length : Int)))))], [(10, vS 3 (eField o8))], 76⟩ := by
  refine rg ?_
  refine ra 2 2 ⟨[(2, (V.sl 0 1 (List.map sTerm a2))), (10, (Pt 10)), (11, (Sr x14)), (12, (Sr x15)), (13, (I x16)), (49, (I x16)), (50, (V.sl 0 1 (List.map sTerm a2)))], [(10, vS 3 (eField o8))], 76⟩ rfl rfl rfl ?_
  refine et (reg_pure (x := some ()) (w := fun _ => (I (a2.length : Int))) rfl rfl rfl rfl (p_len (e := sTerm) rfl rfl rfl rfl rfl rfl underlying26)) ?_
  refine et some_bind ?_
  exact bind_end rfl
theorem f12r11 (k : Nat) (a2 : (List (List T_api_Term))) (o8 : T_api_Field) (x14 : Str) (x15 : Str) (x16 : Int) : RE k f12a11 f12o11 true ⟨[(2, (V.sl 0 1 (List.map sTerm a2))), (10, (Pt 10)), (11, (Sr x14)), (12, (Sr x15)), (13, (I x16)), (52, (Bo true))], [(10, vS 3 (eField o8))], 76⟩ = (((idx a2 x16).bind fun v17 => ((ref12_span k o8 v17).bind fun v18 => (some (v18.1, v18.2))))).map (fun (o : Str × Str) => (⟨[(2, (V.sl 0 1 (List.map sTerm a2))), (10, (Pt 10)), (11, (Sr x14)), (12, (Sr x15)), (13, (I x16)), (14, (Sr o.1)), (15, (Sr o.2))], [(10, vS 3 (eField o8))], 76⟩ : St)) := by
  refine et (regionE_regp (p := 11) (dk := true) (t := [(2, (V.sl 0 1 (List.map sTerm a2))), (10, (Pt 10)), (11, (Sr x14)), (12, (Sr x15)), (13, (I x16)), (52, (Bo true))]) (σ := [(10, vS 3 (eField o8))]) (n := 76) rfl (by decide) (by decide) rfl) ?_
  refine et (regp_adv (m := 3) (j := 3) (t' := [(2, (V.sl 0 1 (List.map sTerm a2))), (10, (Pt 10)), (11, (Sr x14)), (12, (Sr x15)), (13, (I x16)), (52, (Bo true)), (56, (eField o8)), (57, (V.sl 0 1 (List.map sTerm a2))), (58, (I x16))]) rfl rfl rfl) ?_
  refine et (regp_pure (x := (idx a2 x16)) (w := fun v17 => (Pr (sTerm v17))) rfl rfl rfl rfl rfl (p_index (e := sTerm) rfl rfl rfl underlying26 rfl (by decide))) ?_
  refine bindE (fun v17 => ?_)
  refine et (putp_adv (m := 1) (j := 5) (t' := [(2, (V.sl 0 1 (List.map sTerm a2))), (10, (Pt 10)), (11, (Sr x14)), (12, (Sr x15)), (13, (I x16)), (52, (Bo true)), (56, (eField o8)), (57, (V.sl 0 1 (List.map sTerm a2))), (58, (I x16)), (59, (Pr (sTerm v17))), (60, (sTerm v17))]) rfl rfl rfl) ?_
  refine et (regp_pure (x := (ref12_span k o8 v17)) (w := fun v18 => (V.tup [(Sr v18.1), (Sr v18.2)])) rfl rfl rfl rfl rfl (p_call rfl rfl rfl rfl rfl (ref12_span_ok k o8 v17) (.inl rfl))) ?_
  refine bindE (fun v18 => ?_)
  exact regp_end rfl
theorem f12r12 (k : Nat) (a2 : (List (List T_api_Term))) (o8 : T_api_Field) (x14 : Str) (x15 : Str) (x16 : Int) (o19 : Str × Str) : RE k f12a12 f12o12 false ⟨[(2, (V.sl 0 1 (List.map sTerm a2))), (10, (Pt 10)), (11, (Sr x14)), (12, (Sr x15)), (13, (I x16)), (14, (Sr o19.1)), (15, (Sr o19.2))], [(10, vS 3 (eField o8))], 76⟩ = some ⟨[(2, (V.sl 0 1 (List.map sTerm a2))), (10, (Pt 10)), (11, (Sr x14)), (12, (Sr x15)), (13, (I x16)), (14, (Sr o19.1)), (15, (Sr o19.2)), (65, (Bo (x16 == 0)))], [(10, vS 3 (eField o8))], 76⟩ :=
  rE rfl
theorem f12r13 (k : Nat) (a2 : (List (List T_api_Term))) (o8 : T_api_Field) (x14 : Str) (x15 : Str) (x16 : Int) (o19 : Str × Str) : RE k f12a13 f12o13 false ⟨[(2, (V.sl 0 1 (List.map sTerm a2))), (10, (Pt 10)), (11, (Sr x14)), (12, (Sr x15)), (13, (I x16)), (14, (Sr o19.1)), (15, (Sr o19.2)), (65, (Bo true))], [(10, vS 3 (eField o8))], 76⟩ = some ⟨[(2, (V.sl 0 1 (List.map sTerm a2))), (10, (Pt 10)), (11, (Sr o19.1)), (12, (Sr o19.2)), (13, (I x16)), (14, (Sr o19.1)), (15, (Sr o19.2))], [(10, vS 3 (eField o8))], 76⟩ :=
  rE rfl
theorem f12r14 (k : Nat) (a2 : (List (List T_api_Term))) (o8 : T_api_Field) (x16 : Int) (o19 : Str × Str) : RE k f12a14 f12o14 false ⟨[(2, (V.sl 0 1 (List.map sTerm a2))), (10, (Pt 10)), (11, (Sr o19.1)), (12, (Sr o19.2)), (13, (I x16)), (14, (Sr o19.1)), (15, (Sr o19.2))], [(10, vS 3 (eField o8))], 76⟩ = some ⟨[(2, (V.sl 0 1 (List.map sTerm a2))), (10, (Pt 10)), (11, (Sr (Go.AE.minS o19.1 o19.1))), (12, (Sr (Go.AE.maxS o19.2 o19.2))), (13, (I x16))], [(10, vS 3 (eField o8))], 76⟩ :=
  rE rfl
theorem f12r10 (k : Nat) (a2 : (List (List T_api_Term))) (o8 : T_api_Field) (x16 : Int) (o19 : Str × Str) : RE k f12a10 f12o10 false ⟨[(2, (V.sl 0 1 (List.map sTerm a2))), (10, (Pt 10)), (11, (Sr (Go.AE.minS o19.1 o19.1))), (12, (Sr (Go.AE.maxS o19.2 o19.2))), (13, (I x16))], [(10, vS 3 (eField o8))], 76⟩ = some ⟨[(2, (V.sl 0 1 (List.map sTerm a2))), (10, (Pt 10)), (11, (Sr (Go.AE.minS o19.1 o19.1))), (12, (Sr (Go.AE.maxS o19.2 o19.2))), (13, (I (Go.IntKind.wrap .i64 (x16 + 1))))], [(10, vS 3 (eField o8))], 76⟩ :=
  rE rfl
theorem ref12_Range_r14' (k : Nat) (a2 : (List (List T_api_Term))) (o8 : T_api_Field) (x14 : Str) (x15 : Str) (x16 : Int) (o19 : Str × Str) : RE k f12a14 f12o14 false ⟨[(2, (V.sl 0 1 (List.map sTerm a2))), (10, (Pt 10)), (11, (Sr x14)), (12, (Sr x15)), (13, (I x16)), (14, (Sr o19.1)), (15, (Sr o19.2)), (65, (Bo false))], [(10, vS 3 (eField o8))], 76⟩ = some ⟨[(2, (V.sl 0 1 (List.map sTerm a2))), (10, (Pt 10)), (11, (Sr (Go.AE.minS x14 o19.1))), (12, (Sr (Go.AE.maxS x15 o19.2))), (13, (I x16))], [(10, vS 3 (eField o8))], 76⟩ :=
  rE rfl
theorem ref12_Range_r10' (k : Nat) (a2 : (List (List T_api_Term))) (o8 : T_api_Field) (x14 : Str) (x15 : Str) (x16 : Int) (o19 : Str × Str) : RE k f12a10 f12o10 false ⟨[(2, (V.sl 0 1 (List.map sTerm a2))), (10, (Pt 10)), (11, (Sr (Go.AE.minS x14 o19.1))), (12, (Sr (Go.AE.maxS x15 o19.2))), (13, (I x16))], [(10, vS 3 (eField o8))], 76⟩ = some ⟨[(2, (V.sl 0 1 (List.map sTerm a2))), (10, (Pt 10)), (11, (Sr (Go.AE.minS x14 o19.1))), (12, (Sr (Go.AE.maxS x15 o19.2))), (13, (I (Go.IntKind.wrap .i64 (x16 + 1))))], [(10, vS 3 (eField o8))], 76⟩ :=
  rE rfl
theorem ref12_Range_L1_ok (k : Nat) (a0 : T_api_Base) (a1 : Int) (a2 : (List (List T_api_Term))) (o8 : T_api_Field)  (K0 : Str → Str → Int → Option (Str × Str × Int)) (Kst : X × St → Option (V × List V)) (hK0 : ∀ (y0 : Str) (y1 : Str) (y2 : Int), Kst (X.exit 0, ⟨[(2, (V.sl 0 1 (List.map sTerm a2))), (10, (Pt 10)), (11, (Sr y0)), (12, (Sr y1)), (13, (I y2)), (52, (Bo false))], [(10, vS 3 (eField o8))], 76⟩) = (K0 y0 y1 y2).map ref12_Range_fin) (hret : ∀ s, Kst (X.ret, s) = endK prog 76 [(eBase a0), (I a1), (V.sl 0 1 (List.map sTerm a2))] [] [.tmp 6, .tmp 7, .tmp 8] (X.ret, s)) :
    ∀ (m : Nat) (x14 : Str) (x15 : Str) (x16 : Int), (iter (exec prog (EV k) f12n k f12b0) m ⟨[(2, (V.sl 0 1 (List.map sTerm a2))), (10, (Pt 10)), (11, (Sr x14)), (12, (Sr x15)), (13, (I x16))], [(10, vS 3 (eField o8))], 76⟩).bind Kst = (ref12_Range_L1 k a2 o8 K0 m x14 x15 x16).map ref12_Range_fin := by
  intro m
  induction m with
  | zero => intros; rfl
  | succ m ih =>
    intro x14 x15 x16
    unfold ref12_Range_L1
    refine et k_round ?_
    refine et k_assoc ?_
    refine et (k_region0 rfl (f12r9 k a2 o8 x14 x15 x16)) ?_
    refine et (k_cond (t := (decide (x16 < (a2.length : Int)))) rfl rfl) ?_
    refine bifE2 (fun hc => ?_) fun hc => ?_
    · rw [hc]
      refine et k_skip ?_
      refine et (k_block rfl) ?_
      refine et (k_region rfl (f12r11 k a2 o8 x14 x15 x16)) ?_
      refine bindE (fun o19 => ?_)
      refine et k_assoc ?_
      refine et (k_region0 rfl (f12r12 k a2 o8 x14 x15 x16 o19)) ?_
      refine et (k_cond (t := (x16 == 0)) rfl rfl) ?_
      refine bifE2 (fun hc => ?_) fun hc => ?_
      · rw [hc]
        refine et (k_region0 rfl (f12r13 k a2 o8 x14 x15 x16 o19)) ?_
        refine et (k_lregion0 rfl (f12r14 k a2 o8 x16 o19)) ?_
        refine et blk_normal ?_
        refine et (k_lregion0 rfl (f12r10 k a2 o8 x16 o19)) ?_
        refine et loop_normal ?_
        exact ih (Go.AE.minS o19.1 o19.1) (Go.AE.maxS o19.2 o19.2) (Go.IntKind.wrap .i64 (x16 + 1))
      · rw [hc]
        refine et k_skip ?_
        refine et (k_lregion0 rfl (ref12_Range_r14' k a2 o8 x14 x15 x16 o19)) ?_
        refine et blk_normal ?_
        refine et (k_lregion0 rfl (ref12_Range_r10' k a2 o8 x14 x15 x16 o19)) ?_
        refine et loop_normal ?_
        exact ih (Go.AE.minS x14 o19.1) (Go.AE.maxS x15 o19.2) (Go.IntKind.wrap .i64 (x16 + 1))
    · rw [hc]
      refine et k_exit ?_
      refine et loop_exit ?_
      exact hK0 x14 x15 x16
theorem f12r15 (k : Nat) (a2 : (List (List T_api_Term))) (o8 : T_api_Field) (y20 : Str) (y21 : Str) (y22 : Int) : RE k f12a15 f12o15 false ⟨[(2, (V.sl 0 1 (List.map sTerm a2))), (10, (Pt 10)), (11, (Sr y20)), (12, (Sr y21)), (13, (I y22)), (52, (Bo false))], [(10, vS 3 (eField o8))], 76⟩ = some ⟨[(6, (Sr y20)), (7, (Sr y21)), (8, (I 0))], [], 76⟩ :=
  rE rfl
theorem ref12_Range_ok (k : Nat) (a0 : T_api_Base) (a1 : Int) (a2 : (List (List T_api_Term))) : EV k 12 [(eBase a0), (I a1), (V.sl 0 1 (List.map sTerm a2))] = (ref12_Range k a0 a1 a2).map ref12_Range_fin := by
  cases k with
  | zero => rfl
  | succ k =>
    unfold ref12_Range
    refine et (evF_succ (c := f12c) (N := 76) (regs := f12n) rfl func12 rfl (by decide) rfl rfl rfl) ?_
    refine et (k_region0 rfl (f12r0 k a0 a1 a2)) ?_
    refine et k_assoc ?_
    refine et (k_region rfl (f12r1 k a0 a1 a2)) ?_
    refine bindE (fun o2 => ?_)
    refine et k_assoc ?_
    refine et (k_region0 rfl (f12r2 k a0 a1 a2 o2)) ?_
    refine et (k_cond (t := (o2 != 0)) rfl rfl) ?_
    refine bifE2 (fun hc => ?_) fun hc => ?_
    · rw [hc]
      refine et k_assoc ?_
      refine et (k_region0 rfl (f12r3 k a0 a1 a2 o2)) ?_
      refine et k_ret ?_
      rfl
    · rw [hc]
      refine et k_skip ?_
      refine et k_assoc ?_
      refine et (k_region rfl (f12r4 k a0 a1 a2 o2)) ?_
      refine bindE (fun o4 => ?_)
      refine et (k_cond (t := o4) rfl rfl) ?_
      refine bifE2 (fun hc => ?_) fun hc => ?_
      · rw [hc]
        refine et k_assoc ?_
        refine et (k_region0 rfl (f12r5 k a0 a1 a2)) ?_
        refine et k_ret ?_
        rfl
      · rw [hc]
        refine et k_skip ?_
        refine et (k_region rfl (f12r6 k a0 a1 a2)) ?_
        refine bindE (fun o8 => ?_)
        refine et (k_region rfl (f12r7 k a2 o8)) ?_
        refine bindE (fun o10 => ?_)
        refine et k_assoc ?_
        refine et (k_region0 rfl (f12r8 k a2 o8 o10)) ?_
        refine et (k_block rfl) ?_
        refine et k_loop ?_
        refine ref12_Range_L1_ok k a0 a1 a2 o8 _ _ ?h_ref12_Range_L1_0 ?hr_ref12_Range_L1 k o10.1 o10.2 0
        · intro y20 y21 y22
          refine et blk_exit ?_
          refine et (k_region0 rfl (f12r15 k a2 o8 y20 y21 y22)) ?_
          refine et k_lret ?_
          rfl
        · intro s; exact rfl
def match_Turned_fin : (Int × Int) → V × List V := fun r => (.tup [(I r.1), (I r.2)], [])
theorem f13r0 (k : Nat) (a0 : Int) : RE k f13a0 f13o0 false ⟨[(0, (I a0))], [], 21⟩ = some ⟨[(0, (I a0))], [], 21⟩ :=
  rE rfl
theorem f13r1 (k : Nat) (a0 : Int) : RE k f13a1 f13o1 false ⟨[(0, (I a0))], [], 21⟩ = some ⟨[(0, (I a0)), (4, (I a0))], [], 21⟩ :=
  rE rfl
theorem f13r2 (k : Nat) (a0 : Int) : RE k f13a2 f13o2 false ⟨[(0, (I a0)), (4, (I a0))], [], 21⟩ = some ⟨[(0, (I a0)), (4, (I a0)), (5, (Bo (a0 == 1)))], [], 21⟩ :=
  rE rfl
theorem f13r4 (k : Nat) (a0 : Int) : RE k f13a4 f13o4 false ⟨[(0, (I a0)), (4, (I a0)), (5, (Bo true))], [], 21⟩ = some ⟨[(2, (I a0)), (3, (I 0))], [], 21⟩ :=
  rE rfl
theorem f13r3 (k : Nat) (a0 : Int) : RE k f13a3 f13o3 false ⟨[(0, (I a0)), (4, (I a0)), (5, (Bo false))], [], 21⟩ = some ⟨[(0, (I a0)), (4, (I a0)), (5, (Bo (a0 == 2)))], [], 21⟩ :=
  rE rfl
theorem f13r5 (k : Nat) (a0 : Int) : RE k f13a5 f13o5 false ⟨[(0, (I a0)), (4, (I a0)), (5, (Bo false))], [], 21⟩ = some ⟨[(0, (I a0)), (4, (I a0)), (9, (Bo (a0 == 3)))], [], 21⟩ :=
  rE rfl
theorem f13r7 (k : Nat) (a0 : Int) : RE k f13a7 f13o7 false ⟨[(0, (I a0)), (4, (I a0)), (9, (Bo true))], [], 21⟩ = some ⟨[(2, (I (Go.IntKind.wrap .i64 ((Go.IntKind.wrap .i64 (a0 + 5)) - 3)))), (3, (I 0))], [], 21⟩ :=
  rE rfl
theorem f13r6 (k : Nat) (a0 : Int) : RE k f13a6 f13o6 false ⟨[(0, (I a0)), (4, (I a0)), (9, (Bo false))], [], 21⟩ = some ⟨[(0, (I a0)), (4, (I a0)), (9, (Bo (a0 == 4)))], [], 21⟩ :=
  rE rfl
theorem f13r8 (k : Nat) (a0 : Int) : RE k f13a8 f13o8 false ⟨[(0, (I a0)), (4, (I a0)), (9, (Bo false))], [], 21⟩ = some ⟨[(0, (I a0)), (4, (I a0)), (15, (Bo (a0 == 5)))], [], 21⟩ :=
  rE rfl
theorem f13r10 (k : Nat) (a0 : Int) : RE k f13a10 f13o10 false ⟨[(0, (I a0)), (4, (I a0)), (15, (Bo true))], [], 21⟩ = some ⟨[(2, (I (Go.IntKind.wrap .i64 ((Go.IntKind.wrap .i64 (a0 + 3)) - 5)))), (3, (I 0))], [], 21⟩ :=
  rE rfl
theorem f13r9 (k : Nat) (a0 : Int) : RE k f13a9 f13o9 false ⟨[(0, (I a0)), (4, (I a0)), (15, (Bo false))], [], 21⟩ = some ⟨[(0, (I a0)), (15, (Bo (a0 == 6)))], [], 21⟩ :=
  rE rfl
theorem match_Turned_r10' (k : Nat) (a0 : Int) : RE k f13a10 f13o10 false ⟨[(0, (I a0)), (15, (Bo true))], [], 21⟩ = some ⟨[(2, (I (Go.IntKind.wrap .i64 ((Go.IntKind.wrap .i64 (a0 + 3)) - 5)))), (3, (I 0))], [], 21⟩ :=
  rE rfl
theorem f13r11 (k : Nat) (a0 : Int) : RE k f13a11 f13o11 false ⟨[(0, (I a0)), (15, (Bo false))], [], 21⟩ = some ⟨[(2, (I 0)), (3, (I 2))], [], 21⟩ :=
  rE rfl
theorem match_Turned_ok (k : Nat) (a0 : Int) : EV k 13 [(I a0)] = (match_Turned k a0).map match_Turned_fin := by
  cases k with
  | zero => rfl
  | succ k =>
    unfold match_Turned
    refine et (evF_succ (c := f13c) (N := 21) (regs := f13n) rfl func13 rfl (by decide) rfl rfl rfl) ?_
    refine et (k_region0 rfl (f13r0 k a0)) ?_
    refine et k_assoc ?_
    refine et (k_region0 rfl (f13r1 k a0)) ?_
    refine et (k_block rfl) ?_
    refine et k_assoc ?_
    refine et (k_region0 rfl (f13r2 k a0)) ?_
    refine et (k_cond (t := (a0 == 1)) rfl rfl) ?_
    refine bifE2 (fun hc => ?_) fun hc => ?_
    · rw [hc]
      refine et k_skip ?_
      refine et (k_lcond (t := true) rfl rfl) ?_
      refine et (k_region0 rfl (f13r4 k a0)) ?_
      refine et k_lret ?_
      refine et blk_ret ?_
      rfl
    · rw [hc]
      refine et (k_region0 rfl (f13r3 k a0)) ?_
      refine et (k_lcond (t := (a0 == 2)) rfl rfl) ?_
      refine bifE2 (fun hc => ?_) fun hc => ?_
      · rw [hc]
        refine et (k_region0 rfl (f13r4 k a0)) ?_
        refine et k_lret ?_
        refine et blk_ret ?_
        rfl
      · rw [hc]
        refine et k_assoc ?_
        refine et (k_region0 rfl (f13r5 k a0)) ?_
        refine et (k_cond (t := (a0 == 3)) rfl rfl) ?_
        refine bifE2 (fun hc => ?_) fun hc => ?_
        · rw [hc]
          refine et k_skip ?_
          refine et (k_lcond (t := true) rfl rfl) ?_
          refine et (k_region0 rfl (f13r7 k a0)) ?_
          refine et k_lret ?_
          refine et blk_ret ?_
          rfl
        · rw [hc]
          refine et (k_region0 rfl (f13r6 k a0)) ?_
          refine et (k_lcond (t := (a0 == 4)) rfl rfl) ?_
          refine bifE2 (fun hc => ?_) fun hc => ?_
          · rw [hc]
            refine et (k_region0 rfl (f13r7 k a0)) ?_
            refine et k_lret ?_
            refine et blk_ret ?_
            rfl
          · rw [hc]
            refine et k_assoc ?_
            refine et (k_region0 rfl (f13r8 k a0)) ?_
            refine et (k_cond (t := (a0 == 5)) rfl rfl) ?_
            refine bifE2 (fun hc => ?_) fun hc => ?_
            · rw [hc]
              refine et k_skip ?_
              refine et (k_lcond (t := true) rfl rfl) ?_
              refine et (k_region0 rfl (f13r10 k a0)) ?_
              refine et k_lret ?_
              refine et blk_ret ?_
              rfl
            · rw [hc]
              refine et (k_region0 rfl (f13r9 k a0)) ?_
              refine et (k_lcond (t := (a0 == 6)) rfl rfl) ?_
              refine bifE2 (fun hc => ?_) fun hc => ?_
              · rw [hc]
                refine et (k_region0 rfl (match_Turned_r10' k a0)) ?_
                refine et k_lret ?_
                refine et blk_ret ?_
                rfl
              · rw [hc]
                refine et k_lskip ?_
                refine et blk_normal ?_
                refine et (k_region0 rfl (f13r11 k a0)) ?_
                refine et k_lret ?_
                rfl
def ref12_Turned_fin : (Int × Int) → V × List V := fun r => (.tup [(I r.1), (I r.2)], [])
theorem f14r0 (k : Nat) (a0 : Int) : RE k f14a0 f14o0 false ⟨[(0, (I a0))], [], 19⟩ = some ⟨[(0, (I a0))], [], 19⟩ :=
  rE rfl
theorem f14r1 (k : Nat) (a0 : Int) : RE k f14a1 f14o1 false ⟨[(0, (I a0))], [], 19⟩ = some ⟨[(0, (I a0)), (4, (I a0))], [], 19⟩ :=
  rE rfl
theorem f14r2 (k : Nat) (a0 : Int) : RE k f14a2 f14o2 false ⟨[(0, (I a0)), (4, (I a0))], [], 19⟩ = some ⟨[(0, (I a0)), (4, (I a0)), (5, (Bo (a0 == 1)))], [], 19⟩ :=
  rE rfl
theorem f14r4 (k : Nat) (a0 : Int) : RE k f14a4 f14o4 false ⟨[(0, (I a0)), (4, (I a0)), (5, (Bo true))], [], 19⟩ = some ⟨[(2, (I a0)), (3, (I 0))], [], 19⟩ :=
  rE rfl
theorem f14r3 (k : Nat) (a0 : Int) : RE k f14a3 f14o3 false ⟨[(0, (I a0)), (4, (I a0)), (5, (Bo false))], [], 19⟩ = some ⟨[(0, (I a0)), (4, (I a0)), (5, (Bo (a0 == 2)))], [], 19⟩ :=
  rE rfl
theorem f14r5 (k : Nat) (a0 : Int) : RE k f14a5 f14o5 false ⟨[(0, (I a0)), (4, (I a0)), (5, (Bo false))], [], 19⟩ = some ⟨[(0, (I a0)), (4, (I a0)), (9, (Bo (a0 == 3)))], [], 19⟩ :=
  rE rfl
theorem f14r7 (k : Nat) (a0 : Int) : RE k f14a7 f14o7 false ⟨[(0, (I a0)), (4, (I a0)), (9, (Bo true))], [], 19⟩ = some ⟨[(2, (I (Go.IntKind.wrap .i64 (a0 + 2)))), (3, (I 0))], [], 19⟩ :=
  rE rfl
theorem f14r6 (k : Nat) (a0 : Int) : RE k f14a6 f14o6 false ⟨[(0, (I a0)), (4, (I a0)), (9, (Bo false))], [], 19⟩ = some ⟨[(0, (I a0)), (4, (I a0)), (9, (Bo (a0 == 4)))], [], 19⟩ :=
  rE rfl
theorem f14r8 (k : Nat) (a0 : Int) : RE k f14a8 f14o8 false ⟨[(0, (I a0)), (4, (I a0)), (9, (Bo false))], [], 19⟩ = some ⟨[(0, (I a0)), (4, (I a0)), (14, (Bo (a0 == 5)))], [], 19⟩ :=
  rE rfl
theorem f14r10 (k : Nat) (a0 : Int) : RE k f14a10 f14o10 false ⟨[(0, (I a0)), (4, (I a0)), (14, (Bo true))], [], 19⟩ = some ⟨[(2, (I (Go.IntKind.wrap .i64 (a0 - 2)))), (3, (I 0))], [], 19⟩ :=
  rE rfl
theorem f14r9 (k : Nat) (a0 : Int) : RE k f14a9 f14o9 false ⟨[(0, (I a0)), (4, (I a0)), (14, (Bo false))], [], 19⟩ = some ⟨[(0, (I a0)), (14, (Bo (a0 == 6)))], [], 19⟩ :=
  rE rfl
theorem ref12_Turned_r10' (k : Nat) (a0 : Int) : RE k f14a10 f14o10 false ⟨[(0, (I a0)), (14, (Bo true))], [], 19⟩ = some ⟨[(2, (I (Go.IntKind.wrap .i64 (a0 - 2)))), (3, (I 0))], [], 19⟩ :=
  rE rfl
theorem f14r11 (k : Nat) (a0 : Int) : RE k f14a11 f14o11 false ⟨[(0, (I a0)), (14, (Bo false))], [], 19⟩ = some ⟨[(2, (I 0)), (3, (I 2))], [], 19⟩ :=
  rE rfl
theorem ref12_Turned_ok (k : Nat) (a0 : Int) : EV k 14 [(I a0)] = (ref12_Turned k a0).map ref12_Turned_fin := by
  cases k with
  | zero => rfl
  | succ k =>
    unfold ref12_Turned
    refine et (evF_succ (c := f14c) (N := 19) (regs := f14n) rfl func14 rfl (by decide) rfl rfl rfl) ?_
    refine et (k_region0 rfl (f14r0 k a0)) ?_
    refine et k_assoc ?_
    refine et (k_region0 rfl (f14r1 k a0)) ?_
    refine et (k_block rfl) ?_
    refine et k_assoc ?_
    refine et (k_region0 rfl (f14r2 k a0)) ?_
    refine et (k_cond (t := (a0 == 1)) rfl rfl) ?_
    refine bifE2 (fun hc => ?_) fun hc => ?_
    · rw [hc]
      refine et k_skip ?_
      refine et (k_lcond (t := true) rfl rfl) ?_
      refine et (k_region0 rfl (f14r4 k a0)) ?_
      refine et k_lret ?_
      refine et blk_ret ?_
      rfl
    · rw [hc]
      refine et (k_region0 rfl (f14r3 k a0)) ?_
      refine et (k_lcond (t := (a0 == 2)) rfl rfl) ?_
      refine bifE2 (fun hc => ?_) fun hc => ?_
      · rw [hc]
        refine et (k_region0 rfl (f14r4 k a0)) ?_
        refine et k_lret ?_
        refine et blk_ret ?_
        rfl
      · rw [hc]
        refine et k_assoc ?_
        refine et (k_region0 rfl (f14r5 k a0)) ?_
        refine et (k_cond (t := (a0 == 3)) rfl rfl) ?_
        refine bifE2 (fun hc => ?_) fun hc => ?_
        · rw [hc]
          refine et k_skip ?_
          refine et (k_lcond (t := true) rfl rfl) ?_
          refine et (k_region0 rfl (f14r7 k a0)) ?_
          refine et k_lret ?_
          refine et blk_ret ?_
          rfl
        · rw [hc]
          refine et (k_region0 rfl (f14r6 k a0)) ?_
          refine et (k_lcond (t := (a0 == 4)) rfl rfl) ?_
          refine bifE2 (fun hc => ?_) fun hc => ?_
          · rw [hc]
            refine et (k_region0 rfl (f14r7 k a0)) ?_
            refine et k_lret ?_
            refine et blk_ret ?_
            rfl
          · rw [hc]
            refine et k_assoc ?_
            refine et (k_region0 rfl (f14r8 k a0)) ?_
            refine et (k_cond (t := (a0 == 5)) rfl rfl) ?_
            refine bifE2 (fun hc => ?_) fun hc => ?_
            · rw [hc]
              refine et k_skip ?_
              refine et (k_lcond (t := true) rfl rfl) ?_
              refine et (k_region0 rfl (f14r10 k a0)) ?_
              refine et k_lret ?_
              refine et blk_ret ?_
              rfl
            · rw [hc]
              refine et (k_region0 rfl (f14r9 k a0)) ?_
              refine et (k_lcond (t := (a0 == 6)) rfl rfl) ?_
              refine bifE2 (fun hc => ?_) fun hc => ?_
              · rw [hc]
                refine et (k_region0 rfl (ref12_Turned_r10' k a0)) ?_
                refine et k_lret ?_
                refine et blk_ret ?_
                rfl
              · rw [hc]
                refine et k_lskip ?_
                refine et blk_normal ?_
                refine et (k_region0 rfl (f14r11 k a0)) ?_
                refine et k_lret ?_
                rfl
def law12_MatchRanges_fin : Bool → V × List V := fun r => ((Bo r), [])
theorem f3r0 (k : Nat) (a0 : T_progenylaw12_Case) (a1 : Int) : RE k f3a0 f3o0 false ⟨[(0, (eCase a0)), (1, (I a1))], [], 82⟩ = some ⟨[(1, (I a1)), (2, (Pt 2))], [(2, vS 6 (eCase a0))], 82⟩ :=
  rE rfl
theorem f3r1 (k : Nat) (a0 : T_progenylaw12_Case) (a1 : Int) : RE k f3a1 f3o1 false ⟨[(1, (I a1)), (2, (Pt 2))], [(2, vS 6 (eCase a0))], 82⟩ = (((law12_Large k a0.fBase).bind fun v1 => (bif v1 then (some (true)) else (law12_Long k a0.fWhen)))).map (fun (o : Bool) => (⟨[(1, (I a1)), (2, (Pt 2)), (22, (Bo o))], [(2, vS 6 (eCase a0))], 82⟩ : St)) := by
  refine rg ?_
  refine ra 2 2 ⟨[(1, (I a1)), (2, (Pt 2)), (15, (Pt 2)), (16, (eBase a0.fBase))], [(2, vS 6 (eCase a0))], 82⟩ rfl rfl rfl ?_
  refine et (reg_pure (x := (law12_Large k a0.fBase)) (w := fun v1 => (Bo v1)) rfl rfl rfl rfl (p_call rfl rfl rfl rfl rfl (law12_Large_ok k a0.fBase) (.inl rfl))) ?_
  refine bindE (fun v1 => ?_)
  refine ba 1 4 ⟨[(1, (I a1)), (2, (Pt 2)), (15, (Pt 2)), (16, (eBase a0.fBase)), (17, (Bo v1)), (18, (Bo v1))], [(2, vS 6 (eCase a0))], 82⟩ rfl rfl rfl ?_
  refine bifE (c := v1) (fun hc => ?_) fun hc => ?_
  · rw [hc]
    exact reg_end rfl
  · rw [hc]
    refine ra 2 6 ⟨[(1, (I a1)), (2, (Pt 2)), (15, (Pt 2)), (16, (eBase a0.fBase)), (17, (Bo false)), (18, (Bo false)), (19, (V.ptr 2 0 5)), (20, (V.sl 0 1 (List.map sTerm a0.fWhen)))], [(2, vS 6 (eCase a0))], 82⟩ rfl rfl rfl ?_
    refine et (reg_pure (x := (law12_Long k a0.fWhen)) (w := fun v2 => (Bo v2)) rfl rfl rfl rfl (p_call rfl rfl rfl rfl rfl (law12_Long_ok k a0.fWhen) (.inl rfl))) ?_
    refine bind_self (fun v2 => ?_)
    exact bind_end rfl
theorem f3r2 (k : Nat) (a0 : T_progenylaw12_Case) (a1 : Int) : RE k f3a2 f3o2 false ⟨[(1, (I a1)), (2, (Pt 2)), (22, (Bo true))], [(2, vS 6 (eCase a0))], 82⟩ = ((law12_Awake k)).map (fun (o : Bool) => (⟨[(4, (Bo o))], [], 82⟩ : St)) := by
  refine rg ?_
  refine et (reg_pure (x := (law12_Awake k)) (w := fun v4 => (Bo v4)) rfl rfl rfl rfl (p_call rfl rfl rfl rfl rfl (law12_Awake_ok k) (.inl rfl))) ?_
  refine bind_self (fun v4 => ?_)
  exact bind_end rfl
theorem f3r3 (k : Nat) (a0 : T_progenylaw12_Case) (a1 : Int) : RE k f3a3 f3o3 false ⟨[(1, (I a1)), (2, (Pt 2)), (22, (Bo false))], [(2, vS 6 (eCase a0))], 82⟩ = (((match_Range k a0.fBase a0.fType a0.fWhen).bind fun v6 => (some (v6.1, v6.2.1, v6.2.2)))).map (fun (o : Str × Str × Int) => (⟨[(1, (I a1)), (2, (Pt 2)), (5, (Sr o.1)), (6, (Sr o.2.1)), (7, (I o.2.2))], [(2, vS 6 (eCase a0))], 82⟩ : St)) := by
  refine rg ?_
  refine ra 6 6 ⟨[(1, (I a1)), (2, (Pt 2)), (22, (Bo false)), (25, (Pt 2)), (26, (eBase a0.fBase)), (27, (V.ptr 2 0 4)), (28, (I a0.fType)), (29, (V.ptr 2 0 5)), (30, (V.sl 0 1 (List.map sTerm a0.fWhen)))], [(2, vS 6 (eCase a0))], 82⟩ rfl rfl rfl ?_
  refine et (reg_pure (x := (match_Range k a0.fBase a0.fType a0.fWhen)) (w := fun v6 => (V.tup [(Sr v6.1), (Sr v6.2.1), (I v6.2.2)])) rfl rfl rfl rfl (p_call rfl rfl rfl rfl rfl (match_Range_ok k a0.fBase a0.fType a0.fWhen) (.inl rfl))) ?_
  refine bindE (fun v6 => ?_)
  exact bind_end rfl
theorem f3r4 (k : Nat) (a0 : T_progenylaw12_Case) (a1 : Int) (o7 : Str × Str × Int) : RE k f3a4 f3o4 false ⟨[(1, (I a1)), (2, (Pt 2)), (5, (Sr o7.1)), (6, (Sr o7.2.1)), (7, (I o7.2.2))], [(2, vS 6 (eCase a0))], 82⟩ = (((ref12_Range k a0.fBase a0.fType a0.fWhen).bind fun v8 => (some (v8.1, v8.2.1, v8.2.2)))).map (fun (o : Str × Str × Int) => (⟨[(1, (I a1)), (5, (Sr o7.1)), (6, (Sr o7.2.1)), (7, (I o7.2.2)), (8, (Sr o.1)), (9, (Sr o.2.1)), (10, (I o.2.2))], [], 82⟩ : St)) := by
  refine rg ?_
  refine ra 6 6 ⟨[(1, (I a1)), (2, (Pt 2)), (5, (Sr o7.1)), (6, (Sr o7.2.1)), (7, (I o7.2.2)), (36, (Pt 2)), (37, (eBase a0.fBase)), (38, (V.ptr 2 0 4)), (39, (I a0.fType)), (40, (V.ptr 2 0 5)), (41, (V.sl 0 1 (List.map sTerm a0.fWhen)))], [(2, vS 6 (eCase a0))], 82⟩ rfl rfl rfl ?_
  refine et (reg_pure (x := (ref12_Range k a0.fBase a0.fType a0.fWhen)) (w := fun v8 => (V.tup [(Sr v8.1), (Sr v8.2.1), (I v8.2.2)])) rfl rfl rfl rfl (p_call rfl rfl rfl rfl rfl (ref12_Range_ok k a0.fBase a0.fType a0.fWhen) (.inl rfl))) ?_
  refine bindE (fun v8 => ?_)
  exact bind_end rfl
theorem f3r5 (k : Nat) (a1 : Int) (o7 : Str × Str × Int) (o9 : Str × Str × Int) : RE k f3a5 f3o5 false ⟨[(1, (I a1)), (5, (Sr o7.1)), (6, (Sr o7.2.1)), (7, (I o7.2.2)), (8, (Sr o9.1)), (9, (Sr o9.2.1)), (10, (I o9.2.2))], [], 82⟩ = (((match_Turned k a1).bind fun v10 => (some (v10.1, v10.2)))).map (fun (o : Int × Int) => (⟨[(1, (I a1)), (5, (Sr o7.1)), (6, (Sr o7.2.1)), (7, (I o7.2.2)), (8, (Sr o9.1)), (9, (Sr o9.2.1)), (10, (I o9.2.2)), (11, (I o.1)), (12, (I o.2))], [], 82⟩ : St)) := by
  refine rg ?_
  refine ra 1 1 ⟨[(1, (I a1)), (5, (Sr o7.1)), (6, (Sr o7.2.1)), (7, (I o7.2.2)), (8, (Sr o9.1)), (9, (Sr o9.2.1)), (10, (I o9.2.2)), (47, (I a1))], [], 82⟩ rfl rfl rfl ?_
  refine et (reg_pure (x := (match_Turned k a1)) (w := fun v10 => (V.tup [(I v10.1), (I v10.2)])) rfl rfl rfl rfl (p_call rfl rfl rfl rfl rfl (match_Turned_ok k a1) (.inl rfl))) ?_
  refine bindE (fun v10 => ?_)
  exact bind_end rfl
theorem f3r6 (k : Nat) (a1 : Int) (o7 : Str × Str × Int) (o9 : Str × Str × Int) (o11 : Int × Int) : RE k f3a6 f3o6 false ⟨[(1, (I a1)), (5, (Sr o7.1)), (6, (Sr o7.2.1)), (7, (I o7.2.2)), (8, (Sr o9.1)), (9, (Sr o9.2.1)), (10, (I o9.2.2)), (11, (I o11.1)), (12, (I o11.2))], [], 82⟩ = (((ref12_Turned k a1).bind fun v12 => (some (v12.1, v12.2)))).map (fun (o : Int × Int) => (⟨[(5, (Sr o7.1)), (6, (Sr o7.2.1)), (7, (I o7.2.2)), (8, (Sr o9.1)), (9, (Sr o9.2.1)), (10, (I o9.2.2)), (11, (I o11.1)), (12, (I o11.2)), (13, (I o.1)), (14, (I o.2))], [], 82⟩ : St)) := by
  refine rg ?_
  refine ra 1 1 ⟨[(1, (I a1)), (5, (Sr o7.1)), (6, (Sr o7.2.1)), (7, (I o7.2.2)), (8, (Sr o9.1)), (9, (Sr o9.2.1)), (10, (I o9.2.2)), (11, (I o11.1)), (12, (I o11.2)), (52, (I a1))], [], 82⟩ rfl rfl rfl ?_
  refine et (reg_pure (x := (ref12_Turned k a1)) (w := fun v12 => (V.tup [(I v12.1), (I v12.2)])) rfl rfl rfl rfl (p_call rfl rfl rfl rfl rfl (ref12_Turned_ok k a1) (.inl rfl))) ?_
  refine bindE (fun v12 => ?_)
  exact bind_end rfl
theorem f3r7 (k : Nat) (o7 : Str × Str × Int) (o9 : Str × Str × Int) (o11 : Int × Int) (o13 : Int × Int) : RE k f3a7 f3o7 false ⟨[(5, (Sr o7.1)), (6, (Sr o7.2.1)), (7, (I o7.2.2)), (8, (Sr o9.1)), (9, (Sr o9.2.1)), (10, (I o9.2.2)), (11, (I o11.1)), (12, (I o11.2)), (13, (I o13.1)), (14, (I o13.2))], [], 82⟩ = ((bif (o7.1 == o9.1) then (bif (o7.2.1 == o9.2.1) then (bif (o7.2.2 == o9.2.2) then (bif (o11.1 == o13.1) then (bif (o11.2 == o13.2) then (law12_Awake k) else (some (false))) else (some (false))) else (some (false))) else (some (false))) else (some (false)))).map (fun (o : Bool) => (⟨[(4, (Bo o))], [], 82⟩ : St)) := by
  refine rg ?_
  refine ra 4 4 ⟨[(5, (Sr o7.1)), (6, (Sr o7.2.1)), (7, (I o7.2.2)), (8, (Sr o9.1)), (9, (Sr o9.2.1)), (10, (I o9.2.2)), (11, (I o11.1)), (12, (I o11.2)), (13, (I o13.1)), (14, (I o13.2)), (56, (Sr o7.1)), (57, (Sr o9.1)), (58, (Bo (o7.1 == o9.1))), (59, (Bo (o7.1 == o9.1)))], [], 82⟩ rfl rfl rfl ?_
  refine bifE (c := (o7.1 == o9.1)) (fun hc => ?_) fun hc => ?_
  · rw [hc]
    refine ra 5 9 ⟨[(5, (Sr o7.1)), (6, (Sr o7.2.1)), (7, (I o7.2.2)), (8, (Sr o9.1)), (9, (Sr o9.2.1)), (10, (I o9.2.2)), (11, (I o11.1)), (12, (I o11.2)), (13, (I o13.1)), (14, (I o13.2)), (56, (Sr o7.1)), (57, (Sr o9.1)), (58, (Bo true)), (59, (Bo true)), (60, (Sr o7.2.1)), (61, (Sr o9.2.1)), (62, (Bo (o7.2.1 == o9.2.1))), (63, (Bo (o7.2.1 == o9.2.1))), (64, (Bo (o7.2.1 == o9.2.1)))], [], 82⟩ rfl rfl rfl ?_
    refine bifE (c := (o7.2.1 == o9.2.1)) (fun hc => ?_) fun hc => ?_
    · rw [hc]
      refine ra 5 14 ⟨[(5, (Sr o7.1)), (6, (Sr o7.2.1)), (7, (I o7.2.2)), (8, (Sr o9.1)), (9, (Sr o9.2.1)), (10, (I o9.2.2)), (11, (I o11.1)), (12, (I o11.2)), (13, (I o13.1)), (14, (I o13.2)), (56, (Sr o7.1)), (57, (Sr o9.1)), (58, (Bo true)), (59, (Bo true)), (60, (Sr o7.2.1)), (61, (Sr o9.2.1)), (62, (Bo true)), (63, (Bo true)), (64, (Bo true)), (65, (I o7.2.2)), (66, (I o9.2.2)), (67, (Bo (o7.2.2 == o9.2.2))), (68, (Bo (o7.2.2 == o9.2.2))), (69, (Bo (o7.2.2 == o9.2.2)))], [], 82⟩ rfl rfl rfl ?_
      refine bifE (c := (o7.2.2 == o9.2.2)) (fun hc => ?_) fun hc => ?_
      · rw [hc]
        refine ra 5 19 ⟨[(5, (Sr o7.1)), (6, (Sr o7.2.1)), (7, (I o7.2.2)), (8, (Sr o9.1)), (9, (Sr o9.2.1)), (10, (I o9.2.2)), (11, (I o11.1)), (12, (I o11.2)), (13, (I o13.1)), (14, (I o13.2)), (56, (Sr o7.1)), (57, (Sr o9.1)), (58, (Bo true)), (59, (Bo true)), (60, (Sr o7.2.1)), (61, (Sr o9.2.1)), (62, (Bo true)), (63, (Bo true)), (64, (Bo true)), (65, (I o7.2.2)), (66, (I o9.2.2)), (67, (Bo true)), (68, (Bo true)), (69, (Bo true)), (70, (I o11.1)), (71, (I o13.1)), (72, (Bo (o11.1 == o13.1))), (73, (Bo (o11.1 == o13.1))), (74, (Bo (o11.1 == o13.1)))], [], 82⟩ rfl rfl rfl ?_
        refine bifE (c := (o11.1 == o13.1)) (fun hc => ?_) fun hc => ?_
        · rw [hc]
          refine ra 5 24 ⟨[(5, (Sr o7.1)), (6, (Sr o7.2.1)), (7, (I o7.2.2)), (8, (Sr o9.1)), (9, (Sr o9.2.1)), (10, (I o9.2.2)), (11, (I o11.1)), (12, (I o11.2)), (13, (I o13.1)), (14, (I o13.2)), (56, (Sr o7.1)), (57, (Sr o9.1)), (58, (Bo true)), (59, (Bo true)), (60, (Sr o7.2.1)), (61, (Sr o9.2.1)), (62, (Bo true)), (63, (Bo true)), (64, (Bo true)), (65, (I o7.2.2)), (66, (I o9.2.2)), (67, (Bo true)), (68, (Bo true)), (69, (Bo true)), (70, (I o11.1)), (71, (I o13.1)), (72, (Bo true)), (73, (Bo true)), (74, (Bo true)), (75, (I o11.2)), (76, (I o13.2)), (77, (Bo (o11.2 == o13.2))), (78, (Bo (o11.2 == o13.2))), (79, (Bo (o11.2 == o13.2)))], [], 82⟩ rfl rfl rfl ?_
          refine bifE (c := (o11.2 == o13.2)) (fun hc => ?_) fun hc => ?_
          · rw [hc]
            refine et (reg_pure (x := (law12_Awake k)) (w := fun v14 => (Bo v14)) rfl rfl rfl rfl (p_call rfl rfl rfl rfl rfl (law12_Awake_ok k) (.inl rfl))) ?_
            refine bind_self (fun v14 => ?_)
            exact bind_end rfl
          · rw [hc]
            exact reg_end rfl
        · rw [hc]
          exact reg_end rfl
      · rw [hc]
        exact reg_end rfl
    · rw [hc]
      exact reg_end rfl
  · rw [hc]
    exact reg_end rfl
theorem law12_MatchRanges_ok (k : Nat) (a0 : T_progenylaw12_Case) (a1 : Int) : EV k 3 [(eCase a0), (I a1)] = (law12_MatchRanges k a0 a1).map law12_MatchRanges_fin := by
  cases k with
  | zero => rfl
  | succ k =>
    unfold law12_MatchRanges
    refine et (evF_succ (c := f3c) (N := 82) (regs := f3n) rfl func3 rfl (by decide) rfl rfl rfl) ?_
    refine et (k_region0 rfl (f3r0 k a0 a1)) ?_
    refine et k_assoc ?_
    refine et (k_region rfl (f3r1 k a0 a1)) ?_
    refine bindE (fun o3 => ?_)
    refine et (k_cond (t := o3) rfl rfl) ?_
    refine bifE2 (fun hc => ?_) fun hc => ?_
    · rw [hc]
      refine et k_assoc ?_
      refine et (k_region rfl (f3r2 k a0 a1)) ?_
      refine bindE (fun o5 => ?_)
      refine et k_ret ?_
      rfl
    · rw [hc]
      refine et k_skip ?_
      refine et (k_region rfl (f3r3 k a0 a1)) ?_
      refine bindE (fun o7 => ?_)
      refine et (k_region rfl (f3r4 k a0 a1 o7)) ?_
      refine bindE (fun o9 => ?_)
      refine et (k_region rfl (f3r5 k a1 o7 o9)) ?_
      refine bindE (fun o11 => ?_)
      refine et (k_region rfl (f3r6 k a1 o7 o9 o11)) ?_
      refine bindE (fun o13 => ?_)
      refine et (k_region rfl (f3r7 k o7 o9 o11 o13)) ?_
      refine bindE (fun o15 => ?_)
      refine et k_lret ?_
      rfl
end
end Go.AE
