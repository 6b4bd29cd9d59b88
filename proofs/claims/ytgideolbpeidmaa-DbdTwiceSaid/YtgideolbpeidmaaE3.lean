/- The program, function by function: the evaluator comes to the typed functions. Conditions: none. -/
import Derived.Test.YtgideolbpeidmaaA2
import Derived.KernelRfl
import Derived.Test.YtgideolbpeidmaaProg
import Derived.Test.YtgideolbpeidmaaB1
import Derived.Test.YtgideolbpeidmaaE2
namespace Go.AE
open Go.Proofs.Try Go.Sh
set_option linter.unusedSimpArgs false
set_option linter.unusedVariables false
set_option maxRecDepth 100000
set_option maxHeartbeats 4000000
noncomputable section
theorem law11_DbdParts_L1_ok (k : Nat) (a0 : T_api_Base) (a1 : (List Int))  (K0 : (List Int) → Int → Option Bool) (Kst : X × St → Option (V × List V)) (hK0 : ∀ (y0 : (List Int)) (y1 : Int), Kst (X.exit 0, ⟨[(2, (V.ptr 2 0 0)), (9, (V.sl 1 1 (List.map I y0))), (10, (I y1)), (59, (V.bool false))], [(2, ⟨false, 4, [(enc_T_api_Base a0)]⟩)], 82⟩) = (K0 y0 y1).map law11_DbdParts_fin) (hret : ∀ s, Kst (X.ret, s) = endK prog 82 [(enc_T_api_Base a0), (sI a1)] [] [.tmp 4] (X.ret, s)) :
    ∀ (m : Nat) (x18 : (List Int)) (x19 : Int), (iter (exec prog (EV k) f6n k f6b0) m ⟨[(2, (V.ptr 2 0 0)), (9, (V.sl 1 1 (List.map I x18))), (10, (I x19))], [(2, ⟨false, 4, [(enc_T_api_Base a0)]⟩)], 82⟩).bind Kst = (law11_DbdParts_L1 a0 K0 m x18 x19).map law11_DbdParts_fin := by
  intro m
  induction m with
  | zero => intros; rfl
  | succ m ih =>
    intro x18 x19
    unfold law11_DbdParts_L1
    refine Eq.trans k_round ?_
    refine Eq.trans k_assoc ?_
    refine Eq.trans (k_region0 rfl (f6r11 k a0 x18 x19)) ?_
    refine Eq.trans (k_cond (t := (decide (x19 < (a0.fTypes.length : Int)))) rfl) ?_
    refine bifE2 (fun hc => ?_) fun hc => ?_
    · rw [hc]
      refine Eq.trans k_skip ?_
      refine Eq.trans k_block ?_
      refine Eq.trans (k_lregion rfl (f6r13 k a0 x18 x19)) ?_
      refine bindE (fun o21 => ?_)
      refine Eq.trans blk_normal ?_
      refine Eq.trans (k_lregion0 rfl (f6r12 k a0 x19 o21)) ?_
      refine Eq.trans loop_normal ?_
      exact ih o21 (Go.IntKind.wrap .i64 (x19 + 1))
    · rw [hc]
      refine Eq.trans k_exit ?_
      refine Eq.trans loop_exit ?_
      exact hK0 x18 x19
theorem f6r14 (k : Nat) (a0 : T_api_Base) (y22 : (List Int)) (y23 : Int) : RE k f6a14 f6o14 false ⟨[(2, (V.ptr 2 0 0)), (9, (V.sl 1 1 (List.map I y22))), (10, (I y23)), (59, (V.bool false))], [(2, ⟨false, 4, [(enc_T_api_Base a0)]⟩)], 82⟩ = (((dbd_Part k a0 y22).bind fun v24 => (some (v24.2, v24.1)))).map (fun (o : Int × T_api_Base) => (⟨[(2, (V.ptr 2 0 0)), (6, (I o.1)), (11, (V.ptr 11 0 0))], [(2, ⟨false, 4, [(enc_T_api_Base a0)]⟩), (11, ⟨false, 4, [(enc_T_api_Base o.2)]⟩)], 82⟩ : St)) := by
  refine rg ?_
  refine ra 2 2 ⟨[(2, (V.ptr 2 0 0)), (9, (V.sl 1 1 (List.map I y22))), (10, (I y23)), (59, (V.bool false)), (67, (enc_T_api_Base a0)), (68, (sI y22))], [(2, ⟨false, 4, [(enc_T_api_Base a0)]⟩)], 82⟩ rfl rfl rfl ?_
  refine Eq.trans (reg_pure (x := (dbd_Part k a0 y22)) (w := fun v24 => (V.tup [(enc_T_api_Base v24.1), (I v24.2)])) rfl rfl rfl rfl (p_call rfl rfl rfl rfl rfl (dbd_Part_ok k a0 y22) (.inl rfl))) ?_
  refine bindE (fun v24 => ?_)
  exact bind_end rfl
theorem f6r15 (k : Nat) (a0 : T_api_Base) (o25 : Int × T_api_Base) : RE k f6a15 f6o15 false ⟨[(2, (V.ptr 2 0 0)), (6, (I o25.1)), (11, (V.ptr 11 0 0))], [(2, ⟨false, 4, [(enc_T_api_Base a0)]⟩), (11, ⟨false, 4, [(enc_T_api_Base o25.2)]⟩)], 82⟩ = ((bif (o25.1 == 0) then ((ref11_Same k o25.2 a0).bind fun v26 => (bif v26 then (law11_First k) else (some (false)))) else (some (false)))).map (fun (o : Bool) => (⟨[(4, (V.bool o))], [], 82⟩ : St)) := by
  refine rg ?_
  refine ra 3 3 ⟨[(2, (V.ptr 2 0 0)), (6, (I o25.1)), (11, (V.ptr 11 0 0)), (72, (I o25.1)), (73, (V.bool (o25.1 == 0))), (74, (V.bool (o25.1 == 0)))], [(2, ⟨false, 4, [(enc_T_api_Base a0)]⟩), (11, ⟨false, 4, [(enc_T_api_Base o25.2)]⟩)], 82⟩ rfl rfl rfl ?_
  refine bifE (c := (o25.1 == 0)) (fun hc => ?_) fun hc => ?_
  · rw [hc]
    refine ra 2 5 ⟨[(2, (V.ptr 2 0 0)), (6, (I o25.1)), (11, (V.ptr 11 0 0)), (72, (I o25.1)), (73, (V.bool true)), (74, (V.bool true)), (75, (enc_T_api_Base o25.2)), (76, (enc_T_api_Base a0))], [(2, ⟨false, 4, [(enc_T_api_Base a0)]⟩), (11, ⟨false, 4, [(enc_T_api_Base o25.2)]⟩)], 82⟩ rfl rfl rfl ?_
    refine Eq.trans (reg_pure (x := (ref11_Same k o25.2 a0)) (w := fun v26 => (V.bool v26)) rfl rfl rfl rfl (p_call rfl rfl rfl rfl rfl (ref11_Same_ok k o25.2 a0) (.inl rfl))) ?_
    refine bindE (fun v26 => ?_)
    refine ba 2 8 ⟨[(2, (V.ptr 2 0 0)), (6, (I o25.1)), (11, (V.ptr 11 0 0)), (72, (I o25.1)), (73, (V.bool true)), (74, (V.bool true)), (75, (enc_T_api_Base o25.2)), (76, (enc_T_api_Base a0)), (77, (V.bool v26)), (78, (V.bool v26)), (79, (V.bool v26))], [(2, ⟨false, 4, [(enc_T_api_Base a0)]⟩), (11, ⟨false, 4, [(enc_T_api_Base o25.2)]⟩)], 82⟩ rfl rfl rfl ?_
    refine bifE (c := v26) (fun hc => ?_) fun hc => ?_
    · rw [hc]
      refine Eq.trans (reg_pure (x := (law11_First k)) (w := fun v27 => (V.bool v27)) rfl rfl rfl rfl (p_call rfl rfl rfl rfl rfl (law11_First_ok k) (.inl rfl))) ?_
      refine bind_self (fun v27 => ?_)
      exact bind_end rfl
    · rw [hc]
      exact reg_end rfl
  · rw [hc]
    exact reg_end rfl
theorem law11_DbdParts_ok (k : Nat) (a0 : T_api_Base) (a1 : (List Int)) : EV k 6 [(enc_T_api_Base a0), (sI a1)] = (law11_DbdParts k a0 a1).map law11_DbdParts_fin := by
  cases k with
  | zero => rfl
  | succ k =>
    unfold law11_DbdParts
    refine Eq.trans (evF_succ (c := f6c) (N := 82) (regs := f6n) rfl Go.Proofs.Try.func6 rfl (by decide) rfl rfl rfl) ?_
    refine Eq.trans (k_region0 rfl (f6r0 k a0 a1)) ?_
    refine Eq.trans k_assoc ?_
    refine Eq.trans (k_region rfl (f6r1 k a0 a1)) ?_
    refine bindE (fun o2 => ?_)
    refine Eq.trans (k_cond (t := o2) rfl) ?_
    refine bifE2 (fun hc => ?_) fun hc => ?_
    · rw [hc]
      refine Eq.trans k_assoc ?_
      refine Eq.trans (k_region rfl (f6r2 k a0 a1)) ?_
      refine bindE (fun o4 => ?_)
      refine Eq.trans k_ret ?_
      rfl
    · rw [hc]
      refine Eq.trans k_skip ?_
      refine Eq.trans (k_region rfl (f6r3 k a0 a1)) ?_
      refine bindE (fun o6 => ?_)
      refine Eq.trans (k_region rfl (f6r4 k a0 a1 o6)) ?_
      refine bindE (fun o8 => ?_)
      refine Eq.trans k_assoc ?_
      refine Eq.trans (k_region rfl (f6r5 k a0 o6 o8)) ?_
      refine bindE (fun o11 => ?_)
      refine Eq.trans (k_cond (t := o11) rfl) ?_
      refine bifE2 (fun hc => ?_) fun hc => ?_
      · rw [hc]
        refine Eq.trans k_assoc ?_
        refine Eq.trans (k_region0 rfl (f6r6 k a0)) ?_
        refine Eq.trans k_ret ?_
        rfl
      · rw [hc]
        refine Eq.trans k_skip ?_
        refine Eq.trans k_assoc ?_
        refine Eq.trans (k_region rfl (f6r7 k a0)) ?_
        refine bindE (fun o13 => ?_)
        refine Eq.trans (k_cond (t := o13) rfl) ?_
        refine bifE2 (fun hc => ?_) fun hc => ?_
        · rw [hc]
          refine Eq.trans k_assoc ?_
          refine Eq.trans (k_region rfl (f6r8 k a0)) ?_
          refine bindE (fun o15 => ?_)
          refine Eq.trans k_ret ?_
          rfl
        · rw [hc]
          refine Eq.trans k_skip ?_
          refine Eq.trans (k_region0 rfl (f6r9 k a0)) ?_
          refine Eq.trans k_assoc ?_
          refine Eq.trans (k_region0 rfl (f6r10 k a0)) ?_
          refine Eq.trans k_block ?_
          refine Eq.trans k_loop ?_
          refine law11_DbdParts_L1_ok k a0 a1 _ _ ?h_law11_DbdParts_L1_0 ?hr_law11_DbdParts_L1 k ([] : List Int) 0
          · intro y22 y23
            refine Eq.trans blk_exit ?_
            refine Eq.trans (k_region rfl (f6r14 k a0 y22 y23)) ?_
            refine bindE (fun o25 => ?_)
            refine Eq.trans (k_region rfl (f6r15 k a0 o25)) ?_
            refine bindE (fun o28 => ?_)
            refine Eq.trans k_lret ?_
            rfl
          · intro s; exact rfl
def law11_DbdTwice_fin : Bool → V × List V := fun r => ((V.bool r), [])
theorem f7r0 (k : Nat) (a0 : T_api_Base) (a1 : (List Int)) (a2 : (List Int)) : RE k f7a0 f7o0 false ⟨[(0, (enc_T_api_Base a0)), (1, (sI a1)), (2, (sI a2))], [], 98⟩ = some ⟨[(1, (sI a1)), (2, (sI a2)), (3, (V.ptr 3 0 0))], [(3, ⟨false, 4, [(enc_T_api_Base a0)]⟩)], 98⟩ :=
  rE rfl
theorem f7r1 (k : Nat) (a0 : T_api_Base) (a1 : (List Int)) (a2 : (List Int)) : RE k f7a1 f7o1 false ⟨[(1, (sI a1)), (2, (sI a2)), (3, (V.ptr 3 0 0))], [(3, ⟨false, 4, [(enc_T_api_Base a0)]⟩)], 98⟩ = (((law11_Small k a0).bind fun v1 => (bif (!v1) then (some (true)) else ((ref11_Valid k a0).bind fun v2 => (bif (!v2) then (some (true)) else (bif (decide ((a1.length : Int) > 20)) then (some (true)) else (bif (decide ((a2.length : Int) > 20)) then (some (true)) else ((ref11_IsPart k a0 a1).bind fun v3 => (some ((!v3))))))))))).map (fun (o : Bool) => (⟨[(1, (sI a1)), (2, (sI a2)), (3, (V.ptr 3 0 0)), (37, (V.bool o))], [(3, ⟨false, 4, [(enc_T_api_Base a0)]⟩)], 98⟩ : St)) := by
  refine rg ?_
  refine ra 1 1 ⟨[(1, (sI a1)), (2, (sI a2)), (3, (V.ptr 3 0 0)), (14, (enc_T_api_Base a0))], [(3, ⟨false, 4, [(enc_T_api_Base a0)]⟩)], 98⟩ rfl rfl rfl ?_
  refine Eq.trans (reg_pure (x := (law11_Small k a0)) (w := fun v1 => (V.bool v1)) rfl rfl rfl rfl (p_call rfl rfl rfl rfl rfl (law11_Small_ok k a0) (.inl rfl))) ?_
  refine bindE (fun v1 => ?_)
  refine ba 2 4 ⟨[(1, (sI a1)), (2, (sI a2)), (3, (V.ptr 3 0 0)), (14, (enc_T_api_Base a0)), (15, (V.bool v1)), (16, (V.bool (!v1))), (17, (V.bool (!v1)))], [(3, ⟨false, 4, [(enc_T_api_Base a0)]⟩)], 98⟩ rfl rfl rfl ?_
  refine bifE (c := (!v1)) (fun hc => ?_) fun hc => ?_
  · rw [hc]
    exact reg_end rfl
  · rw [hc]
    refine ra 1 5 ⟨[(1, (sI a1)), (2, (sI a2)), (3, (V.ptr 3 0 0)), (14, (enc_T_api_Base a0)), (15, (V.bool v1)), (16, (V.bool false)), (17, (V.bool false)), (18, (enc_T_api_Base a0))], [(3, ⟨false, 4, [(enc_T_api_Base a0)]⟩)], 98⟩ rfl rfl rfl ?_
    refine Eq.trans (reg_pure (x := (ref11_Valid k a0)) (w := fun v2 => (V.bool v2)) rfl rfl rfl rfl (p_call rfl rfl rfl rfl rfl (ref11_Valid_ok k a0) (.inl rfl))) ?_
    refine bindE (fun v2 => ?_)
    refine ba 3 9 ⟨[(1, (sI a1)), (2, (sI a2)), (3, (V.ptr 3 0 0)), (14, (enc_T_api_Base a0)), (15, (V.bool v1)), (16, (V.bool false)), (17, (V.bool false)), (18, (enc_T_api_Base a0)), (19, (V.bool v2)), (20, (V.bool (!v2))), (21, (V.bool (!v2))), (22, (V.bool (!v2)))], [(3, ⟨false, 4, [(enc_T_api_Base a0)]⟩)], 98⟩ rfl rfl rfl ?_
    refine bifE (c := (!v2)) (fun hc => ?_) fun hc => ?_
    · rw [hc]
      exact reg_end rfl
    · rw [hc]
      refine ra 1 10 ⟨[(1, (sI a1)), (2, (sI a2)), (3, (V.ptr 3 0 0)), (14, (enc_T_api_Base a0)), (15, (V.bool v1)), (16, (V.bool false)), (17, (V.bool false)), (18, (enc_T_api_Base a0)), (19, (V.bool v2)), (20, (V.bool false)), (21, (V.bool false)), (22, (V.bool false)), (23, (sI a1))], [(3, ⟨false, 4, [(enc_T_api_Base a0)]⟩)], 98⟩ rfl rfl rfl ?_
      refine Eq.trans (reg_pure (x := some ()) (w := fun _ => (I (a1.length : Int))) rfl rfl rfl rfl (p_len (e := I) rfl rfl rfl rfl rfl rfl Go.Proofs.Try.underlying28)) ?_
      refine Eq.trans some_bind ?_
      refine ba 3 14 ⟨[(1, (sI a1)), (2, (sI a2)), (3, (V.ptr 3 0 0)), (14, (enc_T_api_Base a0)), (15, (V.bool v1)), (16, (V.bool false)), (17, (V.bool false)), (18, (enc_T_api_Base a0)), (19, (V.bool v2)), (20, (V.bool false)), (21, (V.bool false)), (22, (V.bool false)), (23, (sI a1)), (24, (I (a1.length : Int))), (25, (V.bool (decide ((a1.length : Int) > 20)))), (26, (V.bool (decide ((a1.length : Int) > 20)))), (27, (V.bool (decide ((a1.length : Int) > 20))))], [(3, ⟨false, 4, [(enc_T_api_Base a0)]⟩)], 98⟩ rfl rfl rfl ?_
      refine bifE (c := (decide ((a1.length : Int) > 20))) (fun hc => ?_) fun hc => ?_
      · rw [hc]
        exact reg_end rfl
      · rw [hc]
        refine ra 1 15 ⟨[(1, (sI a1)), (2, (sI a2)), (3, (V.ptr 3 0 0)), (14, (enc_T_api_Base a0)), (15, (V.bool v1)), (16, (V.bool false)), (17, (V.bool false)), (18, (enc_T_api_Base a0)), (19, (V.bool v2)), (20, (V.bool false)), (21, (V.bool false)), (22, (V.bool false)), (23, (sI a1)), (24, (I (a1.length : Int))), (25, (V.bool false)), (26, (V.bool false)), (27, (V.bool false)), (28, (sI a2))], [(3, ⟨false, 4, [(enc_T_api_Base a0)]⟩)], 98⟩ rfl rfl rfl ?_
        refine Eq.trans (reg_pure (x := some ()) (w := fun _ => (I (a2.length : Int))) rfl rfl rfl rfl (p_len (e := I) rfl rfl rfl rfl rfl rfl Go.Proofs.Try.underlying28)) ?_
        refine Eq.trans some_bind ?_
        refine ba 3 19 ⟨[(1, (sI a1)), (2, (sI a2)), (3, (V.ptr 3 0 0)), (14, (enc_T_api_Base a0)), (15, (V.bool v1)), (16, (V.bool false)), (17, (V.bool false)), (18, (enc_T_api_Base a0)), (19, (V.bool v2)), (20, (V.bool false)), (21, (V.bool false)), (22, (V.bool false)), (23, (sI a1)), (24, (I (a1.length : Int))), (25, (V.bool false)), (26, (V.bool false)), (27, (V.bool false)), (28, (sI a2)), (29, (I (a2.length : Int))), (30, (V.bool (decide ((a2.length : Int) > 20)))), (31, (V.bool (decide ((a2.length : Int) > 20)))), (32, (V.bool (decide ((a2.length : Int) > 20))))], [(3, ⟨false, 4, [(enc_T_api_Base a0)]⟩)], 98⟩ rfl rfl rfl ?_
        refine bifE (c := (decide ((a2.length : Int) > 20))) (fun hc => ?_) fun hc => ?_
        · rw [hc]
          exact reg_end rfl
        · rw [hc]
          refine ra 2 21 ⟨[(1, (sI a1)), (2, (sI a2)), (3, (V.ptr 3 0 0)), (14, (enc_T_api_Base a0)), (15, (V.bool v1)), (16, (V.bool false)), (17, (V.bool false)), (18, (enc_T_api_Base a0)), (19, (V.bool v2)), (20, (V.bool false)), (21, (V.bool false)), (22, (V.bool false)), (23, (sI a1)), (24, (I (a1.length : Int))), (25, (V.bool false)), (26, (V.bool false)), (27, (V.bool false)), (28, (sI a2)), (29, (I (a2.length : Int))), (30, (V.bool false)), (31, (V.bool false)), (32, (V.bool false)), (33, (enc_T_api_Base a0)), (34, (sI a1))], [(3, ⟨false, 4, [(enc_T_api_Base a0)]⟩)], 98⟩ rfl rfl rfl ?_
          refine Eq.trans (reg_pure (x := (ref11_IsPart k a0 a1)) (w := fun v3 => (V.bool v3)) rfl rfl rfl rfl (p_call rfl rfl rfl rfl rfl (ref11_IsPart_ok k a0 a1) (.inl rfl))) ?_
          refine bindE (fun v3 => ?_)
          exact bind_end rfl
theorem f7r2 (k : Nat) (a0 : T_api_Base) (a1 : (List Int)) (a2 : (List Int)) : RE k f7a2 f7o2 false ⟨[(1, (sI a1)), (2, (sI a2)), (3, (V.ptr 3 0 0)), (37, (V.bool true))], [(3, ⟨false, 4, [(enc_T_api_Base a0)]⟩)], 98⟩ = ((law11_First k)).map (fun (o : Bool) => (⟨[(6, (V.bool o))], [], 98⟩ : St)) := by
  refine rg ?_
  refine Eq.trans (reg_pure (x := (law11_First k)) (w := fun v5 => (V.bool v5)) rfl rfl rfl rfl (p_call rfl rfl rfl rfl rfl (law11_First_ok k) (.inl rfl))) ?_
  refine bind_self (fun v5 => ?_)
  exact bind_end rfl
theorem f7r3 (k : Nat) (a0 : T_api_Base) (a1 : (List Int)) (a2 : (List Int)) : RE k f7a3 f7o3 false ⟨[(1, (sI a1)), (2, (sI a2)), (3, (V.ptr 3 0 0)), (37, (V.bool false))], [(3, ⟨false, 4, [(enc_T_api_Base a0)]⟩)], 98⟩ = (((dbd_Part k a0 a1).bind fun v7 => (some (v7.2, v7.1)))).map (fun (o : Int × T_api_Base) => (⟨[(1, (sI a1)), (2, (sI a2)), (3, (V.ptr 3 0 0)), (7, (V.ptr 7 0 0)), (8, (I o.1))], [(3, ⟨false, 4, [(enc_T_api_Base a0)]⟩), (7, ⟨false, 4, [(enc_T_api_Base o.2)]⟩)], 98⟩ : St)) := by
  refine rg ?_
  refine ra 2 2 ⟨[(1, (sI a1)), (2, (sI a2)), (3, (V.ptr 3 0 0)), (37, (V.bool false)), (40, (enc_T_api_Base a0)), (41, (sI a1))], [(3, ⟨false, 4, [(enc_T_api_Base a0)]⟩)], 98⟩ rfl rfl rfl ?_
  refine Eq.trans (reg_pure (x := (dbd_Part k a0 a1)) (w := fun v7 => (V.tup [(enc_T_api_Base v7.1), (I v7.2)])) rfl rfl rfl rfl (p_call rfl rfl rfl rfl rfl (dbd_Part_ok k a0 a1) (.inl rfl))) ?_
  refine bindE (fun v7 => ?_)
  exact bind_end rfl
theorem f7r4 (k : Nat) (a0 : T_api_Base) (a1 : (List Int)) (a2 : (List Int)) (o8 : Int × T_api_Base) : RE k f7a4 f7o4 false ⟨[(1, (sI a1)), (2, (sI a2)), (3, (V.ptr 3 0 0)), (7, (V.ptr 7 0 0)), (8, (I o8.1))], [(3, ⟨false, 4, [(enc_T_api_Base a0)]⟩), (7, ⟨false, 4, [(enc_T_api_Base o8.2)]⟩)], 98⟩ = some ⟨[(1, (sI a1)), (2, (sI a2)), (3, (V.ptr 3 0 0)), (7, (V.ptr 7 0 0)), (46, (V.bool (o8.1 != 0)))], [(3, ⟨false, 4, [(enc_T_api_Base a0)]⟩), (7, ⟨false, 4, [(enc_T_api_Base o8.2)]⟩)], 98⟩ :=
  rE rfl
theorem f7r5 (k : Nat) (a0 : T_api_Base) (a1 : (List Int)) (a2 : (List Int)) (o8 : Int × T_api_Base) : RE k f7a5 f7o5 false ⟨[(1, (sI a1)), (2, (sI a2)), (3, (V.ptr 3 0 0)), (7, (V.ptr 7 0 0)), (46, (V.bool true))], [(3, ⟨false, 4, [(enc_T_api_Base a0)]⟩), (7, ⟨false, 4, [(enc_T_api_Base o8.2)]⟩)], 98⟩ = some ⟨[(6, (V.bool false))], [], 98⟩ :=
  rE rfl
theorem f7r6 (k : Nat) (a0 : T_api_Base) (a1 : (List Int)) (a2 : (List Int)) (o8 : Int × T_api_Base) : RE k f7a6 f7o6 false ⟨[(1, (sI a1)), (2, (sI a2)), (3, (V.ptr 3 0 0)), (7, (V.ptr 7 0 0)), (46, (V.bool false))], [(3, ⟨false, 4, [(enc_T_api_Base a0)]⟩), (7, ⟨false, 4, [(enc_T_api_Base o8.2)]⟩)], 98⟩ = (((dbd_Part k o8.2 a2).bind fun v9 => (some (v9.2, v9.1)))).map (fun (o : Int × T_api_Base) => (⟨[(1, (sI a1)), (2, (sI a2)), (3, (V.ptr 3 0 0)), (7, (V.ptr 7 0 0)), (8, (I o.1)), (9, (V.ptr 9 0 0))], [(3, ⟨false, 4, [(enc_T_api_Base a0)]⟩), (7, ⟨false, 4, [(enc_T_api_Base o8.2)]⟩), (9, ⟨false, 4, [(enc_T_api_Base o.2)]⟩)], 98⟩ : St)) := by
  refine rg ?_
  refine ra 2 2 ⟨[(1, (sI a1)), (2, (sI a2)), (3, (V.ptr 3 0 0)), (7, (V.ptr 7 0 0)), (46, (V.bool false)), (48, (enc_T_api_Base o8.2)), (49, (sI a2))], [(3, ⟨false, 4, [(enc_T_api_Base a0)]⟩), (7, ⟨false, 4, [(enc_T_api_Base o8.2)]⟩)], 98⟩ rfl rfl rfl ?_
  refine Eq.trans (reg_pure (x := (dbd_Part k o8.2 a2)) (w := fun v9 => (V.tup [(enc_T_api_Base v9.1), (I v9.2)])) rfl rfl rfl rfl (p_call rfl rfl rfl rfl rfl (dbd_Part_ok k o8.2 a2) (.inl rfl))) ?_
  refine bindE (fun v9 => ?_)
  exact bind_end rfl
theorem f7r7 (k : Nat) (a0 : T_api_Base) (a1 : (List Int)) (a2 : (List Int)) (o8 : Int × T_api_Base) (o10 : Int × T_api_Base) : RE k f7a7 f7o7 false ⟨[(1, (sI a1)), (2, (sI a2)), (3, (V.ptr 3 0 0)), (7, (V.ptr 7 0 0)), (8, (I o10.1)), (9, (V.ptr 9 0 0))], [(3, ⟨false, 4, [(enc_T_api_Base a0)]⟩), (7, ⟨false, 4, [(enc_T_api_Base o8.2)]⟩), (9, ⟨false, 4, [(enc_T_api_Base o10.2)]⟩)], 98⟩ = (((ref11_IsPart k o8.2 a2).bind fun v11 => (some ((!v11))))).map (fun (o : Bool) => (⟨[(1, (sI a1)), (2, (sI a2)), (3, (V.ptr 3 0 0)), (8, (I o10.1)), (9, (V.ptr 9 0 0)), (56, (V.bool o))], [(3, ⟨false, 4, [(enc_T_api_Base a0)]⟩), (9, ⟨false, 4, [(enc_T_api_Base o10.2)]⟩)], 98⟩ : St)) := by
  refine rg ?_
  refine ra 2 2 ⟨[(1, (sI a1)), (2, (sI a2)), (3, (V.ptr 3 0 0)), (7, (V.ptr 7 0 0)), (8, (I o10.1)), (9, (V.ptr 9 0 0)), (53, (enc_T_api_Base o8.2)), (54, (sI a2))], [(3, ⟨false, 4, [(enc_T_api_Base a0)]⟩), (7, ⟨false, 4, [(enc_T_api_Base o8.2)]⟩), (9, ⟨false, 4, [(enc_T_api_Base o10.2)]⟩)], 98⟩ rfl rfl rfl ?_
  refine Eq.trans (reg_pure (x := (ref11_IsPart k o8.2 a2)) (w := fun v11 => (V.bool v11)) rfl rfl rfl rfl (p_call rfl rfl rfl rfl rfl (ref11_IsPart_ok k o8.2 a2) (.inl rfl))) ?_
  refine bindE (fun v11 => ?_)
  exact bind_end rfl
theorem f7r8 (k : Nat) (a0 : T_api_Base) (a1 : (List Int)) (a2 : (List Int)) (o10 : Int × T_api_Base) : RE k f7a8 f7o8 false ⟨[(1, (sI a1)), (2, (sI a2)), (3, (V.ptr 3 0 0)), (8, (I o10.1)), (9, (V.ptr 9 0 0)), (56, (V.bool true))], [(3, ⟨false, 4, [(enc_T_api_Base a0)]⟩), (9, ⟨false, 4, [(enc_T_api_Base o10.2)]⟩)], 98⟩ = ((bif (o10.1 == 2) then (law11_First k) else (some (false)))).map (fun (o : Bool) => (⟨[(6, (V.bool o))], [], 98⟩ : St)) := by
  refine rg ?_
  refine ra 3 3 ⟨[(1, (sI a1)), (2, (sI a2)), (3, (V.ptr 3 0 0)), (8, (I o10.1)), (9, (V.ptr 9 0 0)), (56, (V.bool true)), (57, (I o10.1)), (58, (V.bool (o10.1 == 2))), (59, (V.bool (o10.1 == 2)))], [(3, ⟨false, 4, [(enc_T_api_Base a0)]⟩), (9, ⟨false, 4, [(enc_T_api_Base o10.2)]⟩)], 98⟩ rfl rfl rfl ?_
  refine bifE (c := (o10.1 == 2)) (fun hc => ?_) fun hc => ?_
  · rw [hc]
    refine Eq.trans (reg_pure (x := (law11_First k)) (w := fun v13 => (V.bool v13)) rfl rfl rfl rfl (p_call rfl rfl rfl rfl rfl (law11_First_ok k) (.inl rfl))) ?_
    refine bind_self (fun v13 => ?_)
    exact bind_end rfl
  · rw [hc]
    exact reg_end rfl
theorem f7r9 (k : Nat) (a0 : T_api_Base) (a1 : (List Int)) (a2 : (List Int)) (o10 : Int × T_api_Base) : RE k f7a9 f7o9 false ⟨[(1, (sI a1)), (2, (sI a2)), (3, (V.ptr 3 0 0)), (8, (I o10.1)), (9, (V.ptr 9 0 0)), (56, (V.bool false))], [(3, ⟨false, 4, [(enc_T_api_Base a0)]⟩), (9, ⟨false, 4, [(enc_T_api_Base o10.2)]⟩)], 98⟩ = some ⟨[(1, (sI a1)), (2, (sI a2)), (3, (V.ptr 3 0 0)), (8, (I o10.1)), (9, (V.ptr 9 0 0)), (10, (V.sl 1 1 (List.map I ([] : List Int))))], [(3, ⟨false, 4, [(enc_T_api_Base a0)]⟩), (9, ⟨false, 4, [(enc_T_api_Base o10.2)]⟩)], 98⟩ :=
  rE rfl
theorem f7r10 (k : Nat) (a0 : T_api_Base) (a1 : (List Int)) (a2 : (List Int)) (o10 : Int × T_api_Base) : RE k f7a10 f7o10 false ⟨[(1, (sI a1)), (2, (sI a2)), (3, (V.ptr 3 0 0)), (8, (I o10.1)), (9, (V.ptr 9 0 0)), (10, (V.sl 1 1 (List.map I ([] : List Int))))], [(3, ⟨false, 4, [(enc_T_api_Base a0)]⟩), (9, ⟨false, 4, [(enc_T_api_Base o10.2)]⟩)], 98⟩ = some ⟨[(1, (sI a1)), (2, (sI a2)), (3, (V.ptr 3 0 0)), (8, (I o10.1)), (9, (V.ptr 9 0 0)), (10, (V.sl 1 1 (List.map I ([] : List Int)))), (11, (I 0))], [(3, ⟨false, 4, [(enc_T_api_Base a0)]⟩), (9, ⟨false, 4, [(enc_T_api_Base o10.2)]⟩)], 98⟩ :=
  rE rfl
theorem f7r11 (k : Nat) (a0 : T_api_Base) (a1 : (List Int)) (a2 : (List Int)) (o10 : Int × T_api_Base) (x19 : (List Int)) (x20 : Int) : RE k f7a11 f7o11 false ⟨[(1, (sI a1)), (2, (sI a2)), (3, (V.ptr 3 0 0)), (8, (I o10.1)), (9, (V.ptr 9 0 0)), (10, (V.sl 1 1 (List.map I x19))), (11, (I x20))], [(3, ⟨false, 4, [(enc_T_api_Base a0)]⟩), (9, ⟨false, 4, [(enc_T_api_Base o10.2)]⟩)], 98⟩ = some ⟨[(1, (sI a1)), (2, (sI a2)), (3, (V.ptr 3 0 0)), (8, (I o10.1)), (9, (V.ptr 9 0 0)), (10, (V.sl 1 1 (List.map I x19))), (11, (I x20)), (65, (V.bool (decide (x20 < (a2.length : Int)))))], [(3, ⟨false, 4, [(enc_T_api_Base a0)]⟩), (9, ⟨false, 4, [(enc_T_api_Base o10.2)]⟩)], 98⟩ := by
  refine rg ?_
  refine ra 2 2 ⟨[(1, (sI a1)), (2, (sI a2)), (3, (V.ptr 3 0 0)), (8, (I o10.1)), (9, (V.ptr 9 0 0)), (10, (V.sl 1 1 (List.map I x19))), (11, (I x20)), (62, (I x20)), (63, (sI a2))], [(3, ⟨false, 4, [(enc_T_api_Base a0)]⟩), (9, ⟨false, 4, [(enc_T_api_Base o10.2)]⟩)], 98⟩ rfl rfl rfl ?_
  refine Eq.trans (reg_pure (x := some ()) (w := fun _ => (I (a2.length : Int))) rfl rfl rfl rfl (p_len (e := I) rfl rfl rfl rfl rfl rfl Go.Proofs.Try.underlying28)) ?_
  refine Eq.trans some_bind ?_
  exact bind_end rfl
theorem f7r13 (k : Nat) (a0 : T_api_Base) (a1 : (List Int)) (a2 : (List Int)) (o10 : Int × T_api_Base) (x19 : (List Int)) (x20 : Int) : RE k f7a13 f7o13 false ⟨[(1, (sI a1)), (2, (sI a2)), (3, (V.ptr 3 0 0)), (8, (I o10.1)), (9, (V.ptr 9 0 0)), (10, (V.sl 1 1 (List.map I x19))), (11, (I x20)), (65, (V.bool true))], [(3, ⟨false, 4, [(enc_T_api_Base a0)]⟩), (9, ⟨false, 4, [(enc_T_api_Base o10.2)]⟩)], 98⟩ = (((idx a2 x20).bind fun v21 => ((idx a1 v21).bind fun v22 => (app x19 ([v22] : List Int))))).map (fun (o : (List Int)) => (⟨[(1, (sI a1)), (2, (sI a2)), (3, (V.ptr 3 0 0)), (8, (I o10.1)), (9, (V.ptr 9 0 0)), (10, (V.sl 1 1 (List.map I o))), (11, (I x20))], [(3, ⟨false, 4, [(enc_T_api_Base a0)]⟩), (9, ⟨false, 4, [(enc_T_api_Base o10.2)]⟩)], 98⟩ : St)) := by
  refine rg ?_
  refine ra 4 4 ⟨[(1, (sI a1)), (2, (sI a2)), (3, (V.ptr 3 0 0)), (8, (I o10.1)), (9, (V.ptr 9 0 0)), (10, (sI x19)), (11, (I x20)), (65, (V.bool true)), (68, (V.sl 1 1 (List.map I x19))), (69, (sI a1)), (70, (sI a2)), (71, (I x20))], [(3, ⟨false, 4, [(enc_T_api_Base a0)]⟩), (9, ⟨false, 4, [(enc_T_api_Base o10.2)]⟩)], 98⟩ rfl rfl rfl ?_
  refine Eq.trans (reg_pure (x := (idx a2 x20)) (w := fun v21 => (V.pro (I v21))) rfl rfl rfl rfl (p_index (e := I) rfl rfl rfl Go.Proofs.Try.underlying28 rfl (by decide))) ?_
  refine bindE (fun v21 => ?_)
  refine ba 1 6 ⟨[(1, (sI a1)), (2, (sI a2)), (3, (V.ptr 3 0 0)), (8, (I o10.1)), (9, (V.ptr 9 0 0)), (10, (sI x19)), (11, (I x20)), (65, (V.bool true)), (68, (V.sl 1 1 (List.map I x19))), (69, (sI a1)), (70, (sI a2)), (71, (I x20)), (72, (V.pro (I v21))), (73, (I v21))], [(3, ⟨false, 4, [(enc_T_api_Base a0)]⟩), (9, ⟨false, 4, [(enc_T_api_Base o10.2)]⟩)], 98⟩ rfl rfl rfl ?_
  refine Eq.trans (reg_pure (x := (idx a1 v21)) (w := fun v22 => (V.pro (I v22))) rfl rfl rfl rfl (p_index (e := I) rfl rfl rfl Go.Proofs.Try.underlying28 rfl (by decide))) ?_
  refine bindE (fun v22 => ?_)
  refine ba 2 9 ⟨[(1, (sI a1)), (2, (sI a2)), (3, (V.ptr 3 0 0)), (8, (I o10.1)), (9, (V.ptr 9 0 0)), (10, (sI x19)), (11, (I x20)), (65, (V.bool true)), (68, (V.sl 1 1 (List.map I x19))), (69, (sI a1)), (70, (sI a2)), (71, (I x20)), (72, (V.pro (I v21))), (73, (I v21)), (74, (V.pro (I v22))), (75, (I v22)), (76, (sI (([v22] : List Int))))], [(3, ⟨false, 4, [(enc_T_api_Base a0)]⟩), (9, ⟨false, 4, [(enc_T_api_Base o10.2)]⟩)], 98⟩ rfl rfl rfl ?_
  refine Eq.trans (reg_eff (x := (app x19 ([v22] : List Int))) (w := fun v23 => ((V.sl 1 1 (List.map I v23)), _)) rfl rfl rfl rfl (p_app (e := I) rfl rfl rfl rfl rfl rfl rfl rfl rfl rfl (by decide))) ?_
  refine bind_self (fun v23 => ?_)
  exact bind_end rfl
theorem f7r12 (k : Nat) (a0 : T_api_Base) (a1 : (List Int)) (a2 : (List Int)) (o10 : Int × T_api_Base) (x20 : Int) (o24 : (List Int)) : RE k f7a12 f7o12 false ⟨[(1, (sI a1)), (2, (sI a2)), (3, (V.ptr 3 0 0)), (8, (I o10.1)), (9, (V.ptr 9 0 0)), (10, (V.sl 1 1 (List.map I o24))), (11, (I x20))], [(3, ⟨false, 4, [(enc_T_api_Base a0)]⟩), (9, ⟨false, 4, [(enc_T_api_Base o10.2)]⟩)], 98⟩ = some ⟨[(1, (sI a1)), (2, (sI a2)), (3, (V.ptr 3 0 0)), (8, (I o10.1)), (9, (V.ptr 9 0 0)), (10, (V.sl 1 1 (List.map I o24))), (11, (I (Go.IntKind.wrap .i64 (x20 + 1))))], [(3, ⟨false, 4, [(enc_T_api_Base a0)]⟩), (9, ⟨false, 4, [(enc_T_api_Base o10.2)]⟩)], 98⟩ :=
  rE rfl
theorem law11_DbdTwice_L1_ok (k : Nat) (a0 : T_api_Base) (a1 : (List Int)) (a2 : (List Int)) (o10 : Int × T_api_Base)  (K0 : (List Int) → Int → Option Bool) (Kst : X × St → Option (V × List V)) (hK0 : ∀ (y0 : (List Int)) (y1 : Int), Kst (X.exit 0, ⟨[(1, (sI a1)), (2, (sI a2)), (3, (V.ptr 3 0 0)), (8, (I o10.1)), (9, (V.ptr 9 0 0)), (10, (V.sl 1 1 (List.map I y0))), (11, (I y1)), (65, (V.bool false))], [(3, ⟨false, 4, [(enc_T_api_Base a0)]⟩), (9, ⟨false, 4, [(enc_T_api_Base o10.2)]⟩)], 98⟩) = (K0 y0 y1).map law11_DbdTwice_fin) (hret : ∀ s, Kst (X.ret, s) = endK prog 98 [(enc_T_api_Base a0), (sI a1), (sI a2)] [] [.tmp 6] (X.ret, s)) :
    ∀ (m : Nat) (x19 : (List Int)) (x20 : Int), (iter (exec prog (EV k) f7n k f7b0) m ⟨[(1, (sI a1)), (2, (sI a2)), (3, (V.ptr 3 0 0)), (8, (I o10.1)), (9, (V.ptr 9 0 0)), (10, (V.sl 1 1 (List.map I x19))), (11, (I x20))], [(3, ⟨false, 4, [(enc_T_api_Base a0)]⟩), (9, ⟨false, 4, [(enc_T_api_Base o10.2)]⟩)], 98⟩).bind Kst = (law11_DbdTwice_L1 a1 a2 K0 m x19 x20).map law11_DbdTwice_fin := by
  intro m
  induction m with
  | zero => intros; rfl
  | succ m ih =>
    intro x19 x20
    unfold law11_DbdTwice_L1
    refine Eq.trans k_round ?_
    refine Eq.trans k_assoc ?_
    refine Eq.trans (k_region0 rfl (f7r11 k a0 a1 a2 o10 x19 x20)) ?_
    refine Eq.trans (k_cond (t := (decide (x20 < (a2.length : Int)))) rfl) ?_
    refine bifE2 (fun hc => ?_) fun hc => ?_
    · rw [hc]
      refine Eq.trans k_skip ?_
      refine Eq.trans k_block ?_
      refine Eq.trans (k_lregion rfl (f7r13 k a0 a1 a2 o10 x19 x20)) ?_
      refine bindE (fun o24 => ?_)
      refine Eq.trans blk_normal ?_
      refine Eq.trans (k_lregion0 rfl (f7r12 k a0 a1 a2 o10 x20 o24)) ?_
      refine Eq.trans loop_normal ?_
      exact ih o24 (Go.IntKind.wrap .i64 (x20 + 1))
    · rw [hc]
      refine Eq.trans k_exit ?_
      refine Eq.trans loop_exit ?_
      exact hK0 x19 x20
theorem f7r14 (k : Nat) (a0 : T_api_Base) (a1 : (List Int)) (a2 : (List Int)) (o10 : Int × T_api_Base) (y25 : (List Int)) (y26 : Int) : RE k f7a14 f7o14 false ⟨[(1, (sI a1)), (2, (sI a2)), (3, (V.ptr 3 0 0)), (8, (I o10.1)), (9, (V.ptr 9 0 0)), (10, (V.sl 1 1 (List.map I y25))), (11, (I y26)), (65, (V.bool false))], [(3, ⟨false, 4, [(enc_T_api_Base a0)]⟩), (9, ⟨false, 4, [(enc_T_api_Base o10.2)]⟩)], 98⟩ = (((dbd_Part k a0 y25).bind fun v27 => (some (v27.2, v27.1)))).map (fun (o : Int × T_api_Base) => (⟨[(8, (I o10.1)), (9, (V.ptr 9 0 0)), (12, (V.ptr 12 0 0)), (13, (I o.1))], [(9, ⟨false, 4, [(enc_T_api_Base o10.2)]⟩), (12, ⟨false, 4, [(enc_T_api_Base o.2)]⟩)], 98⟩ : St)) := by
  refine rg ?_
  refine ra 2 2 ⟨[(1, (sI a1)), (2, (sI a2)), (3, (V.ptr 3 0 0)), (8, (I o10.1)), (9, (V.ptr 9 0 0)), (10, (V.sl 1 1 (List.map I y25))), (11, (I y26)), (65, (V.bool false)), (79, (enc_T_api_Base a0)), (80, (sI y25))], [(3, ⟨false, 4, [(enc_T_api_Base a0)]⟩), (9, ⟨false, 4, [(enc_T_api_Base o10.2)]⟩)], 98⟩ rfl rfl rfl ?_
  refine Eq.trans (reg_pure (x := (dbd_Part k a0 y25)) (w := fun v27 => (V.tup [(enc_T_api_Base v27.1), (I v27.2)])) rfl rfl rfl rfl (p_call rfl rfl rfl rfl rfl (dbd_Part_ok k a0 y25) (.inl rfl))) ?_
  refine bindE (fun v27 => ?_)
  exact bind_end rfl
theorem f7r15 (k : Nat) (o10 : Int × T_api_Base) (o28 : Int × T_api_Base) : RE k f7a15 f7o15 false ⟨[(8, (I o10.1)), (9, (V.ptr 9 0 0)), (12, (V.ptr 12 0 0)), (13, (I o28.1))], [(9, ⟨false, 4, [(enc_T_api_Base o10.2)]⟩), (12, ⟨false, 4, [(enc_T_api_Base o28.2)]⟩)], 98⟩ = ((bif (o10.1 == 0) then (bif (o28.1 == 0) then ((ref11_Same k o10.2 o28.2).bind fun v29 => (bif v29 then (law11_First k) else (some (false)))) else (some (false))) else (some (false)))).map (fun (o : Bool) => (⟨[(6, (V.bool o))], [], 98⟩ : St)) := by
  refine rg ?_
  refine ra 3 3 ⟨[(8, (I o10.1)), (9, (V.ptr 9 0 0)), (12, (V.ptr 12 0 0)), (13, (I o28.1)), (84, (I o10.1)), (85, (V.bool (o10.1 == 0))), (86, (V.bool (o10.1 == 0)))], [(9, ⟨false, 4, [(enc_T_api_Base o10.2)]⟩), (12, ⟨false, 4, [(enc_T_api_Base o28.2)]⟩)], 98⟩ rfl rfl rfl ?_
  refine bifE (c := (o10.1 == 0)) (fun hc => ?_) fun hc => ?_
  · rw [hc]
    refine ra 4 7 ⟨[(8, (I o10.1)), (9, (V.ptr 9 0 0)), (12, (V.ptr 12 0 0)), (13, (I o28.1)), (84, (I o10.1)), (85, (V.bool true)), (86, (V.bool true)), (87, (I o28.1)), (88, (V.bool (o28.1 == 0))), (89, (V.bool (o28.1 == 0))), (90, (V.bool (o28.1 == 0)))], [(9, ⟨false, 4, [(enc_T_api_Base o10.2)]⟩), (12, ⟨false, 4, [(enc_T_api_Base o28.2)]⟩)], 98⟩ rfl rfl rfl ?_
    refine bifE (c := (o28.1 == 0)) (fun hc => ?_) fun hc => ?_
    · rw [hc]
      refine ra 2 9 ⟨[(8, (I o10.1)), (9, (V.ptr 9 0 0)), (12, (V.ptr 12 0 0)), (13, (I o28.1)), (84, (I o10.1)), (85, (V.bool true)), (86, (V.bool true)), (87, (I o28.1)), (88, (V.bool true)), (89, (V.bool true)), (90, (V.bool true)), (91, (enc_T_api_Base o10.2)), (92, (enc_T_api_Base o28.2))], [(9, ⟨false, 4, [(enc_T_api_Base o10.2)]⟩), (12, ⟨false, 4, [(enc_T_api_Base o28.2)]⟩)], 98⟩ rfl rfl rfl ?_
      refine Eq.trans (reg_pure (x := (ref11_Same k o10.2 o28.2)) (w := fun v29 => (V.bool v29)) rfl rfl rfl rfl (p_call rfl rfl rfl rfl rfl (ref11_Same_ok k o10.2 o28.2) (.inl rfl))) ?_
      refine bindE (fun v29 => ?_)
      refine ba 2 12 ⟨[(8, (I o10.1)), (9, (V.ptr 9 0 0)), (12, (V.ptr 12 0 0)), (13, (I o28.1)), (84, (I o10.1)), (85, (V.bool true)), (86, (V.bool true)), (87, (I o28.1)), (88, (V.bool true)), (89, (V.bool true)), (90, (V.bool true)), (91, (enc_T_api_Base o10.2)), (92, (enc_T_api_Base o28.2)), (93, (V.bool v29)), (94, (V.bool v29)), (95, (V.bool v29))], [(9, ⟨false, 4, [(enc_T_api_Base o10.2)]⟩), (12, ⟨false, 4, [(enc_T_api_Base o28.2)]⟩)], 98⟩ rfl rfl rfl ?_
      refine bifE (c := v29) (fun hc => ?_) fun hc => ?_
      · rw [hc]
        refine Eq.trans (reg_pure (x := (law11_First k)) (w := fun v30 => (V.bool v30)) rfl rfl rfl rfl (p_call rfl rfl rfl rfl rfl (law11_First_ok k) (.inl rfl))) ?_
        refine bind_self (fun v30 => ?_)
        exact bind_end rfl
      · rw [hc]
        exact reg_end rfl
    · rw [hc]
      exact reg_end rfl
  · rw [hc]
    exact reg_end rfl
theorem law11_DbdTwice_ok (k : Nat) (a0 : T_api_Base) (a1 : (List Int)) (a2 : (List Int)) : EV k 7 [(enc_T_api_Base a0), (sI a1), (sI a2)] = (law11_DbdTwice k a0 a1 a2).map law11_DbdTwice_fin := by
  cases k with
  | zero => rfl
  | succ k =>
    unfold law11_DbdTwice
    refine Eq.trans (evF_succ (c := f7c) (N := 98) (regs := f7n) rfl Go.Proofs.Try.func7 rfl (by decide) rfl rfl rfl) ?_
    refine Eq.trans (k_region0 rfl (f7r0 k a0 a1 a2)) ?_
    refine Eq.trans k_assoc ?_
    refine Eq.trans (k_region rfl (f7r1 k a0 a1 a2)) ?_
    refine bindE (fun o4 => ?_)
    refine Eq.trans (k_cond (t := o4) rfl) ?_
    refine bifE2 (fun hc => ?_) fun hc => ?_
    · rw [hc]
      refine Eq.trans k_assoc ?_
      refine Eq.trans (k_region rfl (f7r2 k a0 a1 a2)) ?_
      refine bindE (fun o6 => ?_)
      refine Eq.trans k_ret ?_
      rfl
    · rw [hc]
      refine Eq.trans k_skip ?_
      refine Eq.trans (k_region rfl (f7r3 k a0 a1 a2)) ?_
      refine bindE (fun o8 => ?_)
      refine Eq.trans k_assoc ?_
      refine Eq.trans (k_region0 rfl (f7r4 k a0 a1 a2 o8)) ?_
      refine Eq.trans (k_cond (t := (o8.1 != 0)) rfl) ?_
      refine bifE2 (fun hc => ?_) fun hc => ?_
      · rw [hc]
        refine Eq.trans k_assoc ?_
        refine Eq.trans (k_region0 rfl (f7r5 k a0 a1 a2 o8)) ?_
        refine Eq.trans k_ret ?_
        rfl
      · rw [hc]
        refine Eq.trans k_skip ?_
        refine Eq.trans (k_region rfl (f7r6 k a0 a1 a2 o8)) ?_
        refine bindE (fun o10 => ?_)
        refine Eq.trans k_assoc ?_
        refine Eq.trans (k_region rfl (f7r7 k a0 a1 a2 o8 o10)) ?_
        refine bindE (fun o12 => ?_)
        refine Eq.trans (k_cond (t := o12) rfl) ?_
        refine bifE2 (fun hc => ?_) fun hc => ?_
        · rw [hc]
          refine Eq.trans k_assoc ?_
          refine Eq.trans (k_region rfl (f7r8 k a0 a1 a2 o10)) ?_
          refine bindE (fun o14 => ?_)
          refine Eq.trans k_ret ?_
          rfl
        · rw [hc]
          refine Eq.trans k_skip ?_
          refine Eq.trans (k_region0 rfl (f7r9 k a0 a1 a2 o10)) ?_
          refine Eq.trans k_assoc ?_
          refine Eq.trans (k_region0 rfl (f7r10 k a0 a1 a2 o10)) ?_
          refine Eq.trans k_block ?_
          refine Eq.trans k_loop ?_
          refine law11_DbdTwice_L1_ok k a0 a1 a2 o10 _ _ ?h_law11_DbdTwice_L1_0 ?hr_law11_DbdTwice_L1 k ([] : List Int) 0
          · intro y25 y26
            refine Eq.trans blk_exit ?_
            refine Eq.trans (k_region rfl (f7r14 k a0 a1 a2 o10 y25 y26)) ?_
            refine bindE (fun o28 => ?_)
            refine Eq.trans (k_region rfl (f7r15 k o10 o28)) ?_
            refine bindE (fun o31 => ?_)
            refine Eq.trans k_lret ?_
            rfl
          · intro s; exact rfl
end
end Go.AE
