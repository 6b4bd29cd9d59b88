/- The program, function by function: the evaluator comes to the typed functions. Conditions: none. -/
import Derived.Test.YtgideolbpeidmaaA2
import Derived.KernelRfl
import Derived.Test.YtgideolbpeidmaaProg
import Derived.Test.YtgideolbpeidmaaB1
import Derived.Test.YtgideolbpeidmaaE2
namespace Go.AE
open Go.Proofs.Try Go.Sh
set_option linter.unusedSimpArgs false
set_option linter.unusedVariables false
set_option maxRecDepth 100000
set_option maxHeartbeats 4000000
noncomputable section
theorem f25r12 (k : Nat) (a0 : T_api_Base) (a1 : T_api_Base) (x14 : Int) (o17 : T_api_Type × T_api_Type) (x22 : Int) : RE k f25a12 f25o12 true ⟨[(2, (V.ptr 2 0 0)), (3, (V.ptr 3 0 0)), (5, (I x14)), (6, (V.ptr 6 0 0)), (7, (V.ptr 7 0 0)), (8, (I x22)), (117, (V.bool true))], [(2, ⟨false, 4, [(enc_T_api_Base a0)]⟩), (3, ⟨false, 4, [(enc_T_api_Base a1)]⟩), (6, ⟨false, 8, [(enc_T_api_Type o17.1)]⟩), (7, ⟨false, 8, [(enc_T_api_Type o17.2)]⟩)], 149⟩ = (((idx o17.1.fFields x22).bind fun v23 => ((idx o17.2.fFields x22).bind fun v24 => (some ((!(v23.fName == v24.fName && (v23.fAt == v24.fAt && (v23.fBytes == v24.fBytes && true))))))))).map (fun (o : Bool) => (⟨[(2, (V.ptr 2 0 0)), (3, (V.ptr 3 0 0)), (5, (I x14)), (6, (V.ptr 6 0 0)), (7, (V.ptr 7 0 0)), (8, (I x22)), (130, (V.bool o))], [(2, ⟨false, 4, [(enc_T_api_Base a0)]⟩), (3, ⟨false, 4, [(enc_T_api_Base a1)]⟩), (6, ⟨false, 8, [(enc_T_api_Type o17.1)]⟩), (7, ⟨false, 8, [(enc_T_api_Type o17.2)]⟩)], 149⟩ : St)) := by
  refine Eq.trans (regionE_regp (p := 11) (dk := true) (t := [(2, (V.ptr 2 0 0)), (3, (V.ptr 3 0 0)), (5, (I x14)), (6, (V.ptr 6 0 0)), (7, (V.ptr 7 0 0)), (8, (I x22)), (117, (V.bool true))]) (σ := [(2, ⟨false, 4, [(enc_T_api_Base a0)]⟩), (3, ⟨false, 4, [(enc_T_api_Base a1)]⟩), (6, ⟨false, 8, [(enc_T_api_Type o17.1)]⟩), (7, ⟨false, 8, [(enc_T_api_Type o17.2)]⟩)]) (n := 149) (by decide) (by decide) rfl) ?_
  refine Eq.trans (regp_adv (m := 3) (j := 3) (t' := [(2, (V.ptr 2 0 0)), (3, (V.ptr 3 0 0)), (5, (I x14)), (6, (V.ptr 6 0 0)), (7, (V.ptr 7 0 0)), (8, (I x22)), (117, (V.bool true)), (120, (V.ptr 6 0 4)), (121, (sField (o17.1.fFields))), (122, (I x22))]) rfl rfl rfl) ?_
  refine Eq.trans (regp_pure (x := (idx o17.1.fFields x22)) (w := fun v23 => (V.pro (enc_T_api_Field v23))) rfl rfl rfl rfl rfl (p_index (e := enc_T_api_Field) rfl rfl rfl Go.Proofs.Try.underlying53 rfl (by decide))) ?_
  refine bindE (fun v23 => ?_)
  refine Eq.trans (putp_adv (m := 4) (j := 8) (t' := [(2, (V.ptr 2 0 0)), (3, (V.ptr 3 0 0)), (5, (I x14)), (6, (V.ptr 6 0 0)), (7, (V.ptr 7 0 0)), (8, (I x22)), (117, (V.bool true)), (120, (V.ptr 6 0 4)), (121, (sField (o17.1.fFields))), (122, (I x22)), (123, (V.pro (enc_T_api_Field v23))), (124, (enc_T_api_Field v23)), (125, (V.ptr 7 0 4)), (126, (sField (o17.2.fFields))), (127, (I x22))]) rfl rfl rfl) ?_
  refine Eq.trans (regp_pure (x := (idx o17.2.fFields x22)) (w := fun v24 => (V.pro (enc_T_api_Field v24))) rfl rfl rfl rfl rfl (p_index (e := enc_T_api_Field) rfl rfl rfl Go.Proofs.Try.underlying53 rfl (by decide))) ?_
  refine bindE (fun v24 => ?_)
  refine Eq.trans (putp_adv (m := 1) (j := 10) (t' := [(2, (V.ptr 2 0 0)), (3, (V.ptr 3 0 0)), (5, (I x14)), (6, (V.ptr 6 0 0)), (7, (V.ptr 7 0 0)), (8, (I x22)), (117, (V.bool true)), (120, (V.ptr 6 0 4)), (121, (sField (o17.1.fFields))), (122, (I x22)), (123, (V.pro (enc_T_api_Field v23))), (124, (enc_T_api_Field v23)), (125, (V.ptr 7 0 4)), (126, (sField (o17.2.fFields))), (127, (I x22)), (128, (V.pro (enc_T_api_Field v24))), (129, (enc_T_api_Field v24))]) rfl rfl rfl) ?_
  refine Eq.trans (regp_pure (x := some ()) (w := fun _ => (V.bool (!(v23.fName == v24.fName && (v23.fAt == v24.fAt && (v23.fBytes == v24.fBytes && true)))))) rfl rfl rfl rfl rfl (p_neS rfl rfl rfl Go.Proofs.Try.underlying65 sih65 eqg65 rfl)) ?_
  refine Eq.trans some_bind ?_
  exact regp_end rfl
theorem f25r13 (k : Nat) (a0 : T_api_Base) (a1 : T_api_Base) (x14 : Int) (o17 : T_api_Type × T_api_Type) (x22 : Int) : RE k f25a13 f25o13 false ⟨[(2, (V.ptr 2 0 0)), (3, (V.ptr 3 0 0)), (5, (I x14)), (6, (V.ptr 6 0 0)), (7, (V.ptr 7 0 0)), (8, (I x22)), (130, (V.bool true))], [(2, ⟨false, 4, [(enc_T_api_Base a0)]⟩), (3, ⟨false, 4, [(enc_T_api_Base a1)]⟩), (6, ⟨false, 8, [(enc_T_api_Type o17.1)]⟩), (7, ⟨false, 8, [(enc_T_api_Type o17.2)]⟩)], 149⟩ = some ⟨[(4, (V.bool false))], [], 149⟩ :=
  rE rfl
theorem f25r11 (k : Nat) (a0 : T_api_Base) (a1 : T_api_Base) (x14 : Int) (o17 : T_api_Type × T_api_Type) (x22 : Int) : RE k f25a11 f25o11 false ⟨[(2, (V.ptr 2 0 0)), (3, (V.ptr 3 0 0)), (5, (I x14)), (6, (V.ptr 6 0 0)), (7, (V.ptr 7 0 0)), (8, (I x22)), (130, (V.bool false))], [(2, ⟨false, 4, [(enc_T_api_Base a0)]⟩), (3, ⟨false, 4, [(enc_T_api_Base a1)]⟩), (6, ⟨false, 8, [(enc_T_api_Type o17.1)]⟩), (7, ⟨false, 8, [(enc_T_api_Type o17.2)]⟩)], 149⟩ = some ⟨[(2, (V.ptr 2 0 0)), (3, (V.ptr 3 0 0)), (5, (I x14)), (6, (V.ptr 6 0 0)), (7, (V.ptr 7 0 0)), (8, (I (Go.IntKind.wrap .i64 (x22 + 1))))], [(2, ⟨false, 4, [(enc_T_api_Base a0)]⟩), (3, ⟨false, 4, [(enc_T_api_Base a1)]⟩), (6, ⟨false, 8, [(enc_T_api_Type o17.1)]⟩), (7, ⟨false, 8, [(enc_T_api_Type o17.2)]⟩)], 149⟩ :=
  rE rfl
theorem ref11_Same_L2_ok (k : Nat) (a0 : T_api_Base) (a1 : T_api_Base) (x14 : Int) (o17 : T_api_Type × T_api_Type)  (K0 : Int → Option Bool) (Kst : X × St → Option (V × List V)) (hK0 : ∀ (y0 : Int), Kst (X.exit 2, ⟨[(2, (V.ptr 2 0 0)), (3, (V.ptr 3 0 0)), (5, (I x14)), (6, (V.ptr 6 0 0)), (7, (V.ptr 7 0 0)), (8, (I y0)), (117, (V.bool false))], [(2, ⟨false, 4, [(enc_T_api_Base a0)]⟩), (3, ⟨false, 4, [(enc_T_api_Base a1)]⟩), (6, ⟨false, 8, [(enc_T_api_Type o17.1)]⟩), (7, ⟨false, 8, [(enc_T_api_Type o17.2)]⟩)], 149⟩) = (K0 y0).map ref11_Same_fin) (hret : ∀ s, Kst (X.ret, s) = endK prog 149 [(enc_T_api_Base a0), (enc_T_api_Base a1)] [] [.tmp 4] (X.ret, s)) :
    ∀ (m : Nat) (x22 : Int), (iter (exec prog (EV k) f25n k f25b0) m ⟨[(2, (V.ptr 2 0 0)), (3, (V.ptr 3 0 0)), (5, (I x14)), (6, (V.ptr 6 0 0)), (7, (V.ptr 7 0 0)), (8, (I x22))], [(2, ⟨false, 4, [(enc_T_api_Base a0)]⟩), (3, ⟨false, 4, [(enc_T_api_Base a1)]⟩), (6, ⟨false, 8, [(enc_T_api_Type o17.1)]⟩), (7, ⟨false, 8, [(enc_T_api_Type o17.2)]⟩)], 149⟩).bind Kst = (ref11_Same_L2 o17 K0 m x22).map ref11_Same_fin := by
  intro m
  induction m with
  | zero => intros; rfl
  | succ m ih =>
    intro x22
    unfold ref11_Same_L2
    refine Eq.trans k_round ?_
    refine Eq.trans k_assoc ?_
    refine Eq.trans (k_region0 rfl (f25r10 k a0 a1 x14 o17 x22)) ?_
    refine Eq.trans (k_cond (t := (decide (x22 < (o17.1.fFields.length : Int)))) rfl) ?_
    refine bifE2 (fun hc => ?_) fun hc => ?_
    · rw [hc]
      refine Eq.trans k_skip ?_
      refine Eq.trans k_block ?_
      refine Eq.trans (k_region rfl (f25r12 k a0 a1 x14 o17 x22)) ?_
      refine bindE (fun o25 => ?_)
      refine Eq.trans (k_lcond (t := o25) rfl) ?_
      refine bifE2 (fun hc => ?_) fun hc => ?_
      · rw [hc]
        refine Eq.trans (k_region0 rfl (f25r13 k a0 a1 x14 o17 x22)) ?_
        refine Eq.trans k_lret ?_
        refine Eq.trans blk_ret ?_
        refine Eq.trans loop_ret ?_
        refine Eq.trans (hret _) ?_
        rfl
      · rw [hc]
        refine Eq.trans k_lskip ?_
        refine Eq.trans blk_normal ?_
        refine Eq.trans (k_lregion0 rfl (f25r11 k a0 a1 x14 o17 x22)) ?_
        refine Eq.trans loop_normal ?_
        exact ih (Go.IntKind.wrap .i64 (x22 + 1))
    · rw [hc]
      refine Eq.trans k_exit ?_
      refine Eq.trans loop_exit ?_
      exact hK0 x22
theorem f25r5 (k : Nat) (a0 : T_api_Base) (a1 : T_api_Base) (x14 : Int) (o17 : T_api_Type × T_api_Type) (y26 : Int) : RE k f25a5 f25o5 false ⟨[(2, (V.ptr 2 0 0)), (3, (V.ptr 3 0 0)), (5, (I x14)), (6, (V.ptr 6 0 0)), (7, (V.ptr 7 0 0)), (8, (I y26)), (117, (V.bool false))], [(2, ⟨false, 4, [(enc_T_api_Base a0)]⟩), (3, ⟨false, 4, [(enc_T_api_Base a1)]⟩), (6, ⟨false, 8, [(enc_T_api_Type o17.1)]⟩), (7, ⟨false, 8, [(enc_T_api_Type o17.2)]⟩)], 149⟩ = some ⟨[(2, (V.ptr 2 0 0)), (3, (V.ptr 3 0 0)), (5, (I (Go.IntKind.wrap .i64 (x14 + 1))))], [(2, ⟨false, 4, [(enc_T_api_Base a0)]⟩), (3, ⟨false, 4, [(enc_T_api_Base a1)]⟩)], 149⟩ :=
  rE rfl
theorem ref11_Same_L1_ok (k : Nat) (a0 : T_api_Base) (a1 : T_api_Base)  (K0 : Int → Option Bool) (Kst : X × St → Option (V × List V)) (hK0 : ∀ (y0 : Int), Kst (X.exit 0, ⟨[(2, (V.ptr 2 0 0)), (3, (V.ptr 3 0 0)), (5, (I y0)), (44, (V.bool false))], [(2, ⟨false, 4, [(enc_T_api_Base a0)]⟩), (3, ⟨false, 4, [(enc_T_api_Base a1)]⟩)], 149⟩) = (K0 y0).map ref11_Same_fin) (hret : ∀ s, Kst (X.ret, s) = endK prog 149 [(enc_T_api_Base a0), (enc_T_api_Base a1)] [] [.tmp 4] (X.ret, s)) :
    ∀ (m : Nat) (x14 : Int), (iter (exec prog (EV k) f25n k f25b1) m ⟨[(2, (V.ptr 2 0 0)), (3, (V.ptr 3 0 0)), (5, (I x14))], [(2, ⟨false, 4, [(enc_T_api_Base a0)]⟩), (3, ⟨false, 4, [(enc_T_api_Base a1)]⟩)], 149⟩).bind Kst = (ref11_Same_L1 k a0 a1 K0 m x14).map ref11_Same_fin := by
  intro m
  induction m with
  | zero => intros; rfl
  | succ m ih =>
    intro x14
    unfold ref11_Same_L1
    refine Eq.trans k_round ?_
    refine Eq.trans k_assoc ?_
    refine Eq.trans (k_region0 rfl (f25r4 k a0 a1 x14)) ?_
    refine Eq.trans (k_cond (t := (decide (x14 < (a0.fTypes.length : Int)))) rfl) ?_
    refine bifE2 (fun hc => ?_) fun hc => ?_
    · rw [hc]
      refine Eq.trans k_skip ?_
      refine Eq.trans k_block ?_
      refine Eq.trans (k_region rfl (f25r6 k a0 a1 x14)) ?_
      refine bindE (fun o17 => ?_)
      refine Eq.trans k_assoc ?_
      refine Eq.trans (k_region rfl (f25r7 k a0 a1 x14 o17)) ?_
      refine bindE (fun o18 => ?_)
      refine Eq.trans (k_cond (t := o18) rfl) ?_
      refine bifE2 (fun hc => ?_) fun hc => ?_
      · rw [hc]
        refine Eq.trans k_assoc ?_
        refine Eq.trans (k_region0 rfl (f25r8 k a0 a1 x14 o17)) ?_
        refine Eq.trans k_ret ?_
        refine Eq.trans blk_ret ?_
        refine Eq.trans loop_ret ?_
        refine Eq.trans (hret _) ?_
        rfl
      · rw [hc]
        refine Eq.trans k_skip ?_
        refine Eq.trans (k_region0 rfl (f25r9 k a0 a1 x14 o17)) ?_
        refine Eq.trans k_lblock ?_
        refine Eq.trans k_loop ?_
        refine ref11_Same_L2_ok k a0 a1 x14 o17 _ _ ?h_ref11_Same_L2_0 ?hr_ref11_Same_L2 k 0
        · intro y26
          refine Eq.trans blk_exit ?_
          refine Eq.trans k_lskip ?_
          refine Eq.trans blk_normal ?_
          refine Eq.trans (k_lregion0 rfl (f25r5 k a0 a1 x14 o17 y26)) ?_
          refine Eq.trans loop_normal ?_
          exact ih (Go.IntKind.wrap .i64 (x14 + 1))
        · intro s; exact hret s
    · rw [hc]
      refine Eq.trans k_exit ?_
      refine Eq.trans loop_exit ?_
      exact hK0 x14
theorem f25r14 (k : Nat) (a0 : T_api_Base) (a1 : T_api_Base) (y27 : Int) : RE k f25a14 f25o14 false ⟨[(2, (V.ptr 2 0 0)), (3, (V.ptr 3 0 0)), (5, (I y27)), (44, (V.bool false))], [(2, ⟨false, 4, [(enc_T_api_Base a0)]⟩), (3, ⟨false, 4, [(enc_T_api_Base a1)]⟩)], 149⟩ = some ⟨[(2, (V.ptr 2 0 0)), (3, (V.ptr 3 0 0)), (9, (I 0))], [(2, ⟨false, 4, [(enc_T_api_Base a0)]⟩), (3, ⟨false, 4, [(enc_T_api_Base a1)]⟩)], 149⟩ :=
  rE rfl
theorem f25r15 (k : Nat) (a0 : T_api_Base) (a1 : T_api_Base) (x31 : Int) : RE k f25a15 f25o15 false ⟨[(2, (V.ptr 2 0 0)), (3, (V.ptr 3 0 0)), (9, (I x31))], [(2, ⟨false, 4, [(enc_T_api_Base a0)]⟩), (3, ⟨false, 4, [(enc_T_api_Base a1)]⟩)], 149⟩ = some ⟨[(2, (V.ptr 2 0 0)), (3, (V.ptr 3 0 0)), (9, (I x31)), (135, (V.bool (decide (x31 < (a0.fIndexes.length : Int)))))], [(2, ⟨false, 4, [(enc_T_api_Base a0)]⟩), (3, ⟨false, 4, [(enc_T_api_Base a1)]⟩)], 149⟩ := by
  refine rg ?_
  refine ra 3 3 ⟨[(2, (V.ptr 2 0 0)), (3, (V.ptr 3 0 0)), (9, (I x31)), (131, (I x31)), (132, (V.ptr 2 0 3)), (133, (sSearch (a0.fIndexes)))], [(2, ⟨false, 4, [(enc_T_api_Base a0)]⟩), (3, ⟨false, 4, [(enc_T_api_Base a1)]⟩)], 149⟩ rfl rfl rfl ?_
  refine Eq.trans (reg_pure (x := some ()) (w := fun _ => (I (a0.fIndexes.length : Int))) rfl rfl rfl rfl (p_len (e := enc_T_api_Search) rfl rfl rfl rfl rfl rfl Go.Proofs.Try.underlying23)) ?_
  refine Eq.trans some_bind ?_
  exact bind_end rfl
theorem f25r17 (k : Nat) (a0 : T_api_Base) (a1 : T_api_Base) (x31 : Int) : RE k f25a17 f25o17 true ⟨[(2, (V.ptr 2 0 0)), (3, (V.ptr 3 0 0)), (9, (I x31)), (135, (V.bool true))], [(2, ⟨false, 4, [(enc_T_api_Base a0)]⟩), (3, ⟨false, 4, [(enc_T_api_Base a1)]⟩)], 149⟩ = (((idx a0.fIndexes x31).bind fun v32 => ((idx a1.fIndexes x31).bind fun v33 => (some ((!(v32.fName == v33.fName && (v32.fType == v33.fType && (v32.fField == v33.fField && (v32.fSparse == v33.fSparse && true)))))))))).map (fun (o : Bool) => (⟨[(2, (V.ptr 2 0 0)), (3, (V.ptr 3 0 0)), (9, (I x31)), (148, (V.bool o))], [(2, ⟨false, 4, [(enc_T_api_Base a0)]⟩), (3, ⟨false, 4, [(enc_T_api_Base a1)]⟩)], 149⟩ : St)) := by
  refine Eq.trans (regionE_regp (p := 11) (dk := true) (t := [(2, (V.ptr 2 0 0)), (3, (V.ptr 3 0 0)), (9, (I x31)), (135, (V.bool true))]) (σ := [(2, ⟨false, 4, [(enc_T_api_Base a0)]⟩), (3, ⟨false, 4, [(enc_T_api_Base a1)]⟩)]) (n := 149) (by decide) (by decide) rfl) ?_
  refine Eq.trans (regp_adv (m := 3) (j := 3) (t' := [(2, (V.ptr 2 0 0)), (3, (V.ptr 3 0 0)), (9, (I x31)), (135, (V.bool true)), (138, (V.ptr 2 0 3)), (139, (sSearch (a0.fIndexes))), (140, (I x31))]) rfl rfl rfl) ?_
  refine Eq.trans (regp_pure (x := (idx a0.fIndexes x31)) (w := fun v32 => (V.pro (enc_T_api_Search v32))) rfl rfl rfl rfl rfl (p_index (e := enc_T_api_Search) rfl rfl rfl Go.Proofs.Try.underlying23 rfl (by decide))) ?_
  refine bindE (fun v32 => ?_)
  refine Eq.trans (putp_adv (m := 4) (j := 8) (t' := [(2, (V.ptr 2 0 0)), (3, (V.ptr 3 0 0)), (9, (I x31)), (135, (V.bool true)), (138, (V.ptr 2 0 3)), (139, (sSearch (a0.fIndexes))), (140, (I x31)), (141, (V.pro (enc_T_api_Search v32))), (142, (enc_T_api_Search v32)), (143, (V.ptr 3 0 3)), (144, (sSearch (a1.fIndexes))), (145, (I x31))]) rfl rfl rfl) ?_
  refine Eq.trans (regp_pure (x := (idx a1.fIndexes x31)) (w := fun v33 => (V.pro (enc_T_api_Search v33))) rfl rfl rfl rfl rfl (p_index (e := enc_T_api_Search) rfl rfl rfl Go.Proofs.Try.underlying23 rfl (by decide))) ?_
  refine bindE (fun v33 => ?_)
  refine Eq.trans (putp_adv (m := 1) (j := 10) (t' := [(2, (V.ptr 2 0 0)), (3, (V.ptr 3 0 0)), (9, (I x31)), (135, (V.bool true)), (138, (V.ptr 2 0 3)), (139, (sSearch (a0.fIndexes))), (140, (I x31)), (141, (V.pro (enc_T_api_Search v32))), (142, (enc_T_api_Search v32)), (143, (V.ptr 3 0 3)), (144, (sSearch (a1.fIndexes))), (145, (I x31)), (146, (V.pro (enc_T_api_Search v33))), (147, (enc_T_api_Search v33))]) rfl rfl rfl) ?_
  refine Eq.trans (regp_pure (x := some ()) (w := fun _ => (V.bool (!(v32.fName == v33.fName && (v32.fType == v33.fType && (v32.fField == v33.fField && (v32.fSparse == v33.fSparse && true))))))) rfl rfl rfl rfl rfl (p_neS rfl rfl rfl Go.Proofs.Try.underlying69 sih69 eqg69 rfl)) ?_
  refine Eq.trans some_bind ?_
  exact regp_end rfl
theorem f25r18 (k : Nat) (a0 : T_api_Base) (a1 : T_api_Base) (x31 : Int) : RE k f25a18 f25o18 false ⟨[(2, (V.ptr 2 0 0)), (3, (V.ptr 3 0 0)), (9, (I x31)), (148, (V.bool true))], [(2, ⟨false, 4, [(enc_T_api_Base a0)]⟩), (3, ⟨false, 4, [(enc_T_api_Base a1)]⟩)], 149⟩ = some ⟨[(4, (V.bool false))], [], 149⟩ :=
  rE rfl
theorem f25r16 (k : Nat) (a0 : T_api_Base) (a1 : T_api_Base) (x31 : Int) : RE k f25a16 f25o16 false ⟨[(2, (V.ptr 2 0 0)), (3, (V.ptr 3 0 0)), (9, (I x31)), (148, (V.bool false))], [(2, ⟨false, 4, [(enc_T_api_Base a0)]⟩), (3, ⟨false, 4, [(enc_T_api_Base a1)]⟩)], 149⟩ = some ⟨[(2, (V.ptr 2 0 0)), (3, (V.ptr 3 0 0)), (9, (I (Go.IntKind.wrap .i64 (x31 + 1))))], [(2, ⟨false, 4, [(enc_T_api_Base a0)]⟩), (3, ⟨false, 4, [(enc_T_api_Base a1)]⟩)], 149⟩ :=
  rE rfl
theorem ref11_Same_L3_ok (k : Nat) (a0 : T_api_Base) (a1 : T_api_Base)  (K0 : Int → Option Bool) (Kst : X × St → Option (V × List V)) (hK0 : ∀ (y0 : Int), Kst (X.exit 4, ⟨[(2, (V.ptr 2 0 0)), (3, (V.ptr 3 0 0)), (9, (I y0)), (135, (V.bool false))], [(2, ⟨false, 4, [(enc_T_api_Base a0)]⟩), (3, ⟨false, 4, [(enc_T_api_Base a1)]⟩)], 149⟩) = (K0 y0).map ref11_Same_fin) (hret : ∀ s, Kst (X.ret, s) = endK prog 149 [(enc_T_api_Base a0), (enc_T_api_Base a1)] [] [.tmp 4] (X.ret, s)) :
    ∀ (m : Nat) (x31 : Int), (iter (exec prog (EV k) f25n k f25b2) m ⟨[(2, (V.ptr 2 0 0)), (3, (V.ptr 3 0 0)), (9, (I x31))], [(2, ⟨false, 4, [(enc_T_api_Base a0)]⟩), (3, ⟨false, 4, [(enc_T_api_Base a1)]⟩)], 149⟩).bind Kst = (ref11_Same_L3 a0 a1 K0 m x31).map ref11_Same_fin := by
  intro m
  induction m with
  | zero => intros; rfl
  | succ m ih =>
    intro x31
    unfold ref11_Same_L3
    refine Eq.trans k_round ?_
    refine Eq.trans k_assoc ?_
    refine Eq.trans (k_region0 rfl (f25r15 k a0 a1 x31)) ?_
    refine Eq.trans (k_cond (t := (decide (x31 < (a0.fIndexes.length : Int)))) rfl) ?_
    refine bifE2 (fun hc => ?_) fun hc => ?_
    · rw [hc]
      refine Eq.trans k_skip ?_
      refine Eq.trans k_block ?_
      refine Eq.trans (k_region rfl (f25r17 k a0 a1 x31)) ?_
      refine bindE (fun o34 => ?_)
      refine Eq.trans (k_lcond (t := o34) rfl) ?_
      refine bifE2 (fun hc => ?_) fun hc => ?_
      · rw [hc]
        refine Eq.trans (k_region0 rfl (f25r18 k a0 a1 x31)) ?_
        refine Eq.trans k_lret ?_
        refine Eq.trans blk_ret ?_
        refine Eq.trans loop_ret ?_
        refine Eq.trans (hret _) ?_
        rfl
      · rw [hc]
        refine Eq.trans k_lskip ?_
        refine Eq.trans blk_normal ?_
        refine Eq.trans (k_lregion0 rfl (f25r16 k a0 a1 x31)) ?_
        refine Eq.trans loop_normal ?_
        exact ih (Go.IntKind.wrap .i64 (x31 + 1))
    · rw [hc]
      refine Eq.trans k_exit ?_
      refine Eq.trans loop_exit ?_
      exact hK0 x31
theorem f25r19 (k : Nat) (a0 : T_api_Base) (a1 : T_api_Base) (y35 : Int) : RE k f25a19 f25o19 false ⟨[(2, (V.ptr 2 0 0)), (3, (V.ptr 3 0 0)), (9, (I y35)), (135, (V.bool false))], [(2, ⟨false, 4, [(enc_T_api_Base a0)]⟩), (3, ⟨false, 4, [(enc_T_api_Base a1)]⟩)], 149⟩ = some ⟨[(4, (V.bool true))], [], 149⟩ :=
  rE rfl
theorem ref11_Same_ok (k : Nat) (a0 : T_api_Base) (a1 : T_api_Base) : EV k 25 [(enc_T_api_Base a0), (enc_T_api_Base a1)] = (ref11_Same k a0 a1).map ref11_Same_fin := by
  cases k with
  | zero => rfl
  | succ k =>
    unfold ref11_Same
    refine Eq.trans (evF_succ (c := f25c) (N := 149) (regs := f25n) rfl Go.Proofs.Try.func25 rfl (by decide) rfl rfl rfl) ?_
    refine Eq.trans (k_region0 rfl (f25r0 k a0 a1)) ?_
    refine Eq.trans k_assoc ?_
    refine Eq.trans (k_region rfl (f25r1 k a0 a1)) ?_
    refine bindE (fun o1 => ?_)
    refine Eq.trans (k_cond (t := o1) rfl) ?_
    refine bifE2 (fun hc => ?_) fun hc => ?_
    · rw [hc]
      refine Eq.trans k_assoc ?_
      refine Eq.trans (k_region0 rfl (f25r2 k a0 a1)) ?_
      refine Eq.trans k_ret ?_
      rfl
    · rw [hc]
      refine Eq.trans k_skip ?_
      refine Eq.trans k_assoc ?_
      refine Eq.trans (k_region0 rfl (f25r3 k a0 a1)) ?_
      refine Eq.trans k_block ?_
      refine Eq.trans k_loop ?_
      refine ref11_Same_L1_ok k a0 a1 _ _ ?h_ref11_Same_L1_0 ?hr_ref11_Same_L1 k 0
      · intro y27
        refine Eq.trans blk_exit ?_
        refine Eq.trans k_assoc ?_
        refine Eq.trans (k_region0 rfl (f25r14 k a0 a1 y27)) ?_
        refine Eq.trans k_block ?_
        refine Eq.trans k_loop ?_
        refine ref11_Same_L3_ok k a0 a1 _ _ ?h_ref11_Same_L3_0 ?hr_ref11_Same_L3 k 0
        · intro y35
          refine Eq.trans blk_exit ?_
          refine Eq.trans (k_region0 rfl (f25r19 k a0 a1 y35)) ?_
          refine Eq.trans k_lret ?_
          rfl
        · intro s; exact rfl
      · intro s; exact rfl
def law11_DbdSame_fin : Bool → V × List V := fun r => ((V.bool r), [])
theorem f5r0 (k : Nat) (a0 : T_api_Base) (a1 : T_api_Base) : RE k f5a0 f5o0 false ⟨[(0, (enc_T_api_Base a0)), (1, (enc_T_api_Base a1))], [], 29⟩ = some ⟨[(2, (V.ptr 2 0 0)), (3, (V.ptr 3 0 0))], [(2, ⟨false, 4, [(enc_T_api_Base a0)]⟩), (3, ⟨false, 4, [(enc_T_api_Base a1)]⟩)], 29⟩ :=
  rE rfl
theorem f5r1 (k : Nat) (a0 : T_api_Base) (a1 : T_api_Base) : RE k f5a1 f5o1 false ⟨[(2, (V.ptr 2 0 0)), (3, (V.ptr 3 0 0))], [(2, ⟨false, 4, [(enc_T_api_Base a0)]⟩), (3, ⟨false, 4, [(enc_T_api_Base a1)]⟩)], 29⟩ = (((law11_Small k a0).bind fun v1 => (bif (!v1) then (some (true)) else ((law11_Small k a1).bind fun v2 => (some ((!v2))))))).map (fun (o : Bool) => (⟨[(2, (V.ptr 2 0 0)), (3, (V.ptr 3 0 0)), (12, (V.bool o))], [(2, ⟨false, 4, [(enc_T_api_Base a0)]⟩), (3, ⟨false, 4, [(enc_T_api_Base a1)]⟩)], 29⟩ : St)) := by
  refine rg ?_
  refine ra 1 1 ⟨[(2, (V.ptr 2 0 0)), (3, (V.ptr 3 0 0)), (5, (enc_T_api_Base a0))], [(2, ⟨false, 4, [(enc_T_api_Base a0)]⟩), (3, ⟨false, 4, [(enc_T_api_Base a1)]⟩)], 29⟩ rfl rfl rfl ?_
  refine Eq.trans (reg_pure (x := (law11_Small k a0)) (w := fun v1 => (V.bool v1)) rfl rfl rfl rfl (p_call rfl rfl rfl rfl rfl (law11_Small_ok k a0) (.inl rfl))) ?_
  refine bindE (fun v1 => ?_)
  refine ba 2 4 ⟨[(2, (V.ptr 2 0 0)), (3, (V.ptr 3 0 0)), (5, (enc_T_api_Base a0)), (6, (V.bool v1)), (7, (V.bool (!v1))), (8, (V.bool (!v1)))], [(2, ⟨false, 4, [(enc_T_api_Base a0)]⟩), (3, ⟨false, 4, [(enc_T_api_Base a1)]⟩)], 29⟩ rfl rfl rfl ?_
  refine bifE (c := (!v1)) (fun hc => ?_) fun hc => ?_
  · rw [hc]
    exact reg_end rfl
  · rw [hc]
    refine ra 1 5 ⟨[(2, (V.ptr 2 0 0)), (3, (V.ptr 3 0 0)), (5, (enc_T_api_Base a0)), (6, (V.bool v1)), (7, (V.bool false)), (8, (V.bool false)), (9, (enc_T_api_Base a1))], [(2, ⟨false, 4, [(enc_T_api_Base a0)]⟩), (3, ⟨false, 4, [(enc_T_api_Base a1)]⟩)], 29⟩ rfl rfl rfl ?_
    refine Eq.trans (reg_pure (x := (law11_Small k a1)) (w := fun v2 => (V.bool v2)) rfl rfl rfl rfl (p_call rfl rfl rfl rfl rfl (law11_Small_ok k a1) (.inl rfl))) ?_
    refine bindE (fun v2 => ?_)
    exact bind_end rfl
theorem f5r2 (k : Nat) (a0 : T_api_Base) (a1 : T_api_Base) : RE k f5a2 f5o2 false ⟨[(2, (V.ptr 2 0 0)), (3, (V.ptr 3 0 0)), (12, (V.bool true))], [(2, ⟨false, 4, [(enc_T_api_Base a0)]⟩), (3, ⟨false, 4, [(enc_T_api_Base a1)]⟩)], 29⟩ = ((law11_First k)).map (fun (o : Bool) => (⟨[(4, (V.bool o))], [], 29⟩ : St)) := by
  refine rg ?_
  refine Eq.trans (reg_pure (x := (law11_First k)) (w := fun v4 => (V.bool v4)) rfl rfl rfl rfl (p_call rfl rfl rfl rfl rfl (law11_First_ok k) (.inl rfl))) ?_
  refine bind_self (fun v4 => ?_)
  exact bind_end rfl
theorem f5r3 (k : Nat) (a0 : T_api_Base) (a1 : T_api_Base) : RE k f5a3 f5o3 true ⟨[(2, (V.ptr 2 0 0)), (3, (V.ptr 3 0 0)), (12, (V.bool false))], [(2, ⟨false, 4, [(enc_T_api_Base a0)]⟩), (3, ⟨false, 4, [(enc_T_api_Base a1)]⟩)], 29⟩ = (((dbd_Same k a0 a1).bind fun v6 => ((ref11_Same k a0 a1).bind fun v7 => (bif (v6 == v7) then ((dbd_Same k a0 a0).bind fun v8 => (bif v8 then (law11_First k) else (some (false)))) else (some (false)))))).map (fun (o : Bool) => (⟨[(4, (V.bool o))], [], 29⟩ : St)) := by
  refine Eq.trans (regionE_regp (p := 16) (dk := true) (t := [(2, (V.ptr 2 0 0)), (3, (V.ptr 3 0 0)), (12, (V.bool false))]) (σ := [(2, ⟨false, 4, [(enc_T_api_Base a0)]⟩), (3, ⟨false, 4, [(enc_T_api_Base a1)]⟩)]) (n := 29) (by decide) (by decide) rfl) ?_
  refine Eq.trans (regp_adv (m := 2) (j := 2) (t' := [(2, (V.ptr 2 0 0)), (3, (V.ptr 3 0 0)), (12, (V.bool false)), (14, (enc_T_api_Base a0)), (15, (enc_T_api_Base a1))]) rfl rfl rfl) ?_
  refine Eq.trans (regp_pure (x := (dbd_Same k a0 a1)) (w := fun v6 => (V.bool v6)) rfl rfl rfl rfl rfl (p_call rfl rfl rfl rfl rfl (dbd_Same_ok k a0 a1) (.inl rfl))) ?_
  refine bindE (fun v6 => ?_)
  refine Eq.trans (putp_adv (m := 2) (j := 5) (t' := [(2, (V.ptr 2 0 0)), (3, (V.ptr 3 0 0)), (12, (V.bool false)), (14, (enc_T_api_Base a0)), (15, (enc_T_api_Base a1)), (16, (V.bool v6)), (17, (enc_T_api_Base a0)), (18, (enc_T_api_Base a1))]) rfl rfl rfl) ?_
  refine Eq.trans (regp_pure (x := (ref11_Same k a0 a1)) (w := fun v7 => (V.bool v7)) rfl rfl rfl rfl rfl (p_call rfl rfl rfl rfl rfl (ref11_Same_ok k a0 a1) (.inl rfl))) ?_
  refine bindE (fun v7 => ?_)
  refine Eq.trans (putp_adv (m := 2) (j := 8) (t' := [(2, (V.ptr 2 0 0)), (3, (V.ptr 3 0 0)), (12, (V.bool false)), (14, (enc_T_api_Base a0)), (15, (enc_T_api_Base a1)), (16, (V.bool v6)), (17, (enc_T_api_Base a0)), (18, (enc_T_api_Base a1)), (19, (V.bool v7)), (20, (V.bool (v6 == v7))), (21, (V.bool (v6 == v7)))]) rfl rfl rfl) ?_
  refine bifE (c := (v6 == v7)) (fun hc => ?_) fun hc => ?_
  · rw [hc]
    refine Eq.trans (regp_adv (m := 2) (j := 10) (t' := [(2, (V.ptr 2 0 0)), (3, (V.ptr 3 0 0)), (12, (V.bool false)), (14, (enc_T_api_Base a0)), (15, (enc_T_api_Base a1)), (16, (V.bool v6)), (17, (enc_T_api_Base a0)), (18, (enc_T_api_Base a1)), (19, (V.bool v7)), (20, (V.bool true)), (21, (V.bool true)), (22, (enc_T_api_Base a0)), (23, (enc_T_api_Base a0))]) rfl rfl rfl) ?_
    refine Eq.trans (regp_pure (x := (dbd_Same k a0 a0)) (w := fun v8 => (V.bool v8)) rfl rfl rfl rfl rfl (p_call rfl rfl rfl rfl rfl (dbd_Same_ok k a0 a0) (.inl rfl))) ?_
    refine bindE (fun v8 => ?_)
    refine Eq.trans (putp_adv (m := 2) (j := 13) (t' := [(2, (V.ptr 2 0 0)), (3, (V.ptr 3 0 0)), (12, (V.bool false)), (14, (enc_T_api_Base a0)), (15, (enc_T_api_Base a1)), (16, (V.bool v6)), (17, (enc_T_api_Base a0)), (18, (enc_T_api_Base a1)), (19, (V.bool v7)), (20, (V.bool true)), (21, (V.bool true)), (22, (enc_T_api_Base a0)), (23, (enc_T_api_Base a0)), (24, (V.bool v8)), (25, (V.bool v8)), (26, (V.bool v8))]) rfl rfl rfl) ?_
    refine bifE (c := v8) (fun hc => ?_) fun hc => ?_
    · rw [hc]
      refine Eq.trans (regp_pure (x := (law11_First k)) (w := fun v9 => (V.bool v9)) rfl rfl rfl rfl rfl (p_call rfl rfl rfl rfl rfl (law11_First_ok k) (.inl rfl))) ?_
      refine bind_self (fun v9 => ?_)
      exact regp_end rfl
    · rw [hc]
      exact regp_end rfl
  · rw [hc]
    exact regp_end rfl
theorem law11_DbdSame_ok (k : Nat) (a0 : T_api_Base) (a1 : T_api_Base) : EV k 5 [(enc_T_api_Base a0), (enc_T_api_Base a1)] = (law11_DbdSame k a0 a1).map law11_DbdSame_fin := by
  cases k with
  | zero => rfl
  | succ k =>
    unfold law11_DbdSame
    refine Eq.trans (evF_succ (c := f5c) (N := 29) (regs := f5n) rfl Go.Proofs.Try.func5 rfl (by decide) rfl rfl rfl) ?_
    refine Eq.trans (k_region0 rfl (f5r0 k a0 a1)) ?_
    refine Eq.trans k_assoc ?_
    refine Eq.trans (k_region rfl (f5r1 k a0 a1)) ?_
    refine bindE (fun o3 => ?_)
    refine Eq.trans (k_cond (t := o3) rfl) ?_
    refine bifE2 (fun hc => ?_) fun hc => ?_
    · rw [hc]
      refine Eq.trans k_assoc ?_
      refine Eq.trans (k_region rfl (f5r2 k a0 a1)) ?_
      refine bindE (fun o5 => ?_)
      refine Eq.trans k_ret ?_
      rfl
    · rw [hc]
      refine Eq.trans k_skip ?_
      refine Eq.trans (k_region rfl (f5r3 k a0 a1)) ?_
      refine bindE (fun o10 => ?_)
      refine Eq.trans k_lret ?_
      rfl
end
end Go.AE
