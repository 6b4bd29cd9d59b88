/- The program, function by function: the evaluator comes to the typed functions. Conditions: none. -/
import Derived.Test.YtkkoiekbnkpcoaaA3
import Derived.KernelRfl
import Derived.Test.YtkkoiekbnkpcoaaProg
import Derived.Test.YtkkoiekbnkpcoaaB1
import Derived.Test.YtkkoiekbnkpcoaaE2
namespace Go.AE
open Go.Proofs.Try Go.Sh
set_option linter.unusedSimpArgs false
set_option linter.unusedVariables false
set_option maxRecDepth 100000
set_option maxHeartbeats 4000000
noncomputable section
theorem f33r7 (k : Nat) (a0 : T_api_Form) (a1 : (List Str)) (x7 : Int) (x8 : Int) : RE k f33a7 f33o7 false ⟨[(1, (V.sl 0 1 (List.map V.str a1))), (2, (V.ptr 2 0 0)), (6, (I x7)), (7, (I x8))], [(2, ⟨false, 4, [(enc_T_api_Form a0)]⟩)], 67⟩ = some ⟨[(1, (V.sl 0 1 (List.map V.str a1))), (2, (V.ptr 2 0 0)), (6, (I x7)), (7, (I x8)), (24, (V.bool (decide (x8 < (a0.fFields.length : Int)))))], [(2, ⟨false, 4, [(enc_T_api_Form a0)]⟩)], 67⟩ := by
  refine rg ?_
  refine ra 3 3 ⟨[(1, (V.sl 0 1 (List.map V.str a1))), (2, (V.ptr 2 0 0)), (6, (I x7)), (7, (I x8)), (20, (I x8)), (21, (V.ptr 2 0 3)), (22, (sSlot (a0.fFields)))], [(2, ⟨false, 4, [(enc_T_api_Form a0)]⟩)], 67⟩ rfl rfl rfl ?_
  refine Eq.trans (reg_pure (x := some ()) (w := fun _ => (I (a0.fFields.length : Int))) rfl rfl rfl rfl (p_len (e := enc_T_api_Slot) rfl rfl rfl rfl rfl rfl Go.Proofs.Try.underlying23)) ?_
  refine Eq.trans some_bind ?_
  exact bind_end rfl
theorem f33r9 (k : Nat) (a0 : T_api_Form) (a1 : (List Str)) (x7 : Int) (x8 : Int) : RE k f33a9 f33o9 false ⟨[(1, (V.sl 0 1 (List.map V.str a1))), (2, (V.ptr 2 0 0)), (6, (I x7)), (7, (I x8)), (24, (V.bool true))], [(2, ⟨false, 4, [(enc_T_api_Form a0)]⟩)], 67⟩ = (((idx a0.fFields x8).bind fun v9 => (some ((v9.fOut == 0))))).map (fun (o : Bool) => (⟨[(1, (V.sl 0 1 (List.map V.str a1))), (2, (V.ptr 2 0 0)), (6, (I x7)), (7, (I x8)), (33, (V.bool o))], [(2, ⟨false, 4, [(enc_T_api_Form a0)]⟩)], 67⟩ : St)) := by
  refine rg ?_
  refine ra 3 3 ⟨[(1, (V.sl 0 1 (List.map V.str a1))), (2, (V.ptr 2 0 0)), (6, (I x7)), (7, (I x8)), (24, (V.bool true)), (27, (V.ptr 2 0 3)), (28, (sSlot (a0.fFields))), (29, (I x8))], [(2, ⟨false, 4, [(enc_T_api_Form a0)]⟩)], 67⟩ rfl rfl rfl ?_
  refine Eq.trans (reg_pure (x := (idx a0.fFields x8)) (w := fun v9 => (V.pro (enc_T_api_Slot v9))) rfl rfl rfl rfl (p_index (e := enc_T_api_Slot) rfl rfl rfl Go.Proofs.Try.underlying23 rfl (by decide))) ?_
  refine bindE (fun v9 => ?_)
  exact bind_end rfl
theorem f33r10 (k : Nat) (a0 : T_api_Form) (a1 : (List Str)) (x7 : Int) (x8 : Int) : RE k f33a10 f33o10 false ⟨[(1, (V.sl 0 1 (List.map V.str a1))), (2, (V.ptr 2 0 0)), (6, (I x7)), (7, (I x8)), (33, (V.bool true))], [(2, ⟨false, 4, [(enc_T_api_Form a0)]⟩)], 67⟩ = some ⟨[(1, (V.sl 0 1 (List.map V.str a1))), (2, (V.ptr 2 0 0)), (6, (I x8)), (7, (I x8))], [(2, ⟨false, 4, [(enc_T_api_Form a0)]⟩)], 67⟩ :=
  rE rfl
theorem f33r8 (k : Nat) (a0 : T_api_Form) (a1 : (List Str)) (x8 : Int) : RE k f33a8 f33o8 false ⟨[(1, (V.sl 0 1 (List.map V.str a1))), (2, (V.ptr 2 0 0)), (6, (I x8)), (7, (I x8))], [(2, ⟨false, 4, [(enc_T_api_Form a0)]⟩)], 67⟩ = some ⟨[(1, (V.sl 0 1 (List.map V.str a1))), (2, (V.ptr 2 0 0)), (6, (I x8)), (7, (I (Go.IntKind.wrap .i64 (x8 + 1))))], [(2, ⟨false, 4, [(enc_T_api_Form a0)]⟩)], 67⟩ :=
  rE rfl
theorem ref24_Pages_r8' (k : Nat) (a0 : T_api_Form) (a1 : (List Str)) (x7 : Int) (x8 : Int) : RE k f33a8 f33o8 false ⟨[(1, (V.sl 0 1 (List.map V.str a1))), (2, (V.ptr 2 0 0)), (6, (I x7)), (7, (I x8)), (33, (V.bool false))], [(2, ⟨false, 4, [(enc_T_api_Form a0)]⟩)], 67⟩ = some ⟨[(1, (V.sl 0 1 (List.map V.str a1))), (2, (V.ptr 2 0 0)), (6, (I x7)), (7, (I (Go.IntKind.wrap .i64 (x8 + 1))))], [(2, ⟨false, 4, [(enc_T_api_Form a0)]⟩)], 67⟩ :=
  rE rfl
theorem ref24_Pages_L1_ok (k : Nat) (a0 : T_api_Form) (a1 : (List Str))  (K0 : Int → Int → Option ((List (List Str)) × Int)) (Kst : X × St → Option (V × List V)) (hK0 : ∀ (y0 : Int) (y1 : Int), Kst (X.exit 1, ⟨[(1, (V.sl 0 1 (List.map V.str a1))), (2, (V.ptr 2 0 0)), (6, (I y0)), (7, (I y1)), (24, (V.bool false))], [(2, ⟨false, 4, [(enc_T_api_Form a0)]⟩)], 67⟩) = (K0 y0 y1).map ref24_Pages_fin) (hret : ∀ s, Kst (X.ret, s) = endK prog 67 [(enc_T_api_Form a0), (V.sl 0 1 (List.map V.str a1))] [] [.tmp 4, .tmp 5] (X.ret, s)) :
    ∀ (m : Nat) (x7 : Int) (x8 : Int), (iter (exec prog (EV k) f33n k f33b0) m ⟨[(1, (V.sl 0 1 (List.map V.str a1))), (2, (V.ptr 2 0 0)), (6, (I x7)), (7, (I x8))], [(2, ⟨false, 4, [(enc_T_api_Form a0)]⟩)], 67⟩).bind Kst = (ref24_Pages_L1 a0 K0 m x7 x8).map ref24_Pages_fin := by
  intro m
  induction m with
  | zero => intros; rfl
  | succ m ih =>
    intro x7 x8
    unfold ref24_Pages_L1
    refine Eq.trans k_round ?_
    refine Eq.trans k_assoc ?_
    refine Eq.trans (k_region0 rfl (f33r7 k a0 a1 x7 x8)) ?_
    refine Eq.trans (k_cond (t := (decide (x8 < (a0.fFields.length : Int)))) rfl rfl) ?_
    refine bifE2 (fun hc => ?_) fun hc => ?_
    · try rw [hc]
      refine Eq.trans k_skip ?_
      refine Eq.trans (k_block rfl) ?_
      refine Eq.trans (k_region rfl (f33r9 k a0 a1 x7 x8)) ?_
      refine bindE (fun o10 => ?_)
      refine Eq.trans (k_lcond (t := o10) rfl rfl) ?_
      refine bifE2 (fun hc => ?_) fun hc => ?_
      · try rw [hc]
        refine Eq.trans (k_lregion0 rfl (f33r10 k a0 a1 x7 x8)) ?_
        refine Eq.trans blk_normal ?_
        refine Eq.trans (k_lregion0 rfl (f33r8 k a0 a1 x8)) ?_
        refine Eq.trans loop_normal ?_
        exact ih x8 (Go.IntKind.wrap .i64 (x8 + 1))
      · try rw [hc]
        refine Eq.trans k_lskip ?_
        refine Eq.trans blk_normal ?_
        refine Eq.trans (k_lregion0 rfl (ref24_Pages_r8' k a0 a1 x7 x8)) ?_
        refine Eq.trans loop_normal ?_
        exact ih x7 (Go.IntKind.wrap .i64 (x8 + 1))
    · try rw [hc]
      refine Eq.trans k_exit ?_
      refine Eq.trans loop_exit ?_
      exact hK0 x7 x8
theorem f33r11 (k : Nat) (a0 : T_api_Form) (a1 : (List Str)) (y11 : Int) (y12 : Int) : RE k f33a11 f33o11 false ⟨[(1, (V.sl 0 1 (List.map V.str a1))), (2, (V.ptr 2 0 0)), (6, (I y11)), (7, (I y12)), (24, (V.bool false))], [(2, ⟨false, 4, [(enc_T_api_Form a0)]⟩)], 67⟩ = some ⟨[(1, (V.sl 0 1 (List.map V.str a1))), (2, (V.ptr 2 0 0)), (6, (I y11)), (36, (V.bool (decide (y11 < 0))))], [(2, ⟨false, 4, [(enc_T_api_Form a0)]⟩)], 67⟩ :=
  rE rfl
theorem f33r12 (k : Nat) (a0 : T_api_Form) (a1 : (List Str)) (y11 : Int) : RE k f33a12 f33o12 false ⟨[(1, (V.sl 0 1 (List.map V.str a1))), (2, (V.ptr 2 0 0)), (6, (I y11)), (36, (V.bool true))], [(2, ⟨false, 4, [(enc_T_api_Form a0)]⟩)], 67⟩ = some ⟨[(4, (V.sl 0 1 (List.map (fun x => (V.sl 0 1 (List.map V.str x))) ([] : List (List Str))))), (5, (I 2))], [], 67⟩ :=
  rE rfl
theorem f33r13 (k : Nat) (a0 : T_api_Form) (a1 : (List Str)) (y11 : Int) : RE k f33a13 f33o13 false ⟨[(1, (V.sl 0 1 (List.map V.str a1))), (2, (V.ptr 2 0 0)), (6, (I y11)), (36, (V.bool false))], [(2, ⟨false, 4, [(enc_T_api_Form a0)]⟩)], 67⟩ = some ⟨[(1, (V.sl 0 1 (List.map V.str a1))), (2, (V.ptr 2 0 0)), (6, (I y11)), (8, (V.aref 8 0 (List.map (fun x => (V.sl 0 1 (List.map V.str x))) ([] : List (List Str))).length))], [(2, ⟨false, 4, [(enc_T_api_Form a0)]⟩), (8, ⟨true, 1, List.map (fun x => (V.sl 0 1 (List.map V.str x))) ([] : List (List Str))⟩)], 67⟩ :=
  rE rfl
theorem f33r14 (k : Nat) (a0 : T_api_Form) (a1 : (List Str)) (y11 : Int) : RE k f33a14 f33o14 false ⟨[(1, (V.sl 0 1 (List.map V.str a1))), (2, (V.ptr 2 0 0)), (6, (I y11)), (8, (V.aref 8 0 (List.map (fun x => (V.sl 0 1 (List.map V.str x))) ([] : List (List Str))).length))], [(2, ⟨false, 4, [(enc_T_api_Form a0)]⟩), (8, ⟨true, 1, List.map (fun x => (V.sl 0 1 (List.map V.str x))) ([] : List (List Str))⟩)], 67⟩ = ((idx a1 0)).map (fun (o : Str) => (⟨[(1, (V.sl 0 1 (List.map V.str a1))), (2, (V.ptr 2 0 0)), (6, (I y11)), (8, (V.aref 8 0 (List.map (fun x => (V.sl 0 1 (List.map V.str x))) ([] : List (List Str))).length)), (9, (V.str o))], [(2, ⟨false, 4, [(enc_T_api_Form a0)]⟩), (8, ⟨true, 1, List.map (fun x => (V.sl 0 1 (List.map V.str x))) ([] : List (List Str))⟩)], 67⟩ : St)) := by
  refine rg ?_
  refine ra 1 1 ⟨[(1, (V.sl 0 1 (List.map V.str a1))), (2, (V.ptr 2 0 0)), (6, (I y11)), (8, (V.aref 8 0 (List.map (fun x => (V.sl 0 1 (List.map V.str x))) ([] : List (List Str))).length)), (37, (V.sl 0 1 (List.map V.str a1)))], [(2, ⟨false, 4, [(enc_T_api_Form a0)]⟩), (8, ⟨true, 1, List.map (fun x => (V.sl 0 1 (List.map V.str x))) ([] : List (List Str))⟩)], 67⟩ rfl rfl rfl ?_
  refine Eq.trans (reg_pure (x := (idx a1 0)) (w := fun v13 => (V.pro (V.str v13))) rfl rfl rfl rfl (p_index (e := V.str) rfl rfl rfl Go.Proofs.Try.underlying26 rfl (by decide))) ?_
  refine bind_self (fun v13 => ?_)
  exact bind_end rfl
theorem f33r15 (k : Nat) (a0 : T_api_Form) (a1 : (List Str)) (y11 : Int) (x25 : Str) (x26 : (List (List Str))) : RE k f33a15 f33o15 false ⟨[(1, (V.sl 0 1 (List.map V.str a1))), (2, (V.ptr 2 0 0)), (6, (I y11)), (8, (V.aref 8 0 (List.map (fun x => (V.sl 0 1 (List.map V.str x))) x26).length)), (9, (V.str x25))], [(2, ⟨false, 4, [(enc_T_api_Form a0)]⟩), (8, ⟨true, 1, List.map (fun x => (V.sl 0 1 (List.map V.str x))) x26⟩)], 67⟩ = (((idx a0.fFields y11).bind fun v27 => (some ((if v27.fBytes < (x25.length : Int) then v27.fBytes else (x25.length : Int)))))).map (fun (o : Int) => (⟨[(1, (V.sl 0 1 (List.map V.str a1))), (2, (V.ptr 2 0 0)), (6, (I y11)), (8, (V.aref 8 0 (List.map (fun x => (V.sl 0 1 (List.map V.str x))) x26).length)), (9, (V.str x25)), (10, (I o))], [(2, ⟨false, 4, [(enc_T_api_Form a0)]⟩), (8, ⟨true, 1, List.map (fun x => (V.sl 0 1 (List.map V.str x))) x26⟩)], 67⟩ : St)) := by
  refine rg ?_
  refine ra 5 5 ⟨[(1, (V.sl 0 1 (List.map V.str a1))), (2, (V.ptr 2 0 0)), (6, (I y11)), (8, (V.aref 8 0 (List.map (fun x => (V.sl 0 1 (List.map V.str x))) x26).length)), (9, (V.str x25)), (40, (V.str x25)), (41, (I (x25.length : Int))), (42, (V.ptr 2 0 3)), (43, (sSlot (a0.fFields))), (44, (I y11))], [(2, ⟨false, 4, [(enc_T_api_Form a0)]⟩), (8, ⟨true, 1, List.map (fun x => (V.sl 0 1 (List.map V.str x))) x26⟩)], 67⟩ rfl rfl rfl ?_
  refine Eq.trans (reg_pure (x := (idx a0.fFields y11)) (w := fun v27 => (V.pro (enc_T_api_Slot v27))) rfl rfl rfl rfl (p_index (e := enc_T_api_Slot) rfl rfl rfl Go.Proofs.Try.underlying23 rfl (by decide))) ?_
  refine bindE (fun v27 => ?_)
  exact bind_end rfl
theorem f33r16 (k : Nat) (a0 : T_api_Form) (a1 : (List Str)) (y11 : Int) (x25 : Str) (x26 : (List (List Str))) (o28 : Int) : RE k f33a16 f33o16 true ⟨[(1, (V.sl 0 1 (List.map V.str a1))), (2, (V.ptr 2 0 0)), (6, (I y11)), (8, (V.aref 8 0 (List.map (fun x => (V.sl 0 1 (List.map V.str x))) x26).length)), (9, (V.str x25)), (10, (I o28))], [(2, ⟨false, 4, [(enc_T_api_Form a0)]⟩), (8, ⟨true, 1, List.map (fun x => (V.sl 0 1 (List.map V.str x))) x26⟩)], 67⟩ = (((cut x25 0 o28).bind fun v29 => ((cut a1 1 (a1.length : Int)).bind fun v30 => ((app ([v29] : List Str) v30).bind fun v31 => ((ref24_show k a0 v31).bind fun v32 => (app x26 ([v32] : List (List Str)))))))).map (fun (o : (List (List Str))) => (⟨[(1, (V.sl 0 1 (List.map V.str a1))), (2, (V.ptr 2 0 0)), (6, (I y11)), (8, (V.aref 8 0 (List.map (fun x => (V.sl 0 1 (List.map V.str x))) o).length)), (9, (V.str x25)), (10, (I o28))], [(2, ⟨false, 4, [(enc_T_api_Form a0)]⟩), (8, ⟨true, 1, List.map (fun x => (V.sl 0 1 (List.map V.str x))) o⟩)], 67⟩ : St)) := by
  refine Eq.trans (regionE_regA (by decide)) ?_
  refine ra 4 4 ⟨[(1, (V.sl 0 1 (List.map V.str a1))), (2, (V.ptr 2 0 0)), (6, (I y11)), (8, (V.aref 8 0 (List.map (fun x => (V.sl 0 1 (List.map V.str x))) x26).length)), (9, (V.str x25)), (10, (I o28)), (49, (V.aref 8 0 (List.map (fun x => (V.sl 0 1 (List.map V.str x))) x26).length)), (50, (enc_T_api_Form a0)), (51, (V.str x25)), (52, (I o28))], [(2, ⟨false, 4, [(enc_T_api_Form a0)]⟩), (8, ⟨true, 1, List.map (fun x => (V.sl 0 1 (List.map V.str x))) x26⟩)], 67⟩ rfl rfl rfl ?_
  refine Eq.trans (reg_pure (x := (cut x25 0 o28)) (w := fun v29 => (V.str v29)) rfl rfl rfl rfl (p_sliceS rfl rfl rfl rfl rfl rfl Go.Proofs.Try.underlying9)) ?_
  refine bindE (fun v29 => ?_)
  refine ba 2 7 ⟨[(1, (V.sl 0 1 (List.map V.str a1))), (2, (V.ptr 2 0 0)), (6, (I y11)), (8, (V.aref 8 0 (List.map (fun x => (V.sl 0 1 (List.map V.str x))) x26).length)), (9, (V.str x25)), (10, (I o28)), (49, (V.aref 8 0 (List.map (fun x => (V.sl 0 1 (List.map V.str x))) x26).length)), (50, (enc_T_api_Form a0)), (51, (V.str x25)), (52, (I o28)), (53, (V.str v29)), (54, (V.sl 1 1 (List.map V.str ([v29] : List Str)))), (55, (V.sl 0 1 (List.map V.str a1)))], [(2, ⟨false, 4, [(enc_T_api_Form a0)]⟩), (8, ⟨true, 1, List.map (fun x => (V.sl 0 1 (List.map V.str x))) x26⟩)], 67⟩ rfl rfl rfl ?_
  refine Eq.trans (reg_pure (x := (cut a1 1 (a1.length : Int))) (w := fun v30 => (V.sl 0 1 (List.map V.str v30))) rfl rfl rfl rfl (p_slice (e := V.str) rfl rfl rfl rfl rfl (by simp [bound]) Go.Proofs.Try.underlying26 rfl (by decide))) ?_
  refine bindE (fun v30 => ?_)
  refine ba 0 8 ⟨[(1, (V.sl 0 1 (List.map V.str a1))), (2, (V.ptr 2 0 0)), (6, (I y11)), (8, (V.aref 8 0 (List.map (fun x => (V.sl 0 1 (List.map V.str x))) x26).length)), (9, (V.str x25)), (10, (I o28)), (49, (V.aref 8 0 (List.map (fun x => (V.sl 0 1 (List.map V.str x))) x26).length)), (50, (enc_T_api_Form a0)), (51, (V.str x25)), (52, (I o28)), (53, (V.str v29)), (54, (V.sl 1 1 (List.map V.str ([v29] : List Str)))), (55, (V.sl 0 1 (List.map V.str a1))), (56, (V.sl 0 1 (List.map V.str v30)))], [(2, ⟨false, 4, [(enc_T_api_Form a0)]⟩), (8, ⟨true, 1, List.map (fun x => (V.sl 0 1 (List.map V.str x))) x26⟩)], 67⟩ rfl rfl rfl ?_
  refine Eq.trans (reg_eff (x := (app ([v29] : List Str) v30)) (w := fun v31 => ((V.sl 1 1 (List.map V.str v31)), _)) rfl rfl rfl rfl (p_app (e := V.str) rfl rfl rfl rfl rfl rfl rfl rfl rfl rfl (by decide))) ?_
  refine bindE (fun v31 => ?_)
  refine ba 0 9 ⟨[(1, (V.sl 0 1 (List.map V.str a1))), (2, (V.ptr 2 0 0)), (6, (I y11)), (8, (V.aref 8 0 (List.map (fun x => (V.sl 0 1 (List.map V.str x))) x26).length)), (9, (V.str x25)), (10, (I o28)), (49, (V.aref 8 0 (List.map (fun x => (V.sl 0 1 (List.map V.str x))) x26).length)), (50, (enc_T_api_Form a0)), (51, (V.str x25)), (52, (I o28)), (53, (V.str v29)), (54, (V.sl 0 1 (List.map V.str ([v29] : List Str)))), (55, (V.sl 0 1 (List.map V.str a1))), (56, (V.sl 0 1 (List.map V.str v30))), (57, (V.sl 0 1 (List.map V.str v31)))], [(2, ⟨false, 4, [(enc_T_api_Form a0)]⟩), (8, ⟨true, 1, List.map (fun x => (V.sl 0 1 (List.map V.str x))) x26⟩)], 67⟩ rfl rfl rfl ?_
  refine Eq.trans (reg_pure (x := (ref24_show k a0 v31)) (w := fun v32 => (V.sl 0 1 (List.map V.str v32))) rfl rfl rfl rfl (p_call rfl rfl rfl rfl rfl (ref24_show_ok k a0 v31) (.inl rfl))) ?_
  refine bindE (fun v32 => ?_)
  refine ba 1 11 ⟨[(1, (V.sl 0 1 (List.map V.str a1))), (2, (V.ptr 2 0 0)), (6, (I y11)), (8, (V.aref 8 0 (List.map (fun x => (V.sl 0 1 (List.map V.str x))) x26).length)), (9, (V.str x25)), (10, (I o28)), (49, (V.aref 8 0 (List.map (fun x => (V.sl 0 1 (List.map V.str x))) x26).length)), (50, (enc_T_api_Form a0)), (51, (V.str x25)), (52, (I o28)), (53, (V.str v29)), (54, (V.sl 0 1 (List.map V.str ([v29] : List Str)))), (55, (V.sl 0 1 (List.map V.str a1))), (56, (V.sl 0 1 (List.map V.str v30))), (57, (V.sl 0 1 (List.map V.str v31))), (58, (V.sl 0 1 (List.map V.str v32))), (59, (V.sl 0 1 (List.map (fun x => (V.sl 0 1 (List.map V.str x))) ([v32] : List (List Str)))))], [(2, ⟨false, 4, [(enc_T_api_Form a0)]⟩), (8, ⟨true, 1, List.map (fun x => (V.sl 0 1 (List.map V.str x))) x26⟩)], 67⟩ rfl rfl rfl ?_
  refine Eq.trans (reg_eff (x := (app x26 ([v32] : List (List Str)))) (w := fun v33 => ((V.aref 8 0 (List.map (fun x => (V.sl 0 1 (List.map V.str x))) v33).length), _)) rfl rfl rfl rfl (p_appF (e := (fun x => (V.sl 0 1 (List.map V.str x)))) (l := x26) rfl rfl rfl rfl rfl rfl rfl rfl rfl rfl rfl (of_decide_eq_true rfl))) ?_
  refine bind_self (fun v33 => ?_)
  exact bind_end rfl
theorem f33r17 (k : Nat) (a0 : T_api_Form) (a1 : (List Str)) (y11 : Int) (x25 : Str) (o28 : Int) (o34 : (List (List Str))) : RE k f33a17 f33o17 false ⟨[(1, (V.sl 0 1 (List.map V.str a1))), (2, (V.ptr 2 0 0)), (6, (I y11)), (8, (V.aref 8 0 (List.map (fun x => (V.sl 0 1 (List.map V.str x))) o34).length)), (9, (V.str x25)), (10, (I o28))], [(2, ⟨false, 4, [(enc_T_api_Form a0)]⟩), (8, ⟨true, 1, List.map (fun x => (V.sl 0 1 (List.map V.str x))) o34⟩)], 67⟩ = ((cut x25 o28 (x25.length : Int))).map (fun (o : Str) => (⟨[(1, (V.sl 0 1 (List.map V.str a1))), (2, (V.ptr 2 0 0)), (6, (I y11)), (8, (V.aref 8 0 (List.map (fun x => (V.sl 0 1 (List.map V.str x))) o34).length)), (9, (V.str o))], [(2, ⟨false, 4, [(enc_T_api_Form a0)]⟩), (8, ⟨true, 1, List.map (fun x => (V.sl 0 1 (List.map V.str x))) o34⟩)], 67⟩ : St)) := by
  refine rg ?_
  refine ra 2 2 ⟨[(1, (V.sl 0 1 (List.map V.str a1))), (2, (V.ptr 2 0 0)), (6, (I y11)), (8, (V.aref 8 0 (List.map (fun x => (V.sl 0 1 (List.map V.str x))) o34).length)), (9, (V.str x25)), (10, (I o28)), (61, (V.str x25)), (62, (I o28))], [(2, ⟨false, 4, [(enc_T_api_Form a0)]⟩), (8, ⟨true, 1, List.map (fun x => (V.sl 0 1 (List.map V.str x))) o34⟩)], 67⟩ rfl rfl rfl ?_
  refine Eq.trans (reg_pure (x := (cut x25 o28 (x25.length : Int))) (w := fun v35 => (V.str v35)) rfl rfl rfl rfl (p_sliceS rfl rfl rfl rfl rfl rfl Go.Proofs.Try.underlying9)) ?_
  refine bind_self (fun v35 => ?_)
  exact bind_end rfl
theorem f33r18 (k : Nat) (a0 : T_api_Form) (a1 : (List Str)) (y11 : Int) (o34 : (List (List Str))) (o36 : Str) : RE k f33a18 f33o18 false ⟨[(1, (V.sl 0 1 (List.map V.str a1))), (2, (V.ptr 2 0 0)), (6, (I y11)), (8, (V.aref 8 0 (List.map (fun x => (V.sl 0 1 (List.map V.str x))) o34).length)), (9, (V.str o36))], [(2, ⟨false, 4, [(enc_T_api_Form a0)]⟩), (8, ⟨true, 1, List.map (fun x => (V.sl 0 1 (List.map V.str x))) o34⟩)], 67⟩ = some ⟨[(1, (V.sl 0 1 (List.map V.str a1))), (2, (V.ptr 2 0 0)), (6, (I y11)), (8, (V.aref 8 0 (List.map (fun x => (V.sl 0 1 (List.map V.str x))) o34).length)), (9, (V.str o36)), (65, (V.bool (o36 == ([] : Str))))], [(2, ⟨false, 4, [(enc_T_api_Form a0)]⟩), (8, ⟨true, 1, List.map (fun x => (V.sl 0 1 (List.map V.str x))) o34⟩)], 67⟩ :=
  rE rfl
theorem f33r19 (k : Nat) (a0 : T_api_Form) (a1 : (List Str)) (y11 : Int) (o34 : (List (List Str))) (o36 : Str) : RE k f33a19 f33o19 false ⟨[(1, (V.sl 0 1 (List.map V.str a1))), (2, (V.ptr 2 0 0)), (6, (I y11)), (8, (V.aref 8 0 (List.map (fun x => (V.sl 0 1 (List.map V.str x))) o34).length)), (9, (V.str o36))], [(2, ⟨false, 4, [(enc_T_api_Form a0)]⟩), (8, ⟨true, 1, List.map (fun x => (V.sl 0 1 (List.map V.str x))) o34⟩)], 67⟩ = some ⟨[(4, (V.sl 0 1 (List.map (fun x => (V.sl 0 1 (List.map V.str x))) o34))), (5, (I 0))], [], 67⟩ := by
  refine rg ?_
  refine ra 1 1 ⟨[(1, (V.sl 0 1 (List.map V.str a1))), (2, (V.ptr 2 0 0)), (6, (I y11)), (8, (V.aref 8 0 (List.map (fun x => (V.sl 0 1 (List.map V.str x))) o34).length)), (9, (V.str o36)), (66, (V.aref 8 0 (List.map (fun x => (V.sl 0 1 (List.map V.str x))) o34).length))], [(2, ⟨false, 4, [(enc_T_api_Form a0)]⟩), (8, ⟨true, 1, List.map (fun x => (V.sl 0 1 (List.map V.str x))) o34⟩)], 67⟩ rfl rfl rfl ?_
  refine Eq.trans (reg_eff (x := some ()) (w := fun _ => ((V.sl 2 1 (List.map (fun x => (V.sl 0 1 (List.map V.str x))) o34)), _)) rfl rfl rfl rfl (p_close (e := (fun x => (V.sl 0 1 (List.map V.str x)))) rfl rfl rfl rfl rfl (of_decide_eq_true rfl))) ?_
  refine Eq.trans some_bind ?_
  exact bind_end rfl
theorem ref24_Pages_L2_ok (k : Nat) (a0 : T_api_Form) (a1 : (List Str)) (y11 : Int)   (Kst : X × St → Option (V × List V))  (hret : ∀ s, Kst (X.ret, s) = endK prog 67 [(enc_T_api_Form a0), (V.sl 0 1 (List.map V.str a1))] [] [.tmp 4, .tmp 5] (X.ret, s)) :
    ∀ (m : Nat) (x25 : Str) (x26 : (List (List Str))), (iter (exec prog (EV k) f33n k f33b1) m ⟨[(1, (V.sl 0 1 (List.map V.str a1))), (2, (V.ptr 2 0 0)), (6, (I y11)), (8, (V.aref 8 0 (List.map (fun x => (V.sl 0 1 (List.map V.str x))) x26).length)), (9, (V.str x25))], [(2, ⟨false, 4, [(enc_T_api_Form a0)]⟩), (8, ⟨true, 1, List.map (fun x => (V.sl 0 1 (List.map V.str x))) x26⟩)], 67⟩).bind Kst = (ref24_Pages_L2 k a0 a1 y11 m x25 x26).map ref24_Pages_fin := by
  intro m
  induction m with
  | zero => intros; rfl
  | succ m ih =>
    intro x25 x26
    unfold ref24_Pages_L2
    refine Eq.trans k_round ?_
    refine Eq.trans (k_lblock rfl) ?_
    refine Eq.trans (k_region rfl (f33r15 k a0 a1 y11 x25 x26)) ?_
    refine bindE (fun o28 => ?_)
    refine Eq.trans (k_region rfl (f33r16 k a0 a1 y11 x25 x26 o28)) ?_
    refine bindE (fun o34 => ?_)
    refine Eq.trans (k_region rfl (f33r17 k a0 a1 y11 x25 o28 o34)) ?_
    refine bindE (fun o36 => ?_)
    refine Eq.trans (k_region0 rfl (f33r18 k a0 a1 y11 o34 o36)) ?_
    refine Eq.trans (k_lcond (t := (o36 == ([] : Str))) (st' := ⟨[(1, (V.sl 0 1 (List.map V.str a1))), (2, (V.ptr 2 0 0)), (6, (I y11)), (8, (V.aref 8 0 (List.map (fun x => (V.sl 0 1 (List.map V.str x))) o34).length)), (9, (V.str o36))], [(2, ⟨false, 4, [(enc_T_api_Form a0)]⟩), (8, ⟨true, 1, List.map (fun x => (V.sl 0 1 (List.map V.str x))) o34⟩)], 67⟩) rfl rfl) ?_
    refine bifE2 (fun hc => ?_) fun hc => ?_
    · try rw [hc]
      refine Eq.trans (k_region0 rfl (f33r19 k a0 a1 y11 o34 o36)) ?_
      refine Eq.trans k_lret ?_
      refine Eq.trans blk_ret ?_
      refine Eq.trans loop_ret ?_
      refine Eq.trans (hret _) ?_
      rfl
    · try rw [hc]
      refine Eq.trans k_lskip ?_
      refine Eq.trans blk_normal ?_
      refine Eq.trans k_lskip ?_
      refine Eq.trans loop_normal ?_
      exact ih o36 o34
theorem ref24_Pages_ok (k : Nat) (a0 : T_api_Form) (a1 : (List Str)) : EV k 33 [(enc_T_api_Form a0), (V.sl 0 1 (List.map V.str a1))] = (ref24_Pages k a0 a1).map ref24_Pages_fin := by
  cases k with
  | zero => rfl
  | succ k =>
    unfold ref24_Pages
    refine Eq.trans (evF_succ (c := f33c) (N := 67) (regs := f33n) rfl Go.Proofs.Try.func33 rfl (by decide) rfl rfl rfl) ?_
    refine Eq.trans (k_region0 rfl (f33r0 k a0 a1)) ?_
    refine Eq.trans (k_block rfl) ?_
    refine Eq.trans (k_region rfl (f33r1 k a0 a1)) ?_
    refine bindE (fun o2 => ?_)
    refine Eq.trans (k_lcond (t := o2) rfl rfl) ?_
    refine bifE2 (fun hc => ?_) fun hc => ?_
    · try rw [hc]
      refine Eq.trans (k_region0 rfl (f33r2 k a0 a1)) ?_
      refine Eq.trans k_lret ?_
      refine Eq.trans blk_ret ?_
      rfl
    · try rw [hc]
      refine Eq.trans (k_region rfl (f33r3 k a0 a1)) ?_
      refine bindE (fun o4 => ?_)
      refine Eq.trans (k_lcond (t := o4) rfl rfl) ?_
      refine bifE2 (fun hc => ?_) fun hc => ?_
      · try rw [hc]
        refine Eq.trans (k_region0 rfl (f33r4 k a0 a1)) ?_
        refine Eq.trans k_lret ?_
        refine Eq.trans blk_ret ?_
        rfl
      · try rw [hc]
        refine Eq.trans k_lskip ?_
        refine Eq.trans blk_normal ?_
        refine Eq.trans (k_region0 rfl (f33r5 k a0 a1)) ?_
        refine Eq.trans k_assoc ?_
        refine Eq.trans (k_region0 rfl (f33r6 k a0 a1)) ?_
        refine Eq.trans (k_block rfl) ?_
        refine Eq.trans k_loop ?_
        refine ref24_Pages_L1_ok k a0 a1 _ _ ?h_ref24_Pages_L1_0 ?hr_ref24_Pages_L1 k (-1) 0
        · intro y11 y12
          refine Eq.trans blk_exit ?_
          refine Eq.trans k_assoc ?_
          refine Eq.trans (k_region0 rfl (f33r11 k a0 a1 y11 y12)) ?_
          refine Eq.trans (k_cond (t := (decide (y11 < 0))) rfl rfl) ?_
          refine bifE2 (fun hc => ?_) fun hc => ?_
          · try rw [hc]
            refine Eq.trans k_assoc ?_
            refine Eq.trans (k_region0 rfl (f33r12 k a0 a1 y11)) ?_
            refine Eq.trans k_ret ?_
            rfl
          · try rw [hc]
            refine Eq.trans k_skip ?_
            refine Eq.trans (k_region0 rfl (f33r13 k a0 a1 y11)) ?_
            refine Eq.trans (k_region rfl (f33r14 k a0 a1 y11)) ?_
            refine bindE (fun o14 => ?_)
            refine Eq.trans (k_lblock rfl) ?_
            refine Eq.trans k_loop ?_
            refine ref24_Pages_L2_ok k a0 a1 y11 _ ?hr_ref24_Pages_L2 k o14 ([] : List (List Str))
            · intro s; exact rfl
        · intro s; exact rfl
def slices_Equal_string_fin : Bool → V × List V := fun r => ((V.bool r), [])
theorem f44r0 (k : Nat) (a0 : (List Str)) (a1 : (List Str)) : RE k f44a0 f44o0 false ⟨[(0, (V.sl 0 1 (List.map V.str a0))), (1, (V.sl 0 1 (List.map V.str a1)))], [], 26⟩ = some ⟨[(0, (V.sl 0 1 (List.map V.str a0))), (1, (V.sl 0 1 (List.map V.str a1)))], [], 26⟩ :=
  rE rfl
theorem f44r1 (k : Nat) (a0 : (List Str)) (a1 : (List Str)) : RE k f44a1 f44o1 false ⟨[(0, (V.sl 0 1 (List.map V.str a0))), (1, (V.sl 0 1 (List.map V.str a1)))], [], 26⟩ = some ⟨[(0, (V.sl 0 1 (List.map V.str a0))), (1, (V.sl 0 1 (List.map V.str a1))), (10, (V.bool ((a0.length : Int) != (a1.length : Int))))], [], 26⟩ := by
  refine rg ?_
  refine ra 1 1 ⟨[(0, (V.sl 0 1 (List.map V.str a0))), (1, (V.sl 0 1 (List.map V.str a1))), (6, (V.sl 0 1 (List.map V.str a0)))], [], 26⟩ rfl rfl rfl ?_
  refine Eq.trans (reg_pure (x := some ()) (w := fun _ => (I (a0.length : Int))) rfl rfl rfl rfl (p_len (e := V.str) rfl rfl rfl rfl rfl rfl Go.Proofs.Try.underlying26)) ?_
  refine Eq.trans some_bind ?_
  refine ba 1 3 ⟨[(0, (V.sl 0 1 (List.map V.str a0))), (1, (V.sl 0 1 (List.map V.str a1))), (6, (V.sl 0 1 (List.map V.str a0))), (7, (I (a0.length : Int))), (8, (V.sl 0 1 (List.map V.str a1)))], [], 26⟩ rfl rfl rfl ?_
  refine Eq.trans (reg_pure (x := some ()) (w := fun _ => (I (a1.length : Int))) rfl rfl rfl rfl (p_len (e := V.str) rfl rfl rfl rfl rfl rfl Go.Proofs.Try.underlying26)) ?_
  refine Eq.trans some_bind ?_
  exact bind_end rfl
theorem f44r2 (k : Nat) (a0 : (List Str)) (a1 : (List Str)) : RE k f44a2 f44o2 false ⟨[(0, (V.sl 0 1 (List.map V.str a0))), (1, (V.sl 0 1 (List.map V.str a1))), (10, (V.bool true))], [], 26⟩ = some ⟨[(4, (V.bool false))], [], 26⟩ :=
  rE rfl
theorem f44r3 (k : Nat) (a0 : (List Str)) (a1 : (List Str)) : RE k f44a3 f44o3 false ⟨[(0, (V.sl 0 1 (List.map V.str a0))), (1, (V.sl 0 1 (List.map V.str a1))), (10, (V.bool false))], [], 26⟩ = some ⟨[(0, (V.sl 0 1 (List.map V.str a0))), (1, (V.sl 0 1 (List.map V.str a1))), (12, (I (a0.length : Int))), (13, (I 0))], [], 26⟩ := by
  refine rg ?_
  refine ra 1 1 ⟨[(0, (V.sl 0 1 (List.map V.str a0))), (1, (V.sl 0 1 (List.map V.str a1))), (10, (V.bool false)), (11, (V.sl 0 1 (List.map V.str a0)))], [], 26⟩ rfl rfl rfl ?_
  refine Eq.trans (reg_pure (x := some ()) (w := fun _ => (I (a0.length : Int))) rfl rfl rfl rfl (p_len (e := V.str) rfl rfl rfl rfl rfl rfl Go.Proofs.Try.underlying26)) ?_
  refine Eq.trans some_bind ?_
  exact bind_end rfl
theorem f44r4 (k : Nat) (a0 : (List Str)) (a1 : (List Str)) (x4 : Int) : RE k f44a4 f44o4 false ⟨[(0, (V.sl 0 1 (List.map V.str a0))), (1, (V.sl 0 1 (List.map V.str a1))), (12, (I (a0.length : Int))), (13, (I x4))], [], 26⟩ = some ⟨[(0, (V.sl 0 1 (List.map V.str a0))), (1, (V.sl 0 1 (List.map V.str a1))), (12, (I (a0.length : Int))), (13, (I x4)), (14, (V.bool (decide (x4 < (a0.length : Int)))))], [], 26⟩ :=
  rE rfl
theorem f44r5 (k : Nat) (a0 : (List Str)) (a1 : (List Str)) (x4 : Int) : RE k f44a5 f44o5 false ⟨[(0, (V.sl 0 1 (List.map V.str a0))), (1, (V.sl 0 1 (List.map V.str a1))), (12, (I (a0.length : Int))), (13, (I x4)), (14, (V.bool true))], [], 26⟩ = some ⟨[(0, (V.sl 0 1 (List.map V.str a0))), (1, (V.sl 0 1 (List.map V.str a1))), (5, (I x4)), (12, (I (a0.length : Int))), (13, (I x4))], [], 26⟩ :=
  rE rfl
theorem f44r6 (k : Nat) (a0 : (List Str)) (a1 : (List Str)) (x4 : Int) : RE k f44a6 f44o6 true ⟨[(0, (V.sl 0 1 (List.map V.str a0))), (1, (V.sl 0 1 (List.map V.str a1))), (5, (I x4)), (12, (I (a0.length : Int))), (13, (I x4))], [], 26⟩ = (((idx a0 x4).bind fun v5 => ((idx a1 x4).bind fun v6 => (some ((!(v5 == v6))))))).map (fun (o : Bool) => (⟨[(0, (V.sl 0 1 (List.map V.str a0))), (1, (V.sl 0 1 (List.map V.str a1))), (12, (I (a0.length : Int))), (13, (I x4)), (24, (V.bool o))], [], 26⟩ : St)) := by
  refine Eq.trans (regionE_regp (p := 9) (dk := true) (t := [(0, (V.sl 0 1 (List.map V.str a0))), (1, (V.sl 0 1 (List.map V.str a1))), (5, (I x4)), (12, (I (a0.length : Int))), (13, (I x4))]) (σ := []) (n := 26) rfl (by decide) (by decide) rfl) ?_
  refine Eq.trans (regp_adv (m := 2) (j := 2) (t' := [(0, (V.sl 0 1 (List.map V.str a0))), (1, (V.sl 0 1 (List.map V.str a1))), (5, (I x4)), (12, (I (a0.length : Int))), (13, (I x4)), (16, (V.sl 0 1 (List.map V.str a0))), (17, (I x4))]) rfl rfl rfl) ?_
  refine Eq.trans (regp_pure (x := (idx a0 x4)) (w := fun v5 => (V.pro (V.str v5))) rfl rfl rfl rfl rfl (p_index (e := V.str) rfl rfl rfl Go.Proofs.Try.underlying26 rfl (by decide))) ?_
  refine bindE (fun v5 => ?_)
  refine Eq.trans (putp_adv (m := 3) (j := 6) (t' := [(0, (V.sl 0 1 (List.map V.str a0))), (1, (V.sl 0 1 (List.map V.str a1))), (5, (I x4)), (12, (I (a0.length : Int))), (13, (I x4)), (16, (V.sl 0 1 (List.map V.str a0))), (17, (I x4)), (18, (V.pro (V.str v5))), (19, (V.str v5)), (20, (V.sl 0 1 (List.map V.str a1))), (21, (I x4))]) rfl rfl rfl) ?_
  refine Eq.trans (regp_pure (x := (idx a1 x4)) (w := fun v6 => (V.pro (V.str v6))) rfl rfl rfl rfl rfl (p_index (e := V.str) rfl rfl rfl Go.Proofs.Try.underlying26 rfl (by decide))) ?_
  refine bindE (fun v6 => ?_)
  exact regp_end rfl
theorem f44r7 (k : Nat) (a0 : (List Str)) (a1 : (List Str)) (x4 : Int) : RE k f44a7 f44o7 false ⟨[(0, (V.sl 0 1 (List.map V.str a0))), (1, (V.sl 0 1 (List.map V.str a1))), (12, (I (a0.length : Int))), (13, (I x4)), (24, (V.bool true))], [], 26⟩ = some ⟨[(4, (V.bool false))], [], 26⟩ :=
  rE rfl
theorem f44r8 (k : Nat) (a0 : (List Str)) (a1 : (List Str)) (x4 : Int) : RE k f44a8 f44o8 false ⟨[(0, (V.sl 0 1 (List.map V.str a0))), (1, (V.sl 0 1 (List.map V.str a1))), (12, (I (a0.length : Int))), (13, (I x4)), (24, (V.bool false))], [], 26⟩ = some ⟨[(0, (V.sl 0 1 (List.map V.str a0))), (1, (V.sl 0 1 (List.map V.str a1))), (12, (I (a0.length : Int))), (13, (I (Go.IntKind.wrap .i64 (x4 + 1))))], [], 26⟩ :=
  rE rfl
theorem slices_Equal_string_L1_ok (k : Nat) (a0 : (List Str)) (a1 : (List Str))  (K0 : Int → Option Bool) (Kst : X × St → Option (V × List V)) (hK0 : ∀ (y0 : Int), Kst (X.exit 0, ⟨[(0, (V.sl 0 1 (List.map V.str a0))), (1, (V.sl 0 1 (List.map V.str a1))), (12, (I (a0.length : Int))), (13, (I y0)), (14, (V.bool false))], [], 26⟩) = (K0 y0).map slices_Equal_string_fin) (hret : ∀ s, Kst (X.ret, s) = endK prog 26 [(V.sl 0 1 (List.map V.str a0)), (V.sl 0 1 (List.map V.str a1))] [] [.tmp 4] (X.ret, s)) :
    ∀ (m : Nat) (x4 : Int), (iter (exec prog (EV k) f44n k f44b0) m ⟨[(0, (V.sl 0 1 (List.map V.str a0))), (1, (V.sl 0 1 (List.map V.str a1))), (12, (I (a0.length : Int))), (13, (I x4))], [], 26⟩).bind Kst = (slices_Equal_string_L1 a0 a1 K0 m x4).map slices_Equal_string_fin := by
  intro m
  induction m with
  | zero => intros; rfl
  | succ m ih =>
    intro x4
    unfold slices_Equal_string_L1
    refine Eq.trans k_round ?_
    refine Eq.trans (k_region0 rfl (f44r4 k a0 a1 x4)) ?_
    refine Eq.trans (k_cond (t := (decide (x4 < (a0.length : Int)))) rfl rfl) ?_
    refine bifE2 (fun hc => ?_) fun hc => ?_
    · rw [hc]
      refine Eq.trans k_skip ?_
      refine Eq.trans (k_block rfl) ?_
      refine Eq.trans (k_region0 rfl (f44r5 k a0 a1 x4)) ?_
      refine Eq.trans (k_region rfl (f44r6 k a0 a1 x4)) ?_
      refine bindE (fun o7 => ?_)
      refine Eq.trans (k_lcond (t := o7) rfl rfl) ?_
      refine bifE2 (fun hc => ?_) fun hc => ?_
      · rw [hc]
        refine Eq.trans (k_region0 rfl (f44r7 k a0 a1 x4)) ?_
        refine Eq.trans k_lret ?_
        refine Eq.trans blk_ret ?_
        refine Eq.trans loop_ret ?_
        refine Eq.trans (hret _) ?_
        rfl
      · rw [hc]
        refine Eq.trans k_lskip ?_
        refine Eq.trans blk_normal ?_
        refine Eq.trans (k_lregion0 rfl (f44r8 k a0 a1 x4)) ?_
        refine Eq.trans loop_normal ?_
        exact ih (Go.IntKind.wrap .i64 (x4 + 1))
    · rw [hc]
      refine Eq.trans k_exit ?_
      refine Eq.trans loop_exit ?_
      exact hK0 x4
theorem f44r9 (k : Nat) (a0 : (List Str)) (a1 : (List Str)) (y8 : Int) : RE k f44a9 f44o9 false ⟨[(0, (V.sl 0 1 (List.map V.str a0))), (1, (V.sl 0 1 (List.map V.str a1))), (12, (I (a0.length : Int))), (13, (I y8)), (14, (V.bool false))], [], 26⟩ = some ⟨[(4, (V.bool true))], [], 26⟩ :=
  rE rfl
theorem slices_Equal_string_ok (k : Nat) (a0 : (List Str)) (a1 : (List Str)) : EV k 44 [(V.sl 0 1 (List.map V.str a0)), (V.sl 0 1 (List.map V.str a1))] = (slices_Equal_string k a0 a1).map slices_Equal_string_fin := by
  cases k with
  | zero => rfl
  | succ k =>
    unfold slices_Equal_string
    refine Eq.trans (evF_succ (c := f44c) (N := 26) (regs := f44n) rfl Go.Proofs.Try.func44 rfl (by decide) rfl rfl rfl) ?_
    refine Eq.trans (k_region0 rfl (f44r0 k a0 a1)) ?_
    refine Eq.trans k_assoc ?_
    refine Eq.trans (k_region0 rfl (f44r1 k a0 a1)) ?_
    refine Eq.trans (k_cond (t := ((a0.length : Int) != (a1.length : Int))) rfl rfl) ?_
    refine bifE2 (fun hc => ?_) fun hc => ?_
    · rw [hc]
      refine Eq.trans k_assoc ?_
      refine Eq.trans (k_region0 rfl (f44r2 k a0 a1)) ?_
      refine Eq.trans k_ret ?_
      rfl
    · rw [hc]
      refine Eq.trans k_skip ?_
      refine Eq.trans k_assoc ?_
      refine Eq.trans (k_region0 rfl (f44r3 k a0 a1)) ?_
      refine Eq.trans (k_block rfl) ?_
      refine Eq.trans k_loop ?_
      refine slices_Equal_string_L1_ok k a0 a1 _ _ ?h_slices_Equal_string_L1_0 ?hr_slices_Equal_string_L1 k 0
      · intro y8
        refine Eq.trans blk_exit ?_
        refine Eq.trans (k_region0 rfl (f44r9 k a0 a1 y8)) ?_
        refine Eq.trans k_lret ?_
        rfl
      · intro s; exact rfl
def screen_IsPicture_fin : (Bool × Int) → V × List V := fun r => (.tup [(V.bool r.1), (I r.2)], [])
theorem f16r0 (k : Nat) (a0 : T_api_Form) (a1 : (List Str)) : RE k f16a0 f16o0 false ⟨[(0, (enc_T_api_Form a0)), (1, (V.sl 0 1 (List.map V.str a1)))], [], 57⟩ = some ⟨[(1, (V.sl 0 1 (List.map V.str a1))), (2, (V.ptr 2 0 0))], [(2, ⟨false, 4, [(enc_T_api_Form a0)]⟩)], 57⟩ :=
  rE rfl
theorem f16r1 (k : Nat) (a0 : T_api_Form) (a1 : (List Str)) : RE k f16a1 f16o1 false ⟨[(1, (V.sl 0 1 (List.map V.str a1))), (2, (V.ptr 2 0 0))], [(2, ⟨false, 4, [(enc_T_api_Form a0)]⟩)], 57⟩ = (((screen_Valid k a0).bind fun v1 => (some ((!v1))))).map (fun (o : Bool) => (⟨[(1, (V.sl 0 1 (List.map V.str a1))), (2, (V.ptr 2 0 0)), (13, (V.bool o))], [(2, ⟨false, 4, [(enc_T_api_Form a0)]⟩)], 57⟩ : St)) := by
  refine rg ?_
  refine ra 1 1 ⟨[(1, (V.sl 0 1 (List.map V.str a1))), (2, (V.ptr 2 0 0)), (11, (enc_T_api_Form a0))], [(2, ⟨false, 4, [(enc_T_api_Form a0)]⟩)], 57⟩ rfl rfl rfl ?_
  refine Eq.trans (reg_pure (x := (screen_Valid k a0)) (w := fun v1 => (V.bool v1)) rfl rfl rfl rfl (p_call rfl rfl rfl rfl rfl (screen_Valid_ok k a0) (.inl rfl))) ?_
  refine bindE (fun v1 => ?_)
  exact bind_end rfl
theorem f16r2 (k : Nat) (a0 : T_api_Form) (a1 : (List Str)) : RE k f16a2 f16o2 false ⟨[(1, (V.sl 0 1 (List.map V.str a1))), (2, (V.ptr 2 0 0)), (13, (V.bool true))], [(2, ⟨false, 4, [(enc_T_api_Form a0)]⟩)], 57⟩ = some ⟨[(4, (V.bool false)), (5, (I 220))], [], 57⟩ :=
  rE rfl
theorem f16r3 (k : Nat) (a0 : T_api_Form) (a1 : (List Str)) : RE k f16a3 f16o3 false ⟨[(1, (V.sl 0 1 (List.map V.str a1))), (2, (V.ptr 2 0 0)), (13, (V.bool false))], [(2, ⟨false, 4, [(enc_T_api_Form a0)]⟩)], 57⟩ = (((screen_fits k a0 a1).bind fun v3 => (some ((!v3))))).map (fun (o : Bool) => (⟨[(1, (V.sl 0 1 (List.map V.str a1))), (2, (V.ptr 2 0 0)), (17, (V.bool o))], [(2, ⟨false, 4, [(enc_T_api_Form a0)]⟩)], 57⟩ : St)) := by
  refine rg ?_
  refine ra 2 2 ⟨[(1, (V.sl 0 1 (List.map V.str a1))), (2, (V.ptr 2 0 0)), (13, (V.bool false)), (14, (enc_T_api_Form a0)), (15, (V.sl 0 1 (List.map V.str a1)))], [(2, ⟨false, 4, [(enc_T_api_Form a0)]⟩)], 57⟩ rfl rfl rfl ?_
  refine Eq.trans (reg_pure (x := (screen_fits k a0 a1)) (w := fun v3 => (V.bool v3)) rfl rfl rfl rfl (p_call rfl rfl rfl rfl rfl (screen_fits_ok k a0 a1) (.inl rfl))) ?_
  refine bindE (fun v3 => ?_)
  exact bind_end rfl
theorem f16r4 (k : Nat) (a0 : T_api_Form) (a1 : (List Str)) : RE k f16a4 f16o4 false ⟨[(1, (V.sl 0 1 (List.map V.str a1))), (2, (V.ptr 2 0 0)), (17, (V.bool true))], [(2, ⟨false, 4, [(enc_T_api_Form a0)]⟩)], 57⟩ = some ⟨[(4, (V.bool false)), (5, (I 0))], [], 57⟩ :=
  rE rfl
theorem f16r5 (k : Nat) (a0 : T_api_Form) (a1 : (List Str)) : RE k f16a5 f16o5 false ⟨[(1, (V.sl 0 1 (List.map V.str a1))), (2, (V.ptr 2 0 0)), (17, (V.bool false))], [(2, ⟨false, 4, [(enc_T_api_Form a0)]⟩)], 57⟩ = (((screen_lengths k a0).bind fun v5 => (some (v5.2)))).map (fun (o : Int) => (⟨[(1, (V.sl 0 1 (List.map V.str a1))), (2, (V.ptr 2 0 0)), (7, (I o))], [(2, ⟨false, 4, [(enc_T_api_Form a0)]⟩)], 57⟩ : St)) := by
  refine rg ?_
  refine ra 1 1 ⟨[(1, (V.sl 0 1 (List.map V.str a1))), (2, (V.ptr 2 0 0)), (17, (V.bool false)), (19, (enc_T_api_Form a0))], [(2, ⟨false, 4, [(enc_T_api_Form a0)]⟩)], 57⟩ rfl rfl rfl ?_
  refine Eq.trans (reg_pure (x := (screen_lengths k a0)) (w := fun v5 => (V.tup [(I v5.1), (I v5.2)])) rfl rfl rfl rfl (p_call rfl rfl rfl rfl rfl (screen_lengths_ok k a0) (.inl rfl))) ?_
  refine bindE (fun v5 => ?_)
  exact bind_end rfl
theorem f16r6 (k : Nat) (a0 : T_api_Form) (a1 : (List Str)) (o6 : Int) : RE k f16a6 f16o6 true ⟨[(1, (V.sl 0 1 (List.map V.str a1))), (2, (V.ptr 2 0 0)), (7, (I o6))], [(2, ⟨false, 4, [(enc_T_api_Form a0)]⟩)], 57⟩ = (((mkN [] o6).bind fun v7 => (screen_show k a0 v7))).map (fun (o : (List Str)) => (⟨[(1, (V.sl 0 1 (List.map V.str a1))), (2, (V.ptr 2 0 0)), (8, (V.sl 0 1 (List.map V.str o)))], [(2, ⟨false, 4, [(enc_T_api_Form a0)]⟩)], 57⟩ : St)) := by
  refine Eq.trans (regionE_regp (p := 5) (dk := true) (t := [(1, (V.sl 0 1 (List.map V.str a1))), (2, (V.ptr 2 0 0)), (7, (I o6))]) (σ := [(2, ⟨false, 4, [(enc_T_api_Form a0)]⟩)]) (n := 57) rfl (by decide) (by decide) rfl) ?_
  refine Eq.trans (regp_adv (m := 2) (j := 2) (t' := [(1, (V.sl 0 1 (List.map V.str a1))), (2, (V.ptr 2 0 0)), (7, (I o6)), (23, (enc_T_api_Form a0)), (24, (I o6))]) rfl rfl rfl) ?_
  refine Eq.trans (regp_pure (x := (mkN [] o6)) (w := fun v7 => (V.sl 2 1 (List.map V.str v7))) rfl rfl rfl rfl rfl (p_make (e := V.str) (z := []) rfl rfl rfl Go.Proofs.Try.underlying26 (of_decide_eq_true rfl) rfl rfl rfl rfl)) ?_
  refine bindE (fun v7 => ?_)
  refine Eq.trans (putp_adv (m := 0) (j := 3) (t' := [(1, (V.sl 0 1 (List.map V.str a1))), (2, (V.ptr 2 0 0)), (7, (I o6)), (23, (enc_T_api_Form a0)), (24, (I o6)), (25, (V.sl 0 1 (List.map V.str v7)))]) rfl rfl rfl) ?_
  refine Eq.trans (regp_pure (x := (screen_show k a0 v7)) (w := fun v8 => (V.sl 0 1 (List.map V.str v8))) rfl rfl rfl rfl rfl (p_call rfl rfl rfl rfl rfl (screen_show_ok k a0 v7) (.inl rfl))) ?_
  refine bind_self (fun v8 => ?_)
  exact regp_end rfl
theorem f16r7 (k : Nat) (a0 : T_api_Form) (a1 : (List Str)) (o9 : (List Str)) : RE k f16a7 f16o7 false ⟨[(1, (V.sl 0 1 (List.map V.str a1))), (2, (V.ptr 2 0 0)), (8, (V.sl 0 1 (List.map V.str o9)))], [(2, ⟨false, 4, [(enc_T_api_Form a0)]⟩)], 57⟩ = some ⟨[(1, (V.sl 0 1 (List.map V.str a1))), (8, (V.sl 0 1 (List.map V.str o9))), (28, (sSlot (a0.fFields))), (29, (I (a0.fFields.length : Int))), (30, (I 0))], [], 57⟩ := by
  refine rg ?_
  refine ra 2 2 ⟨[(1, (V.sl 0 1 (List.map V.str a1))), (2, (V.ptr 2 0 0)), (8, (V.sl 0 1 (List.map V.str o9))), (27, (V.ptr 2 0 3)), (28, (sSlot (a0.fFields)))], [(2, ⟨false, 4, [(enc_T_api_Form a0)]⟩)], 57⟩ rfl rfl rfl ?_
  refine Eq.trans (reg_pure (x := some ()) (w := fun _ => (I (a0.fFields.length : Int))) rfl rfl rfl rfl (p_len (e := enc_T_api_Slot) rfl rfl rfl rfl rfl rfl Go.Proofs.Try.underlying23)) ?_
  refine Eq.trans some_bind ?_
  exact bind_end rfl
theorem f16r8 (k : Nat) (a0 : T_api_Form) (a1 : (List Str)) (x16 : (List Str)) (x17 : Int) : RE k f16a8 f16o8 false ⟨[(1, (V.sl 0 1 (List.map V.str a1))), (8, (V.sl 0 1 (List.map V.str x16))), (28, (sSlot (a0.fFields))), (29, (I (a0.fFields.length : Int))), (30, (I x17))], [], 57⟩ = some ⟨[(1, (V.sl 0 1 (List.map V.str a1))), (8, (V.sl 0 1 (List.map V.str x16))), (28, (sSlot (a0.fFields))), (29, (I (a0.fFields.length : Int))), (30, (I x17)), (31, (V.bool (decide (x17 < (a0.fFields.length : Int)))))], [], 57⟩ :=
  rE rfl
theorem f16r9 (k : Nat) (a0 : T_api_Form) (a1 : (List Str)) (x16 : (List Str)) (x17 : Int) : RE k f16a9 f16o9 false ⟨[(1, (V.sl 0 1 (List.map V.str a1))), (8, (V.sl 0 1 (List.map V.str x16))), (28, (sSlot (a0.fFields))), (29, (I (a0.fFields.length : Int))), (30, (I x17)), (31, (V.bool true))], [], 57⟩ = ((idx a0.fFields x17)).map (fun (o : T_api_Slot) => (⟨[(1, (V.sl 0 1 (List.map V.str a1))), (8, (V.sl 0 1 (List.map V.str x16))), (10, (V.ptr 10 0 0)), (28, (sSlot (a0.fFields))), (29, (I (a0.fFields.length : Int))), (30, (I x17))], [(10, ⟨false, 7, [(enc_T_api_Slot o)]⟩)], 57⟩ : St)) := by
  refine rg ?_
  refine Eq.trans (reg_pure (x := (idx a0.fFields x17)) (w := fun v18 => (V.pro (enc_T_api_Slot v18))) rfl rfl rfl rfl (p_index (e := enc_T_api_Slot) rfl rfl rfl Go.Proofs.Try.underlying23 rfl (by decide))) ?_
  refine bind_self (fun v18 => ?_)
  exact bind_end rfl
theorem f16r10 (k : Nat) (a0 : T_api_Form) (a1 : (List Str)) (x16 : (List Str)) (x17 : Int) (o19 : T_api_Slot) : RE k f16a10 f16o10 true ⟨[(1, (V.sl 0 1 (List.map V.str a1))), (8, (V.sl 0 1 (List.map V.str x16))), (10, (V.ptr 10 0 0)), (28, (sSlot (a0.fFields))), (29, (I (a0.fFields.length : Int))), (30, (I x17))], [(10, ⟨false, 7, [(enc_T_api_Slot o19)]⟩)], 57⟩ = (((idx a1 o19.fRow).bind fun v20 => ((cut v20 o19.fColumn (Go.IntKind.wrap .i64 (o19.fColumn + o19.fBytes))).bind fun v21 => (screen_laid k x16 o19.fRow o19.fColumn v21)))).map (fun (o : (List Str)) => (⟨[(1, (V.sl 0 1 (List.map V.str a1))), (8, (V.sl 0 1 (List.map V.str o))), (28, (sSlot (a0.fFields))), (29, (I (a0.fFields.length : Int))), (30, (I x17))], [], 57⟩ : St)) := by
  refine Eq.trans (regionE_regp (p := 19) (dk := true) (t := [(1, (V.sl 0 1 (List.map V.str a1))), (8, (V.sl 0 1 (List.map V.str x16))), (10, (V.ptr 10 0 0)), (28, (sSlot (a0.fFields))), (29, (I (a0.fFields.length : Int))), (30, (I x17))]) (σ := [(10, ⟨false, 7, [(enc_T_api_Slot o19)]⟩)]) (n := 57) rfl (by decide) (by decide) rfl) ?_
  refine Eq.trans (regp_adv (m := 8) (j := 8) (t' := [(1, (V.sl 0 1 (List.map V.str a1))), (8, (V.sl 0 1 (List.map V.str x16))), (10, (V.ptr 10 0 0)), (28, (sSlot (a0.fFields))), (29, (I (a0.fFields.length : Int))), (30, (I x17)), (34, (V.sl 0 1 (List.map V.str x16))), (35, (V.ptr 10 0 1)), (36, (I o19.fRow)), (37, (V.ptr 10 0 2)), (38, (I o19.fColumn)), (39, (V.sl 0 1 (List.map V.str a1))), (40, (V.ptr 10 0 1)), (41, (I o19.fRow))]) rfl rfl rfl) ?_
  refine Eq.trans (regp_pure (x := (idx a1 o19.fRow)) (w := fun v20 => (V.pro (V.str v20))) rfl rfl rfl rfl rfl (p_index (e := V.str) rfl rfl rfl Go.Proofs.Try.underlying26 rfl (by decide))) ?_
  refine bindE (fun v20 => ?_)
  refine Eq.trans (putp_adv (m := 8) (j := 17) (t' := [(1, (V.sl 0 1 (List.map V.str a1))), (8, (V.sl 0 1 (List.map V.str x16))), (10, (V.ptr 10 0 0)), (28, (sSlot (a0.fFields))), (29, (I (a0.fFields.length : Int))), (30, (I x17)), (34, (V.sl 0 1 (List.map V.str x16))), (35, (V.ptr 10 0 1)), (36, (I o19.fRow)), (37, (V.ptr 10 0 2)), (38, (I o19.fColumn)), (39, (V.sl 0 1 (List.map V.str a1))), (40, (V.ptr 10 0 1)), (41, (I o19.fRow)), (42, (V.pro (V.str v20))), (43, (V.str v20)), (44, (V.ptr 10 0 2)), (45, (I o19.fColumn)), (46, (V.ptr 10 0 2)), (47, (I o19.fColumn)), (48, (V.ptr 10 0 3)), (49, (I o19.fBytes)), (50, (I (Go.IntKind.wrap .i64 (o19.fColumn + o19.fBytes))))]) rfl rfl rfl) ?_
  refine Eq.trans (regp_pure (x := (cut v20 o19.fColumn (Go.IntKind.wrap .i64 (o19.fColumn + o19.fBytes)))) (w := fun v21 => (V.str v21)) rfl rfl rfl rfl rfl (p_sliceS rfl rfl rfl rfl rfl rfl Go.Proofs.Try.underlying9)) ?_
  refine bindE (fun v21 => ?_)
  refine Eq.trans (putp_adv (m := 0) (j := 18) (t' := [(1, (V.sl 0 1 (List.map V.str a1))), (8, (V.sl 0 1 (List.map V.str x16))), (10, (V.ptr 10 0 0)), (28, (sSlot (a0.fFields))), (29, (I (a0.fFields.length : Int))), (30, (I x17)), (34, (V.sl 0 1 (List.map V.str x16))), (35, (V.ptr 10 0 1)), (36, (I o19.fRow)), (37, (V.ptr 10 0 2)), (38, (I o19.fColumn)), (39, (V.sl 0 1 (List.map V.str a1))), (40, (V.ptr 10 0 1)), (41, (I o19.fRow)), (42, (V.pro (V.str v20))), (43, (V.str v20)), (44, (V.ptr 10 0 2)), (45, (I o19.fColumn)), (46, (V.ptr 10 0 2)), (47, (I o19.fColumn)), (48, (V.ptr 10 0 3)), (49, (I o19.fBytes)), (50, (I (Go.IntKind.wrap .i64 (o19.fColumn + o19.fBytes)))), (51, (V.str v21))]) rfl rfl rfl) ?_
  refine Eq.trans (regp_pure (x := (screen_laid k x16 o19.fRow o19.fColumn v21)) (w := fun v22 => (V.sl 0 1 (List.map V.str v22))) rfl rfl rfl rfl rfl (p_call rfl rfl rfl rfl rfl (screen_laid_ok k x16 o19.fRow o19.fColumn v21) (.inl rfl))) ?_
  refine bind_self (fun v22 => ?_)
  exact regp_end rfl
theorem f16r11 (k : Nat) (a0 : T_api_Form) (a1 : (List Str)) (x17 : Int) (o23 : (List Str)) : RE k f16a11 f16o11 false ⟨[(1, (V.sl 0 1 (List.map V.str a1))), (8, (V.sl 0 1 (List.map V.str o23))), (28, (sSlot (a0.fFields))), (29, (I (a0.fFields.length : Int))), (30, (I x17))], [], 57⟩ = some ⟨[(1, (V.sl 0 1 (List.map V.str a1))), (8, (V.sl 0 1 (List.map V.str o23))), (28, (sSlot (a0.fFields))), (29, (I (a0.fFields.length : Int))), (30, (I (Go.IntKind.wrap .i64 (x17 + 1))))], [], 57⟩ :=
  rE rfl
theorem screen_IsPicture_L1_ok (k : Nat) (a0 : T_api_Form) (a1 : (List Str))  (K0 : (List Str) → Int → Option (Bool × Int)) (Kst : X × St → Option (V × List V)) (hK0 : ∀ (y0 : (List Str)) (y1 : Int), Kst (X.exit 0, ⟨[(1, (V.sl 0 1 (List.map V.str a1))), (8, (V.sl 0 1 (List.map V.str y0))), (28, (sSlot (a0.fFields))), (29, (I (a0.fFields.length : Int))), (30, (I y1)), (31, (V.bool false))], [], 57⟩) = (K0 y0 y1).map screen_IsPicture_fin) (hret : ∀ s, Kst (X.ret, s) = endK prog 57 [(enc_T_api_Form a0), (V.sl 0 1 (List.map V.str a1))] [] [.tmp 4, .tmp 5] (X.ret, s)) :
    ∀ (m : Nat) (x16 : (List Str)) (x17 : Int), (iter (exec prog (EV k) f16n k f16b0) m ⟨[(1, (V.sl 0 1 (List.map V.str a1))), (8, (V.sl 0 1 (List.map V.str x16))), (28, (sSlot (a0.fFields))), (29, (I (a0.fFields.length : Int))), (30, (I x17))], [], 57⟩).bind Kst = (screen_IsPicture_L1 k a0 a1 K0 m x16 x17).map screen_IsPicture_fin := by
  intro m
  induction m with
  | zero => intros; rfl
  | succ m ih =>
    intro x16 x17
    unfold screen_IsPicture_L1
    refine Eq.trans k_round ?_
    refine Eq.trans (k_region0 rfl (f16r8 k a0 a1 x16 x17)) ?_
    refine Eq.trans (k_cond (t := (decide (x17 < (a0.fFields.length : Int)))) rfl rfl) ?_
    refine bifE2 (fun hc => ?_) fun hc => ?_
    · rw [hc]
      refine Eq.trans k_skip ?_
      refine Eq.trans (k_block rfl) ?_
      refine Eq.trans (k_region rfl (f16r9 k a0 a1 x16 x17)) ?_
      refine bindE (fun o19 => ?_)
      refine Eq.trans (k_lregion rfl (f16r10 k a0 a1 x16 x17 o19)) ?_
      refine bindE (fun o23 => ?_)
      refine Eq.trans blk_normal ?_
      refine Eq.trans (k_lregion0 rfl (f16r11 k a0 a1 x17 o23)) ?_
      refine Eq.trans loop_normal ?_
      exact ih o23 (Go.IntKind.wrap .i64 (x17 + 1))
    · rw [hc]
      refine Eq.trans k_exit ?_
      refine Eq.trans loop_exit ?_
      exact hK0 x16 x17
theorem f16r12 (k : Nat) (a0 : T_api_Form) (a1 : (List Str)) (y24 : (List Str)) (y25 : Int) : RE k f16a12 f16o12 false ⟨[(1, (V.sl 0 1 (List.map V.str a1))), (8, (V.sl 0 1 (List.map V.str y24))), (28, (sSlot (a0.fFields))), (29, (I (a0.fFields.length : Int))), (30, (I y25)), (31, (V.bool false))], [], 57⟩ = (((slices_Equal_string k y24 a1).bind fun v26 => (some (v26, 0)))).map (fun (o : Bool × Int) => (⟨[(4, (V.bool o.1)), (5, (I o.2))], [], 57⟩ : St)) := by
  refine rg ?_
  refine ra 2 2 ⟨[(1, (V.sl 0 1 (List.map V.str a1))), (8, (V.sl 0 1 (List.map V.str y24))), (28, (sSlot (a0.fFields))), (29, (I (a0.fFields.length : Int))), (30, (I y25)), (31, (V.bool false)), (54, (V.sl 0 1 (List.map V.str y24))), (55, (V.sl 0 1 (List.map V.str a1)))], [], 57⟩ rfl rfl rfl ?_
  refine Eq.trans (reg_pure (x := (slices_Equal_string k y24 a1)) (w := fun v26 => (V.bool v26)) rfl rfl rfl rfl (p_call rfl rfl rfl rfl rfl (slices_Equal_string_ok k y24 a1) (.inl rfl))) ?_
  refine bindE (fun v26 => ?_)
  exact bind_end rfl
theorem screen_IsPicture_ok (k : Nat) (a0 : T_api_Form) (a1 : (List Str)) : EV k 16 [(enc_T_api_Form a0), (V.sl 0 1 (List.map V.str a1))] = (screen_IsPicture k a0 a1).map screen_IsPicture_fin := by
  cases k with
  | zero => rfl
  | succ k =>
    unfold screen_IsPicture
    refine Eq.trans (evF_succ (c := f16c) (N := 57) (regs := f16n) rfl Go.Proofs.Try.func16 rfl (by decide) rfl rfl rfl) ?_
    refine Eq.trans (k_region0 rfl (f16r0 k a0 a1)) ?_
    refine Eq.trans k_assoc ?_
    refine Eq.trans (k_region rfl (f16r1 k a0 a1)) ?_
    refine bindE (fun o2 => ?_)
    refine Eq.trans (k_cond (t := o2) rfl rfl) ?_
    refine bifE2 (fun hc => ?_) fun hc => ?_
    · rw [hc]
      refine Eq.trans k_assoc ?_
      refine Eq.trans (k_region0 rfl (f16r2 k a0 a1)) ?_
      refine Eq.trans k_ret ?_
      rfl
    · rw [hc]
      refine Eq.trans k_skip ?_
      refine Eq.trans k_assoc ?_
      refine Eq.trans (k_region rfl (f16r3 k a0 a1)) ?_
      refine bindE (fun o4 => ?_)
      refine Eq.trans (k_cond (t := o4) rfl rfl) ?_
      refine bifE2 (fun hc => ?_) fun hc => ?_
      · rw [hc]
        refine Eq.trans k_assoc ?_
        refine Eq.trans (k_region0 rfl (f16r4 k a0 a1)) ?_
        refine Eq.trans k_ret ?_
        rfl
      · rw [hc]
        refine Eq.trans k_skip ?_
        refine Eq.trans (k_region rfl (f16r5 k a0 a1)) ?_
        refine bindE (fun o6 => ?_)
        refine Eq.trans (k_region rfl (f16r6 k a0 a1 o6)) ?_
        refine bindE (fun o9 => ?_)
        refine Eq.trans k_assoc ?_
        refine Eq.trans (k_region0 rfl (f16r7 k a0 a1 o9)) ?_
        refine Eq.trans (k_block rfl) ?_
        refine Eq.trans k_loop ?_
        refine screen_IsPicture_L1_ok k a0 a1 _ _ ?h_screen_IsPicture_L1_0 ?hr_screen_IsPicture_L1 k o9 0
        · intro y24 y25
          refine Eq.trans blk_exit ?_
          refine Eq.trans (k_region rfl (f16r12 k a0 a1 y24 y25)) ?_
          refine bindE (fun o27 => ?_)
          refine Eq.trans k_lret ?_
          rfl
        · intro s; exact rfl
def law24_ScreenPages_fin : Bool → V × List V := fun r => ((V.bool r), [])
theorem f6r0 (k : Nat) (a0 : T_api_Form) (a1 : (List Str)) : RE k f6a0 f6o0 false ⟨[(0, (enc_T_api_Form a0)), (1, (V.sl 0 1 (List.map V.str a1)))], [], 73⟩ = some ⟨[(1, (V.sl 0 1 (List.map V.str a1))), (2, (V.ptr 2 0 0))], [(2, ⟨false, 4, [(enc_T_api_Form a0)]⟩)], 73⟩ :=
  rE rfl
theorem f6r1 (k : Nat) (a0 : T_api_Form) (a1 : (List Str)) : RE k f6a1 f6o1 false ⟨[(1, (V.sl 0 1 (List.map V.str a1))), (2, (V.ptr 2 0 0))], [(2, ⟨false, 4, [(enc_T_api_Form a0)]⟩)], 73⟩ = (((law24_Large k a0).bind fun v1 => (bif v1 then (some (true)) else (law24_Long k a1)))).map (fun (o : Bool) => (⟨[(1, (V.sl 0 1 (List.map V.str a1))), (2, (V.ptr 2 0 0)), (17, (V.bool o))], [(2, ⟨false, 4, [(enc_T_api_Form a0)]⟩)], 73⟩ : St)) := by
  refine rg ?_
  refine ra 1 1 ⟨[(1, (V.sl 0 1 (List.map V.str a1))), (2, (V.ptr 2 0 0)), (12, (enc_T_api_Form a0))], [(2, ⟨false, 4, [(enc_T_api_Form a0)]⟩)], 73⟩ rfl rfl rfl ?_
  refine Eq.trans (reg_pure (x := (law24_Large k a0)) (w := fun v1 => (V.bool v1)) rfl rfl rfl rfl (p_call rfl rfl rfl rfl rfl (law24_Large_ok k a0) (.inl rfl))) ?_
  refine bindE (fun v1 => ?_)
  refine ba 1 3 ⟨[(1, (V.sl 0 1 (List.map V.str a1))), (2, (V.ptr 2 0 0)), (12, (enc_T_api_Form a0)), (13, (V.bool v1)), (14, (V.bool v1))], [(2, ⟨false, 4, [(enc_T_api_Form a0)]⟩)], 73⟩ rfl rfl rfl ?_
  refine bifE (c := v1) (fun hc => ?_) fun hc => ?_
  · rw [hc]
    exact reg_end rfl
  · rw [hc]
    refine ra 1 4 ⟨[(1, (V.sl 0 1 (List.map V.str a1))), (2, (V.ptr 2 0 0)), (12, (enc_T_api_Form a0)), (13, (V.bool false)), (14, (V.bool false)), (15, (V.sl 0 1 (List.map V.str a1)))], [(2, ⟨false, 4, [(enc_T_api_Form a0)]⟩)], 73⟩ rfl rfl rfl ?_
    refine Eq.trans (reg_pure (x := (law24_Long k a1)) (w := fun v2 => (V.bool v2)) rfl rfl rfl rfl (p_call rfl rfl rfl rfl rfl (law24_Long_ok k a1) (.inl rfl))) ?_
    refine bind_self (fun v2 => ?_)
    exact bind_end rfl
theorem f6r2 (k : Nat) (a0 : T_api_Form) (a1 : (List Str)) : RE k f6a2 f6o2 false ⟨[(1, (V.sl 0 1 (List.map V.str a1))), (2, (V.ptr 2 0 0)), (17, (V.bool true))], [(2, ⟨false, 4, [(enc_T_api_Form a0)]⟩)], 73⟩ = ((law24_Awake k)).map (fun (o : Bool) => (⟨[(4, (V.bool o))], [], 73⟩ : St)) := by
  refine rg ?_
  refine Eq.trans (reg_pure (x := (law24_Awake k)) (w := fun v4 => (V.bool v4)) rfl rfl rfl rfl (p_call rfl rfl rfl rfl rfl (law24_Awake_ok k) (.inl rfl))) ?_
  refine bind_self (fun v4 => ?_)
  exact bind_end rfl
theorem f6r3 (k : Nat) (a0 : T_api_Form) (a1 : (List Str)) : RE k f6a3 f6o3 false ⟨[(1, (V.sl 0 1 (List.map V.str a1))), (2, (V.ptr 2 0 0)), (17, (V.bool false))], [(2, ⟨false, 4, [(enc_T_api_Form a0)]⟩)], 73⟩ = (((screen_Pages k a0 a1).bind fun v6 => (some (v6.1, v6.2)))).map (fun (o : (List (List Str)) × Int) => (⟨[(1, (V.sl 0 1 (List.map V.str a1))), (2, (V.ptr 2 0 0)), (5, (V.sl 0 1 (List.map (fun x => (V.sl 0 1 (List.map V.str x))) o.1))), (6, (I o.2))], [(2, ⟨false, 4, [(enc_T_api_Form a0)]⟩)], 73⟩ : St)) := by
  refine rg ?_
  refine ra 2 2 ⟨[(1, (V.sl 0 1 (List.map V.str a1))), (2, (V.ptr 2 0 0)), (17, (V.bool false)), (20, (enc_T_api_Form a0)), (21, (V.sl 0 1 (List.map V.str a1)))], [(2, ⟨false, 4, [(enc_T_api_Form a0)]⟩)], 73⟩ rfl rfl rfl ?_
  refine Eq.trans (reg_pure (x := (screen_Pages k a0 a1)) (w := fun v6 => (V.tup [(V.sl 0 1 (List.map (fun x => (V.sl 0 1 (List.map V.str x))) v6.1)), (I v6.2)])) rfl rfl rfl rfl (p_call rfl rfl rfl rfl rfl (screen_Pages_ok k a0 a1) (.inl rfl))) ?_
  refine bindE (fun v6 => ?_)
  exact bind_end rfl
theorem f6r4 (k : Nat) (a0 : T_api_Form) (a1 : (List Str)) (o7 : (List (List Str)) × Int) : RE k f6a4 f6o4 false ⟨[(1, (V.sl 0 1 (List.map V.str a1))), (2, (V.ptr 2 0 0)), (5, (V.sl 0 1 (List.map (fun x => (V.sl 0 1 (List.map V.str x))) o7.1))), (6, (I o7.2))], [(2, ⟨false, 4, [(enc_T_api_Form a0)]⟩)], 73⟩ = (((ref24_Pages k a0 a1).bind fun v8 => (some (v8.1, v8.2)))).map (fun (o : (List (List Str)) × Int) => (⟨[(2, (V.ptr 2 0 0)), (5, (V.sl 0 1 (List.map (fun x => (V.sl 0 1 (List.map V.str x))) o7.1))), (6, (I o7.2)), (7, (V.sl 0 1 (List.map (fun x => (V.sl 0 1 (List.map V.str x))) o.1))), (8, (I o.2))], [(2, ⟨false, 4, [(enc_T_api_Form a0)]⟩)], 73⟩ : St)) := by
  refine rg ?_
  refine ra 2 2 ⟨[(1, (V.sl 0 1 (List.map V.str a1))), (2, (V.ptr 2 0 0)), (5, (V.sl 0 1 (List.map (fun x => (V.sl 0 1 (List.map V.str x))) o7.1))), (6, (I o7.2)), (26, (enc_T_api_Form a0)), (27, (V.sl 0 1 (List.map V.str a1)))], [(2, ⟨false, 4, [(enc_T_api_Form a0)]⟩)], 73⟩ rfl rfl rfl ?_
  refine Eq.trans (reg_pure (x := (ref24_Pages k a0 a1)) (w := fun v8 => (V.tup [(V.sl 0 1 (List.map (fun x => (V.sl 0 1 (List.map V.str x))) v8.1)), (I v8.2)])) rfl rfl rfl rfl (p_call rfl rfl rfl rfl rfl (ref24_Pages_ok k a0 a1) (.inl rfl))) ?_
  refine bindE (fun v8 => ?_)
  exact bind_end rfl
theorem f6r5 (k : Nat) (a0 : T_api_Form) (o7 : (List (List Str)) × Int) (o9 : (List (List Str)) × Int) : RE k f6a5 f6o5 false ⟨[(2, (V.ptr 2 0 0)), (5, (V.sl 0 1 (List.map (fun x => (V.sl 0 1 (List.map V.str x))) o7.1))), (6, (I o7.2)), (7, (V.sl 0 1 (List.map (fun x => (V.sl 0 1 (List.map V.str x))) o9.1))), (8, (I o9.2))], [(2, ⟨false, 4, [(enc_T_api_Form a0)]⟩)], 73⟩ = ((bif ((o7.1.length : Int) != (o9.1.length : Int)) then (some (true)) else (some ((o7.2 != o9.2))))).map (fun (o : Bool) => (⟨[(2, (V.ptr 2 0 0)), (5, (V.sl 0 1 (List.map (fun x => (V.sl 0 1 (List.map V.str x))) o7.1))), (7, (V.sl 0 1 (List.map (fun x => (V.sl 0 1 (List.map V.str x))) o9.1))), (40, (V.bool o))], [(2, ⟨false, 4, [(enc_T_api_Form a0)]⟩)], 73⟩ : St)) := by
  refine rg ?_
  refine ra 1 1 ⟨[(2, (V.ptr 2 0 0)), (5, (V.sl 0 1 (List.map (fun x => (V.sl 0 1 (List.map V.str x))) o7.1))), (6, (I o7.2)), (7, (V.sl 0 1 (List.map (fun x => (V.sl 0 1 (List.map V.str x))) o9.1))), (8, (I o9.2)), (31, (V.sl 0 1 (List.map (fun x => (V.sl 0 1 (List.map V.str x))) o7.1)))], [(2, ⟨false, 4, [(enc_T_api_Form a0)]⟩)], 73⟩ rfl rfl rfl ?_
  refine Eq.trans (reg_pure (x := some ()) (w := fun _ => (I (o7.1.length : Int))) rfl rfl rfl rfl (p_len (e := (fun x => (V.sl 0 1 (List.map V.str x)))) rfl rfl rfl rfl rfl rfl Go.Proofs.Try.underlying50)) ?_
  refine Eq.trans some_bind ?_
  refine ba 1 3 ⟨[(2, (V.ptr 2 0 0)), (5, (V.sl 0 1 (List.map (fun x => (V.sl 0 1 (List.map V.str x))) o7.1))), (6, (I o7.2)), (7, (V.sl 0 1 (List.map (fun x => (V.sl 0 1 (List.map V.str x))) o9.1))), (8, (I o9.2)), (31, (V.sl 0 1 (List.map (fun x => (V.sl 0 1 (List.map V.str x))) o7.1))), (32, (I (o7.1.length : Int))), (33, (V.sl 0 1 (List.map (fun x => (V.sl 0 1 (List.map V.str x))) o9.1)))], [(2, ⟨false, 4, [(enc_T_api_Form a0)]⟩)], 73⟩ rfl rfl rfl ?_
  refine Eq.trans (reg_pure (x := some ()) (w := fun _ => (I (o9.1.length : Int))) rfl rfl rfl rfl (p_len (e := (fun x => (V.sl 0 1 (List.map V.str x)))) rfl rfl rfl rfl rfl rfl Go.Proofs.Try.underlying50)) ?_
  refine Eq.trans some_bind ?_
  refine ba 2 6 ⟨[(2, (V.ptr 2 0 0)), (5, (V.sl 0 1 (List.map (fun x => (V.sl 0 1 (List.map V.str x))) o7.1))), (6, (I o7.2)), (7, (V.sl 0 1 (List.map (fun x => (V.sl 0 1 (List.map V.str x))) o9.1))), (8, (I o9.2)), (31, (V.sl 0 1 (List.map (fun x => (V.sl 0 1 (List.map V.str x))) o7.1))), (32, (I (o7.1.length : Int))), (33, (V.sl 0 1 (List.map (fun x => (V.sl 0 1 (List.map V.str x))) o9.1))), (34, (I (o9.1.length : Int))), (35, (V.bool ((o7.1.length : Int) != (o9.1.length : Int)))), (36, (V.bool ((o7.1.length : Int) != (o9.1.length : Int))))], [(2, ⟨false, 4, [(enc_T_api_Form a0)]⟩)], 73⟩ rfl rfl rfl ?_
  refine bifE (c := ((o7.1.length : Int) != (o9.1.length : Int))) (fun hc => ?_) fun hc => ?_
  · rw [hc]
    exact reg_end rfl
  · rw [hc]
    exact reg_end rfl
theorem f6r6 (k : Nat) (a0 : T_api_Form) (o7 : (List (List Str)) × Int) (o9 : (List (List Str)) × Int) : RE k f6a6 f6o6 false ⟨[(2, (V.ptr 2 0 0)), (5, (V.sl 0 1 (List.map (fun x => (V.sl 0 1 (List.map V.str x))) o7.1))), (7, (V.sl 0 1 (List.map (fun x => (V.sl 0 1 (List.map V.str x))) o9.1))), (40, (V.bool true))], [(2, ⟨false, 4, [(enc_T_api_Form a0)]⟩)], 73⟩ = some ⟨[(4, (V.bool false))], [], 73⟩ :=
  rE rfl
theorem f6r7 (k : Nat) (a0 : T_api_Form) (o7 : (List (List Str)) × Int) (o9 : (List (List Str)) × Int) : RE k f6a7 f6o7 false ⟨[(2, (V.ptr 2 0 0)), (5, (V.sl 0 1 (List.map (fun x => (V.sl 0 1 (List.map V.str x))) o7.1))), (7, (V.sl 0 1 (List.map (fun x => (V.sl 0 1 (List.map V.str x))) o9.1))), (40, (V.bool false))], [(2, ⟨false, 4, [(enc_T_api_Form a0)]⟩)], 73⟩ = some ⟨[(2, (V.ptr 2 0 0)), (5, (V.sl 0 1 (List.map (fun x => (V.sl 0 1 (List.map V.str x))) o7.1))), (7, (V.sl 0 1 (List.map (fun x => (V.sl 0 1 (List.map V.str x))) o9.1))), (9, (I 0))], [(2, ⟨false, 4, [(enc_T_api_Form a0)]⟩)], 73⟩ :=
  rE rfl
theorem f6r8 (k : Nat) (a0 : T_api_Form) (o7 : (List (List Str)) × Int) (o9 : (List (List Str)) × Int) (x19 : Int) : RE k f6a8 f6o8 false ⟨[(2, (V.ptr 2 0 0)), (5, (V.sl 0 1 (List.map (fun x => (V.sl 0 1 (List.map V.str x))) o7.1))), (7, (V.sl 0 1 (List.map (fun x => (V.sl 0 1 (List.map V.str x))) o9.1))), (9, (I x19))], [(2, ⟨false, 4, [(enc_T_api_Form a0)]⟩)], 73⟩ = some ⟨[(2, (V.ptr 2 0 0)), (5, (V.sl 0 1 (List.map (fun x => (V.sl 0 1 (List.map V.str x))) o7.1))), (7, (V.sl 0 1 (List.map (fun x => (V.sl 0 1 (List.map V.str x))) o9.1))), (9, (I x19)), (44, (V.bool (decide (x19 < (o7.1.length : Int)))))], [(2, ⟨false, 4, [(enc_T_api_Form a0)]⟩)], 73⟩ := by
  refine rg ?_
  refine ra 2 2 ⟨[(2, (V.ptr 2 0 0)), (5, (V.sl 0 1 (List.map (fun x => (V.sl 0 1 (List.map V.str x))) o7.1))), (7, (V.sl 0 1 (List.map (fun x => (V.sl 0 1 (List.map V.str x))) o9.1))), (9, (I x19)), (41, (I x19)), (42, (V.sl 0 1 (List.map (fun x => (V.sl 0 1 (List.map V.str x))) o7.1)))], [(2, ⟨false, 4, [(enc_T_api_Form a0)]⟩)], 73⟩ rfl rfl rfl ?_
  refine Eq.trans (reg_pure (x := some ()) (w := fun _ => (I (o7.1.length : Int))) rfl rfl rfl rfl (p_len (e := (fun x => (V.sl 0 1 (List.map V.str x)))) rfl rfl rfl rfl rfl rfl Go.Proofs.Try.underlying50)) ?_
  refine Eq.trans some_bind ?_
  exact bind_end rfl
theorem f6r10 (k : Nat) (a0 : T_api_Form) (o7 : (List (List Str)) × Int) (o9 : (List (List Str)) × Int) (x19 : Int) : RE k f6a10 f6o10 true ⟨[(2, (V.ptr 2 0 0)), (5, (V.sl 0 1 (List.map (fun x => (V.sl 0 1 (List.map V.str x))) o7.1))), (7, (V.sl 0 1 (List.map (fun x => (V.sl 0 1 (List.map V.str x))) o9.1))), (9, (I x19)), (44, (V.bool true))], [(2, ⟨false, 4, [(enc_T_api_Form a0)]⟩)], 73⟩ = (((idx o7.1 x19).bind fun v20 => ((idx o9.1 x19).bind fun v21 => ((ref01_SameTexts k v20 v21).bind fun v22 => (some ((!v22))))))).map (fun (o : Bool) => (⟨[(2, (V.ptr 2 0 0)), (5, (V.sl 0 1 (List.map (fun x => (V.sl 0 1 (List.map V.str x))) o7.1))), (7, (V.sl 0 1 (List.map (fun x => (V.sl 0 1 (List.map V.str x))) o9.1))), (9, (I x19)), (56, (V.bool o))], [(2, ⟨false, 4, [(enc_T_api_Form a0)]⟩)], 73⟩ : St)) := by
  refine Eq.trans (regionE_regp (p := 10) (dk := true) (t := [(2, (V.ptr 2 0 0)), (5, (V.sl 0 1 (List.map (fun x => (V.sl 0 1 (List.map V.str x))) o7.1))), (7, (V.sl 0 1 (List.map (fun x => (V.sl 0 1 (List.map V.str x))) o9.1))), (9, (I x19)), (44, (V.bool true))]) (σ := [(2, ⟨false, 4, [(enc_T_api_Form a0)]⟩)]) (n := 73) rfl (by decide) (by decide) rfl) ?_
  refine Eq.trans (regp_adv (m := 2) (j := 2) (t' := [(2, (V.ptr 2 0 0)), (5, (V.sl 0 1 (List.map (fun x => (V.sl 0 1 (List.map V.str x))) o7.1))), (7, (V.sl 0 1 (List.map (fun x => (V.sl 0 1 (List.map V.str x))) o9.1))), (9, (I x19)), (44, (V.bool true)), (47, (V.sl 0 1 (List.map (fun x => (V.sl 0 1 (List.map V.str x))) o7.1))), (48, (I x19))]) rfl rfl rfl) ?_
  refine Eq.trans (regp_pure (x := (idx o7.1 x19)) (w := fun v20 => (V.pro (V.sl 0 1 (List.map V.str v20)))) rfl rfl rfl rfl rfl (p_index (e := (fun x => (V.sl 0 1 (List.map V.str x)))) rfl rfl rfl Go.Proofs.Try.underlying50 rfl (by decide))) ?_
  refine bindE (fun v20 => ?_)
  refine Eq.trans (putp_adv (m := 3) (j := 6) (t' := [(2, (V.ptr 2 0 0)), (5, (V.sl 0 1 (List.map (fun x => (V.sl 0 1 (List.map V.str x))) o7.1))), (7, (V.sl 0 1 (List.map (fun x => (V.sl 0 1 (List.map V.str x))) o9.1))), (9, (I x19)), (44, (V.bool true)), (47, (V.sl 0 1 (List.map (fun x => (V.sl 0 1 (List.map V.str x))) o7.1))), (48, (I x19)), (49, (V.pro (V.sl 0 1 (List.map V.str v20)))), (50, (V.sl 0 1 (List.map V.str v20))), (51, (V.sl 0 1 (List.map (fun x => (V.sl 0 1 (List.map V.str x))) o9.1))), (52, (I x19))]) rfl rfl rfl) ?_
  refine Eq.trans (regp_pure (x := (idx o9.1 x19)) (w := fun v21 => (V.pro (V.sl 0 1 (List.map V.str v21)))) rfl rfl rfl rfl rfl (p_index (e := (fun x => (V.sl 0 1 (List.map V.str x)))) rfl rfl rfl Go.Proofs.Try.underlying50 rfl (by decide))) ?_
  refine bindE (fun v21 => ?_)
  refine Eq.trans (putp_adv (m := 1) (j := 8) (t' := [(2, (V.ptr 2 0 0)), (5, (V.sl 0 1 (List.map (fun x => (V.sl 0 1 (List.map V.str x))) o7.1))), (7, (V.sl 0 1 (List.map (fun x => (V.sl 0 1 (List.map V.str x))) o9.1))), (9, (I x19)), (44, (V.bool true)), (47, (V.sl 0 1 (List.map (fun x => (V.sl 0 1 (List.map V.str x))) o7.1))), (48, (I x19)), (49, (V.pro (V.sl 0 1 (List.map V.str v20)))), (50, (V.sl 0 1 (List.map V.str v20))), (51, (V.sl 0 1 (List.map (fun x => (V.sl 0 1 (List.map V.str x))) o9.1))), (52, (I x19)), (53, (V.pro (V.sl 0 1 (List.map V.str v21)))), (54, (V.sl 0 1 (List.map V.str v21)))]) rfl rfl rfl) ?_
  refine Eq.trans (regp_pure (x := (ref01_SameTexts k v20 v21)) (w := fun v22 => (V.bool v22)) rfl rfl rfl rfl rfl (p_call rfl rfl rfl rfl rfl (ref01_SameTexts_ok k v20 v21) (.inl rfl))) ?_
  refine bindE (fun v22 => ?_)
  exact regp_end rfl
theorem f6r11 (k : Nat) (a0 : T_api_Form) (o7 : (List (List Str)) × Int) (o9 : (List (List Str)) × Int) (x19 : Int) : RE k f6a11 f6o11 false ⟨[(2, (V.ptr 2 0 0)), (5, (V.sl 0 1 (List.map (fun x => (V.sl 0 1 (List.map V.str x))) o7.1))), (7, (V.sl 0 1 (List.map (fun x => (V.sl 0 1 (List.map V.str x))) o9.1))), (9, (I x19)), (56, (V.bool true))], [(2, ⟨false, 4, [(enc_T_api_Form a0)]⟩)], 73⟩ = some ⟨[(4, (V.bool false))], [], 73⟩ :=
  rE rfl
theorem f6r12 (k : Nat) (a0 : T_api_Form) (o7 : (List (List Str)) × Int) (o9 : (List (List Str)) × Int) (x19 : Int) : RE k f6a12 f6o12 true ⟨[(2, (V.ptr 2 0 0)), (5, (V.sl 0 1 (List.map (fun x => (V.sl 0 1 (List.map V.str x))) o7.1))), (7, (V.sl 0 1 (List.map (fun x => (V.sl 0 1 (List.map V.str x))) o9.1))), (9, (I x19)), (56, (V.bool false))], [(2, ⟨false, 4, [(enc_T_api_Form a0)]⟩)], 73⟩ = (((idx o7.1 x19).bind fun v24 => ((screen_IsPicture k a0 v24).bind fun v25 => (some (v25.1, v25.2))))).map (fun (o : Bool × Int) => (⟨[(2, (V.ptr 2 0 0)), (5, (V.sl 0 1 (List.map (fun x => (V.sl 0 1 (List.map V.str x))) o7.1))), (7, (V.sl 0 1 (List.map (fun x => (V.sl 0 1 (List.map V.str x))) o9.1))), (9, (I x19)), (10, (V.bool o.1)), (11, (I o.2))], [(2, ⟨false, 4, [(enc_T_api_Form a0)]⟩)], 73⟩ : St)) := by
  refine Eq.trans (regionE_regp (p := 11) (dk := true) (t := [(2, (V.ptr 2 0 0)), (5, (V.sl 0 1 (List.map (fun x => (V.sl 0 1 (List.map V.str x))) o7.1))), (7, (V.sl 0 1 (List.map (fun x => (V.sl 0 1 (List.map V.str x))) o9.1))), (9, (I x19)), (56, (V.bool false))]) (σ := [(2, ⟨false, 4, [(enc_T_api_Form a0)]⟩)]) (n := 73) rfl (by decide) (by decide) rfl) ?_
  refine Eq.trans (regp_adv (m := 3) (j := 3) (t' := [(2, (V.ptr 2 0 0)), (5, (V.sl 0 1 (List.map (fun x => (V.sl 0 1 (List.map V.str x))) o7.1))), (7, (V.sl 0 1 (List.map (fun x => (V.sl 0 1 (List.map V.str x))) o9.1))), (9, (I x19)), (56, (V.bool false)), (58, (enc_T_api_Form a0)), (59, (V.sl 0 1 (List.map (fun x => (V.sl 0 1 (List.map V.str x))) o7.1))), (60, (I x19))]) rfl rfl rfl) ?_
  refine Eq.trans (regp_pure (x := (idx o7.1 x19)) (w := fun v24 => (V.pro (V.sl 0 1 (List.map V.str v24)))) rfl rfl rfl rfl rfl (p_index (e := (fun x => (V.sl 0 1 (List.map V.str x)))) rfl rfl rfl Go.Proofs.Try.underlying50 rfl (by decide))) ?_
  refine bindE (fun v24 => ?_)
  refine Eq.trans (putp_adv (m := 1) (j := 5) (t' := [(2, (V.ptr 2 0 0)), (5, (V.sl 0 1 (List.map (fun x => (V.sl 0 1 (List.map V.str x))) o7.1))), (7, (V.sl 0 1 (List.map (fun x => (V.sl 0 1 (List.map V.str x))) o9.1))), (9, (I x19)), (56, (V.bool false)), (58, (enc_T_api_Form a0)), (59, (V.sl 0 1 (List.map (fun x => (V.sl 0 1 (List.map V.str x))) o7.1))), (60, (I x19)), (61, (V.pro (V.sl 0 1 (List.map V.str v24)))), (62, (V.sl 0 1 (List.map V.str v24)))]) rfl rfl rfl) ?_
  refine Eq.trans (regp_pure (x := (screen_IsPicture k a0 v24)) (w := fun v25 => (V.tup [(V.bool v25.1), (I v25.2)])) rfl rfl rfl rfl rfl (p_call rfl rfl rfl rfl rfl (screen_IsPicture_ok k a0 v24) (.inl rfl))) ?_
  refine bindE (fun v25 => ?_)
  exact regp_end rfl
theorem f6r13 (k : Nat) (a0 : T_api_Form) (o7 : (List (List Str)) × Int) (o9 : (List (List Str)) × Int) (x19 : Int) (o26 : Bool × Int) : RE k f6a13 f6o13 false ⟨[(2, (V.ptr 2 0 0)), (5, (V.sl 0 1 (List.map (fun x => (V.sl 0 1 (List.map V.str x))) o7.1))), (7, (V.sl 0 1 (List.map (fun x => (V.sl 0 1 (List.map V.str x))) o9.1))), (9, (I x19)), (10, (V.bool o26.1)), (11, (I o26.2))], [(2, ⟨false, 4, [(enc_T_api_Form a0)]⟩)], 73⟩ = ((bif (o26.2 != 0) then (some (true)) else (some ((!o26.1))))).map (fun (o : Bool) => (⟨[(2, (V.ptr 2 0 0)), (5, (V.sl 0 1 (List.map (fun x => (V.sl 0 1 (List.map V.str x))) o7.1))), (7, (V.sl 0 1 (List.map (fun x => (V.sl 0 1 (List.map V.str x))) o9.1))), (9, (I x19)), (71, (V.bool o))], [(2, ⟨false, 4, [(enc_T_api_Form a0)]⟩)], 73⟩ : St)) := by
  refine rg ?_
  refine ra 3 3 ⟨[(2, (V.ptr 2 0 0)), (5, (V.sl 0 1 (List.map (fun x => (V.sl 0 1 (List.map V.str x))) o7.1))), (7, (V.sl 0 1 (List.map (fun x => (V.sl 0 1 (List.map V.str x))) o9.1))), (9, (I x19)), (10, (V.bool o26.1)), (11, (I o26.2)), (66, (I o26.2)), (67, (V.bool (o26.2 != 0))), (68, (V.bool (o26.2 != 0)))], [(2, ⟨false, 4, [(enc_T_api_Form a0)]⟩)], 73⟩ rfl rfl rfl ?_
  refine bifE (c := (o26.2 != 0)) (fun hc => ?_) fun hc => ?_
  · rw [hc]
    exact reg_end rfl
  · rw [hc]
    exact reg_end rfl
theorem f6r14 (k : Nat) (a0 : T_api_Form) (o7 : (List (List Str)) × Int) (o9 : (List (List Str)) × Int) (x19 : Int) : RE k f6a14 f6o14 false ⟨[(2, (V.ptr 2 0 0)), (5, (V.sl 0 1 (List.map (fun x => (V.sl 0 1 (List.map V.str x))) o7.1))), (7, (V.sl 0 1 (List.map (fun x => (V.sl 0 1 (List.map V.str x))) o9.1))), (9, (I x19)), (71, (V.bool true))], [(2, ⟨false, 4, [(enc_T_api_Form a0)]⟩)], 73⟩ = some ⟨[(4, (V.bool false))], [], 73⟩ :=
  rE rfl
theorem f6r9 (k : Nat) (a0 : T_api_Form) (o7 : (List (List Str)) × Int) (o9 : (List (List Str)) × Int) (x19 : Int) : RE k f6a9 f6o9 false ⟨[(2, (V.ptr 2 0 0)), (5, (V.sl 0 1 (List.map (fun x => (V.sl 0 1 (List.map V.str x))) o7.1))), (7, (V.sl 0 1 (List.map (fun x => (V.sl 0 1 (List.map V.str x))) o9.1))), (9, (I x19)), (71, (V.bool false))], [(2, ⟨false, 4, [(enc_T_api_Form a0)]⟩)], 73⟩ = some ⟨[(2, (V.ptr 2 0 0)), (5, (V.sl 0 1 (List.map (fun x => (V.sl 0 1 (List.map V.str x))) o7.1))), (7, (V.sl 0 1 (List.map (fun x => (V.sl 0 1 (List.map V.str x))) o9.1))), (9, (I (Go.IntKind.wrap .i64 (x19 + 1))))], [(2, ⟨false, 4, [(enc_T_api_Form a0)]⟩)], 73⟩ :=
  rE rfl
theorem law24_ScreenPages_L1_ok (k : Nat) (a0 : T_api_Form) (a1 : (List Str)) (o7 : (List (List Str)) × Int) (o9 : (List (List Str)) × Int)  (K0 : Int → Option Bool) (Kst : X × St → Option (V × List V)) (hK0 : ∀ (y0 : Int), Kst (X.exit 0, ⟨[(2, (V.ptr 2 0 0)), (5, (V.sl 0 1 (List.map (fun x => (V.sl 0 1 (List.map V.str x))) o7.1))), (7, (V.sl 0 1 (List.map (fun x => (V.sl 0 1 (List.map V.str x))) o9.1))), (9, (I y0)), (44, (V.bool false))], [(2, ⟨false, 4, [(enc_T_api_Form a0)]⟩)], 73⟩) = (K0 y0).map law24_ScreenPages_fin) (hret : ∀ s, Kst (X.ret, s) = endK prog 73 [(enc_T_api_Form a0), (V.sl 0 1 (List.map V.str a1))] [] [.tmp 4] (X.ret, s)) :
    ∀ (m : Nat) (x19 : Int), (iter (exec prog (EV k) f6n k f6b0) m ⟨[(2, (V.ptr 2 0 0)), (5, (V.sl 0 1 (List.map (fun x => (V.sl 0 1 (List.map V.str x))) o7.1))), (7, (V.sl 0 1 (List.map (fun x => (V.sl 0 1 (List.map V.str x))) o9.1))), (9, (I x19))], [(2, ⟨false, 4, [(enc_T_api_Form a0)]⟩)], 73⟩).bind Kst = (law24_ScreenPages_L1 k a0 o7 o9 K0 m x19).map law24_ScreenPages_fin := by
  intro m
  induction m with
  | zero => intros; rfl
  | succ m ih =>
    intro x19
    unfold law24_ScreenPages_L1
    refine Eq.trans k_round ?_
    refine Eq.trans k_assoc ?_
    refine Eq.trans (k_region0 rfl (f6r8 k a0 o7 o9 x19)) ?_
    refine Eq.trans (k_cond (t := (decide (x19 < (o7.1.length : Int)))) rfl rfl) ?_
    refine bifE2 (fun hc => ?_) fun hc => ?_
    · rw [hc]
      refine Eq.trans k_skip ?_
      refine Eq.trans (k_block rfl) ?_
      refine Eq.trans k_assoc ?_
      refine Eq.trans (k_region rfl (f6r10 k a0 o7 o9 x19)) ?_
      refine bindE (fun o23 => ?_)
      refine Eq.trans (k_cond (t := o23) rfl rfl) ?_
      refine bifE2 (fun hc => ?_) fun hc => ?_
      · rw [hc]
        refine Eq.trans k_assoc ?_
        refine Eq.trans (k_region0 rfl (f6r11 k a0 o7 o9 x19)) ?_
        refine Eq.trans k_ret ?_
        refine Eq.trans blk_ret ?_
        refine Eq.trans loop_ret ?_
        refine Eq.trans (hret _) ?_
        rfl
      · rw [hc]
        refine Eq.trans k_skip ?_
        refine Eq.trans (k_region rfl (f6r12 k a0 o7 o9 x19)) ?_
        refine bindE (fun o26 => ?_)
        refine Eq.trans (k_region rfl (f6r13 k a0 o7 o9 x19 o26)) ?_
        refine bindE (fun o27 => ?_)
        refine Eq.trans (k_lcond (t := o27) rfl rfl) ?_
        refine bifE2 (fun hc => ?_) fun hc => ?_
        · rw [hc]
          refine Eq.trans (k_region0 rfl (f6r14 k a0 o7 o9 x19)) ?_
          refine Eq.trans k_lret ?_
          refine Eq.trans blk_ret ?_
          refine Eq.trans loop_ret ?_
          refine Eq.trans (hret _) ?_
          rfl
        · rw [hc]
          refine Eq.trans k_lskip ?_
          refine Eq.trans blk_normal ?_
          refine Eq.trans (k_lregion0 rfl (f6r9 k a0 o7 o9 x19)) ?_
          refine Eq.trans loop_normal ?_
          exact ih (Go.IntKind.wrap .i64 (x19 + 1))
    · rw [hc]
      refine Eq.trans k_exit ?_
      refine Eq.trans loop_exit ?_
      exact hK0 x19
theorem f6r15 (k : Nat) (a0 : T_api_Form) (o7 : (List (List Str)) × Int) (o9 : (List (List Str)) × Int) (y28 : Int) : RE k f6a15 f6o15 false ⟨[(2, (V.ptr 2 0 0)), (5, (V.sl 0 1 (List.map (fun x => (V.sl 0 1 (List.map V.str x))) o7.1))), (7, (V.sl 0 1 (List.map (fun x => (V.sl 0 1 (List.map V.str x))) o9.1))), (9, (I y28)), (44, (V.bool false))], [(2, ⟨false, 4, [(enc_T_api_Form a0)]⟩)], 73⟩ = ((law24_Awake k)).map (fun (o : Bool) => (⟨[(4, (V.bool o))], [], 73⟩ : St)) := by
  refine rg ?_
  refine Eq.trans (reg_pure (x := (law24_Awake k)) (w := fun v29 => (V.bool v29)) rfl rfl rfl rfl (p_call rfl rfl rfl rfl rfl (law24_Awake_ok k) (.inl rfl))) ?_
  refine bind_self (fun v29 => ?_)
  exact bind_end rfl
theorem law24_ScreenPages_ok (k : Nat) (a0 : T_api_Form) (a1 : (List Str)) : EV k 6 [(enc_T_api_Form a0), (V.sl 0 1 (List.map V.str a1))] = (law24_ScreenPages k a0 a1).map law24_ScreenPages_fin := by
  cases k with
  | zero => rfl
  | succ k =>
    unfold law24_ScreenPages
    refine Eq.trans (evF_succ (c := f6c) (N := 73) (regs := f6n) rfl Go.Proofs.Try.func6 rfl (by decide) rfl rfl rfl) ?_
    refine Eq.trans (k_region0 rfl (f6r0 k a0 a1)) ?_
    refine Eq.trans k_assoc ?_
    refine Eq.trans (k_region rfl (f6r1 k a0 a1)) ?_
    refine bindE (fun o3 => ?_)
    refine Eq.trans (k_cond (t := o3) rfl rfl) ?_
    refine bifE2 (fun hc => ?_) fun hc => ?_
    · rw [hc]
      refine Eq.trans k_assoc ?_
      refine Eq.trans (k_region rfl (f6r2 k a0 a1)) ?_
      refine bindE (fun o5 => ?_)
      refine Eq.trans k_ret ?_
      rfl
    · rw [hc]
      refine Eq.trans k_skip ?_
      refine Eq.trans (k_region rfl (f6r3 k a0 a1)) ?_
      refine bindE (fun o7 => ?_)
      refine Eq.trans (k_region rfl (f6r4 k a0 a1 o7)) ?_
      refine bindE (fun o9 => ?_)
      refine Eq.trans k_assoc ?_
      refine Eq.trans (k_region rfl (f6r5 k a0 o7 o9)) ?_
      refine bindE (fun o10 => ?_)
      refine Eq.trans (k_cond (t := o10) rfl rfl) ?_
      refine bifE2 (fun hc => ?_) fun hc => ?_
      · rw [hc]
        refine Eq.trans k_assoc ?_
        refine Eq.trans (k_region0 rfl (f6r6 k a0 o7 o9)) ?_
        refine Eq.trans k_ret ?_
        rfl
      · rw [hc]
        refine Eq.trans k_skip ?_
        refine Eq.trans k_assoc ?_
        refine Eq.trans (k_region0 rfl (f6r7 k a0 o7 o9)) ?_
        refine Eq.trans (k_block rfl) ?_
        refine Eq.trans k_loop ?_
        refine law24_ScreenPages_L1_ok k a0 a1 o7 o9 _ _ ?h_law24_ScreenPages_L1_0 ?hr_law24_ScreenPages_L1 k 0
        · intro y28
          refine Eq.trans blk_exit ?_
          refine Eq.trans (k_region rfl (f6r15 k a0 o7 o9 y28)) ?_
          refine bindE (fun o30 => ?_)
          refine Eq.trans k_lret ?_
          rfl
        · intro s; exact rfl
end
end Go.AE
