/- The program, function by function: the evaluator comes to the typed functions. Conditions: none. -/
import Derived.Test.YtkkoiekbnkpcoaaA3
import Derived.KernelRfl
import Derived.Test.YtkkoiekbnkpcoaaProg
import Derived.Test.YtkkoiekbnkpcoaaB1
import Derived.Test.YtkkoiekbnkpcoaaE1
namespace Go.AE
open Go.Proofs.Try Go.Sh
set_option linter.unusedSimpArgs false
set_option linter.unusedVariables false
set_option maxRecDepth 100000
set_option maxHeartbeats 4000000
noncomputable section
theorem screen_Valid_L1_ok (k : Nat) (a0 : T_api_Form)  (K0 : (List T_screen_part) → Int → Option Bool) (Kst : X × St → Option (V × List V)) (hK0 : ∀ (y0 : (List T_screen_part)) (y1 : Int), Kst (X.exit 0, ⟨[(1, (V.ptr 1 0 0)), (3, (V.sl 1 3 (List.map enc_T_screen_part y0))), (41, (sMark (a0.fMarks))), (42, (I (a0.fMarks.length : Int))), (43, (I y1)), (44, (V.bool false))], [(1, ⟨false, 4, [(enc_T_api_Form a0)]⟩)], 122⟩) = (K0 y0 y1).map screen_Valid_fin) (hret : ∀ s, Kst (X.ret, s) = endK prog 122 [(enc_T_api_Form a0)] [] [.tmp 2] (X.ret, s)) :
    ∀ (m : Nat) (x10 : (List T_screen_part)) (x11 : Int), (iter (exec prog (EV k) f24n k f24b0) m ⟨[(1, (V.ptr 1 0 0)), (3, (V.sl 1 3 (List.map enc_T_screen_part x10))), (41, (sMark (a0.fMarks))), (42, (I (a0.fMarks.length : Int))), (43, (I x11))], [(1, ⟨false, 4, [(enc_T_api_Form a0)]⟩)], 122⟩).bind Kst = (screen_Valid_L1 k a0 K0 m x10 x11).map screen_Valid_fin := by
  intro m
  induction m with
  | zero => intros; rfl
  | succ m ih =>
    intro x10 x11
    unfold screen_Valid_L1
    refine Eq.trans k_round ?_
    refine Eq.trans (k_region0 rfl (f24r5 k a0 x10 x11)) ?_
    refine Eq.trans (k_cond (t := (decide (x11 < (a0.fMarks.length : Int)))) rfl rfl) ?_
    refine bifE2 (fun hc => ?_) fun hc => ?_
    · rw [hc]
      refine Eq.trans k_skip ?_
      refine Eq.trans (k_block rfl) ?_
      refine Eq.trans (k_region rfl (f24r6 k a0 x10 x11)) ?_
      refine bindE (fun o13 => ?_)
      refine Eq.trans k_assoc ?_
      refine Eq.trans (k_region rfl (f24r7 k a0 x10 x11 o13)) ?_
      refine bindE (fun o16 => ?_)
      refine Eq.trans (k_cond (t := o16) rfl rfl) ?_
      refine bifE2 (fun hc => ?_) fun hc => ?_
      · rw [hc]
        refine Eq.trans k_assoc ?_
        refine Eq.trans (k_region0 rfl (f24r8 k a0 x10 x11 o13)) ?_
        refine Eq.trans k_ret ?_
        refine Eq.trans blk_ret ?_
        refine Eq.trans loop_ret ?_
        refine Eq.trans (hret _) ?_
        rfl
      · rw [hc]
        refine Eq.trans k_skip ?_
        refine Eq.trans (k_lregion rfl (f24r9 k a0 x10 x11 o13)) ?_
        refine bindE (fun o18 => ?_)
        refine Eq.trans blk_normal ?_
        refine Eq.trans (k_lregion0 rfl (f24r10 k a0 x11 o18)) ?_
        refine Eq.trans loop_normal ?_
        exact ih o18 (Go.IntKind.wrap .i64 (x11 + 1))
    · rw [hc]
      refine Eq.trans k_exit ?_
      refine Eq.trans loop_exit ?_
      exact hK0 x10 x11
theorem f24r11 (k : Nat) (a0 : T_api_Form) (y19 : (List T_screen_part)) (y20 : Int) : RE k f24a11 f24o11 false ⟨[(1, (V.ptr 1 0 0)), (3, (V.sl 1 3 (List.map enc_T_screen_part y19))), (41, (sMark (a0.fMarks))), (42, (I (a0.fMarks.length : Int))), (43, (I y20)), (44, (V.bool false))], [(1, ⟨false, 4, [(enc_T_api_Form a0)]⟩)], 122⟩ = some ⟨[(1, (V.ptr 1 0 0)), (3, (V.sl 1 3 (List.map enc_T_screen_part y19))), (82, (sSlot (a0.fFields))), (83, (I (a0.fFields.length : Int))), (84, (I 0))], [(1, ⟨false, 4, [(enc_T_api_Form a0)]⟩)], 122⟩ := by
  refine rg ?_
  refine ra 2 2 ⟨[(1, (V.ptr 1 0 0)), (3, (V.sl 1 3 (List.map enc_T_screen_part y19))), (41, (sMark (a0.fMarks))), (42, (I (a0.fMarks.length : Int))), (43, (I y20)), (44, (V.bool false)), (81, (V.ptr 1 0 3)), (82, (sSlot (a0.fFields)))], [(1, ⟨false, 4, [(enc_T_api_Form a0)]⟩)], 122⟩ rfl rfl rfl ?_
  refine Eq.trans (reg_pure (x := some ()) (w := fun _ => (I (a0.fFields.length : Int))) rfl rfl rfl rfl (p_len (e := enc_T_api_Slot) rfl rfl rfl rfl rfl rfl Go.Proofs.Try.underlying23)) ?_
  refine Eq.trans some_bind ?_
  exact bind_end rfl
theorem f24r12 (k : Nat) (a0 : T_api_Form) (x27 : (List T_screen_part)) (x28 : Int) : RE k f24a12 f24o12 false ⟨[(1, (V.ptr 1 0 0)), (3, (V.sl 1 3 (List.map enc_T_screen_part x27))), (82, (sSlot (a0.fFields))), (83, (I (a0.fFields.length : Int))), (84, (I x28))], [(1, ⟨false, 4, [(enc_T_api_Form a0)]⟩)], 122⟩ = some ⟨[(1, (V.ptr 1 0 0)), (3, (V.sl 1 3 (List.map enc_T_screen_part x27))), (82, (sSlot (a0.fFields))), (83, (I (a0.fFields.length : Int))), (84, (I x28)), (85, (V.bool (decide (x28 < (a0.fFields.length : Int)))))], [(1, ⟨false, 4, [(enc_T_api_Form a0)]⟩)], 122⟩ :=
  rE rfl
theorem f24r13 (k : Nat) (a0 : T_api_Form) (x27 : (List T_screen_part)) (x28 : Int) : RE k f24a13 f24o13 false ⟨[(1, (V.ptr 1 0 0)), (3, (V.sl 1 3 (List.map enc_T_screen_part x27))), (82, (sSlot (a0.fFields))), (83, (I (a0.fFields.length : Int))), (84, (I x28)), (85, (V.bool true))], [(1, ⟨false, 4, [(enc_T_api_Form a0)]⟩)], 122⟩ = ((idx a0.fFields x28)).map (fun (o : T_api_Slot) => (⟨[(1, (V.ptr 1 0 0)), (3, (V.sl 1 3 (List.map enc_T_screen_part x27))), (7, (V.ptr 7 0 0)), (82, (sSlot (a0.fFields))), (83, (I (a0.fFields.length : Int))), (84, (I x28))], [(1, ⟨false, 4, [(enc_T_api_Form a0)]⟩), (7, ⟨false, 7, [(enc_T_api_Slot o)]⟩)], 122⟩ : St)) := by
  refine rg ?_
  refine Eq.trans (reg_pure (x := (idx a0.fFields x28)) (w := fun v29 => (V.pro (enc_T_api_Slot v29))) rfl rfl rfl rfl (p_index (e := enc_T_api_Slot) rfl rfl rfl Go.Proofs.Try.underlying23 rfl (by decide))) ?_
  refine bind_self (fun v29 => ?_)
  exact bind_end rfl
theorem f24r14 (k : Nat) (a0 : T_api_Form) (x27 : (List T_screen_part)) (x28 : Int) (o30 : T_api_Slot) : RE k f24a14 f24o14 false ⟨[(1, (V.ptr 1 0 0)), (3, (V.sl 1 3 (List.map enc_T_screen_part x27))), (7, (V.ptr 7 0 0)), (82, (sSlot (a0.fFields))), (83, (I (a0.fFields.length : Int))), (84, (I x28))], [(1, ⟨false, 4, [(enc_T_api_Form a0)]⟩), (7, ⟨false, 7, [(enc_T_api_Slot o30)]⟩)], 122⟩ = (((screen_lies k a0 o30.fRow o30.fColumn o30.fBytes).bind fun v31 => (some ((!v31))))).map (fun (o : Bool) => (⟨[(1, (V.ptr 1 0 0)), (3, (V.sl 1 3 (List.map enc_T_screen_part x27))), (7, (V.ptr 7 0 0)), (82, (sSlot (a0.fFields))), (83, (I (a0.fFields.length : Int))), (84, (I x28)), (96, (V.bool o))], [(1, ⟨false, 4, [(enc_T_api_Form a0)]⟩), (7, ⟨false, 7, [(enc_T_api_Slot o30)]⟩)], 122⟩ : St)) := by
  refine rg ?_
  refine ra 7 7 ⟨[(1, (V.ptr 1 0 0)), (3, (V.sl 1 3 (List.map enc_T_screen_part x27))), (7, (V.ptr 7 0 0)), (82, (sSlot (a0.fFields))), (83, (I (a0.fFields.length : Int))), (84, (I x28)), (88, (enc_T_api_Form a0)), (89, (V.ptr 7 0 1)), (90, (I o30.fRow)), (91, (V.ptr 7 0 2)), (92, (I o30.fColumn)), (93, (V.ptr 7 0 3)), (94, (I o30.fBytes))], [(1, ⟨false, 4, [(enc_T_api_Form a0)]⟩), (7, ⟨false, 7, [(enc_T_api_Slot o30)]⟩)], 122⟩ rfl rfl rfl ?_
  refine Eq.trans (reg_pure (x := (screen_lies k a0 o30.fRow o30.fColumn o30.fBytes)) (w := fun v31 => (V.bool v31)) rfl rfl rfl rfl (p_call rfl rfl rfl rfl rfl (screen_lies_ok k a0 o30.fRow o30.fColumn o30.fBytes) (.inl rfl))) ?_
  refine bindE (fun v31 => ?_)
  exact bind_end rfl
theorem f24r15 (k : Nat) (a0 : T_api_Form) (x27 : (List T_screen_part)) (x28 : Int) (o30 : T_api_Slot) : RE k f24a15 f24o15 false ⟨[(1, (V.ptr 1 0 0)), (3, (V.sl 1 3 (List.map enc_T_screen_part x27))), (7, (V.ptr 7 0 0)), (82, (sSlot (a0.fFields))), (83, (I (a0.fFields.length : Int))), (84, (I x28)), (96, (V.bool true))], [(1, ⟨false, 4, [(enc_T_api_Form a0)]⟩), (7, ⟨false, 7, [(enc_T_api_Slot o30)]⟩)], 122⟩ = some ⟨[(2, (V.bool false))], [], 122⟩ :=
  rE rfl
theorem f24r16 (k : Nat) (a0 : T_api_Form) (x27 : (List T_screen_part)) (x28 : Int) (o30 : T_api_Slot) : RE k f24a16 f24o16 false ⟨[(1, (V.ptr 1 0 0)), (3, (V.sl 1 3 (List.map enc_T_screen_part x27))), (7, (V.ptr 7 0 0)), (82, (sSlot (a0.fFields))), (83, (I (a0.fFields.length : Int))), (84, (I x28)), (96, (V.bool false))], [(1, ⟨false, 4, [(enc_T_api_Form a0)]⟩), (7, ⟨false, 7, [(enc_T_api_Slot o30)]⟩)], 122⟩ = ((app x27 ([({ frow := o30.fRow, fcolumn := o30.fColumn, fn := o30.fBytes } : T_screen_part)] : List T_screen_part))).map (fun (o : (List T_screen_part)) => (⟨[(1, (V.ptr 1 0 0)), (3, (V.sl 1 3 (List.map enc_T_screen_part o))), (82, (sSlot (a0.fFields))), (83, (I (a0.fFields.length : Int))), (84, (I x28))], [(1, ⟨false, 4, [(enc_T_api_Form a0)]⟩)], 122⟩ : St)) := by
  refine rg ?_
  refine ra 9 9 ⟨[(1, (V.ptr 1 0 0)), (3, (spart (x27))), (7, (V.ptr 7 0 0)), (82, (sSlot (a0.fFields))), (83, (I (a0.fFields.length : Int))), (84, (I x28)), (96, (V.bool false)), (97, (V.sl 1 3 (List.map enc_T_screen_part x27))), (98, (V.ptr 7 0 1)), (99, (I o30.fRow)), (100, (V.ptr 7 0 2)), (101, (I o30.fColumn)), (102, (V.ptr 7 0 3)), (103, (I o30.fBytes)), (104, (enc_T_screen_part ({ frow := o30.fRow, fcolumn := o30.fColumn, fn := o30.fBytes } : T_screen_part))), (105, (spart (([({ frow := o30.fRow, fcolumn := o30.fColumn, fn := o30.fBytes } : T_screen_part)] : List T_screen_part))))], [(1, ⟨false, 4, [(enc_T_api_Form a0)]⟩), (7, ⟨false, 7, [(enc_T_api_Slot o30)]⟩)], 122⟩ rfl rfl rfl ?_
  refine Eq.trans (reg_eff (x := (app x27 ([({ frow := o30.fRow, fcolumn := o30.fColumn, fn := o30.fBytes } : T_screen_part)] : List T_screen_part))) (w := fun v33 => ((V.sl 1 3 (List.map enc_T_screen_part v33)), _)) rfl rfl rfl rfl (p_app (e := enc_T_screen_part) rfl rfl rfl rfl rfl rfl rfl rfl rfl rfl (by decide))) ?_
  refine bind_self (fun v33 => ?_)
  exact bind_end rfl
theorem f24r17 (k : Nat) (a0 : T_api_Form) (x28 : Int) (o34 : (List T_screen_part)) : RE k f24a17 f24o17 false ⟨[(1, (V.ptr 1 0 0)), (3, (V.sl 1 3 (List.map enc_T_screen_part o34))), (82, (sSlot (a0.fFields))), (83, (I (a0.fFields.length : Int))), (84, (I x28))], [(1, ⟨false, 4, [(enc_T_api_Form a0)]⟩)], 122⟩ = some ⟨[(1, (V.ptr 1 0 0)), (3, (V.sl 1 3 (List.map enc_T_screen_part o34))), (82, (sSlot (a0.fFields))), (83, (I (a0.fFields.length : Int))), (84, (I (Go.IntKind.wrap .i64 (x28 + 1))))], [(1, ⟨false, 4, [(enc_T_api_Form a0)]⟩)], 122⟩ :=
  rE rfl
theorem screen_Valid_L2_ok (k : Nat) (a0 : T_api_Form)  (K0 : (List T_screen_part) → Int → Option Bool) (Kst : X × St → Option (V × List V)) (hK0 : ∀ (y0 : (List T_screen_part)) (y1 : Int), Kst (X.exit 2, ⟨[(1, (V.ptr 1 0 0)), (3, (V.sl 1 3 (List.map enc_T_screen_part y0))), (82, (sSlot (a0.fFields))), (83, (I (a0.fFields.length : Int))), (84, (I y1)), (85, (V.bool false))], [(1, ⟨false, 4, [(enc_T_api_Form a0)]⟩)], 122⟩) = (K0 y0 y1).map screen_Valid_fin) (hret : ∀ s, Kst (X.ret, s) = endK prog 122 [(enc_T_api_Form a0)] [] [.tmp 2] (X.ret, s)) :
    ∀ (m : Nat) (x27 : (List T_screen_part)) (x28 : Int), (iter (exec prog (EV k) f24n k f24b1) m ⟨[(1, (V.ptr 1 0 0)), (3, (V.sl 1 3 (List.map enc_T_screen_part x27))), (82, (sSlot (a0.fFields))), (83, (I (a0.fFields.length : Int))), (84, (I x28))], [(1, ⟨false, 4, [(enc_T_api_Form a0)]⟩)], 122⟩).bind Kst = (screen_Valid_L2 k a0 K0 m x27 x28).map screen_Valid_fin := by
  intro m
  induction m with
  | zero => intros; rfl
  | succ m ih =>
    intro x27 x28
    unfold screen_Valid_L2
    refine Eq.trans k_round ?_
    refine Eq.trans (k_region0 rfl (f24r12 k a0 x27 x28)) ?_
    refine Eq.trans (k_cond (t := (decide (x28 < (a0.fFields.length : Int)))) rfl rfl) ?_
    refine bifE2 (fun hc => ?_) fun hc => ?_
    · rw [hc]
      refine Eq.trans k_skip ?_
      refine Eq.trans (k_block rfl) ?_
      refine Eq.trans (k_region rfl (f24r13 k a0 x27 x28)) ?_
      refine bindE (fun o30 => ?_)
      refine Eq.trans k_assoc ?_
      refine Eq.trans (k_region rfl (f24r14 k a0 x27 x28 o30)) ?_
      refine bindE (fun o32 => ?_)
      refine Eq.trans (k_cond (t := o32) rfl rfl) ?_
      refine bifE2 (fun hc => ?_) fun hc => ?_
      · rw [hc]
        refine Eq.trans k_assoc ?_
        refine Eq.trans (k_region0 rfl (f24r15 k a0 x27 x28 o30)) ?_
        refine Eq.trans k_ret ?_
        refine Eq.trans blk_ret ?_
        refine Eq.trans loop_ret ?_
        refine Eq.trans (hret _) ?_
        rfl
      · rw [hc]
        refine Eq.trans k_skip ?_
        refine Eq.trans (k_lregion rfl (f24r16 k a0 x27 x28 o30)) ?_
        refine bindE (fun o34 => ?_)
        refine Eq.trans blk_normal ?_
        refine Eq.trans (k_lregion0 rfl (f24r17 k a0 x28 o34)) ?_
        refine Eq.trans loop_normal ?_
        exact ih o34 (Go.IntKind.wrap .i64 (x28 + 1))
    · rw [hc]
      refine Eq.trans k_exit ?_
      refine Eq.trans loop_exit ?_
      exact hK0 x27 x28
theorem f24r18 (k : Nat) (a0 : T_api_Form) (y35 : (List T_screen_part)) (y36 : Int) : RE k f24a18 f24o18 false ⟨[(1, (V.ptr 1 0 0)), (3, (V.sl 1 3 (List.map enc_T_screen_part y35))), (82, (sSlot (a0.fFields))), (83, (I (a0.fFields.length : Int))), (84, (I y36)), (85, (V.bool false))], [(1, ⟨false, 4, [(enc_T_api_Form a0)]⟩)], 122⟩ = some ⟨[(3, (V.sl 1 3 (List.map enc_T_screen_part y35))), (108, (spart (y35))), (109, (I (y35.length : Int))), (110, (I 0))], [], 122⟩ := by
  refine rg ?_
  refine ra 1 1 ⟨[(1, (V.ptr 1 0 0)), (3, (V.sl 1 3 (List.map enc_T_screen_part y35))), (82, (sSlot (a0.fFields))), (83, (I (a0.fFields.length : Int))), (84, (I y36)), (85, (V.bool false)), (108, (spart (y35)))], [(1, ⟨false, 4, [(enc_T_api_Form a0)]⟩)], 122⟩ rfl rfl rfl ?_
  refine Eq.trans (reg_pure (x := some ()) (w := fun _ => (I (y35.length : Int))) rfl rfl rfl rfl (p_len (e := enc_T_screen_part) rfl rfl rfl rfl rfl rfl Go.Proofs.Try.underlying72)) ?_
  refine Eq.trans some_bind ?_
  exact bind_end rfl
theorem f24r19 (k : Nat) (y35 : (List T_screen_part)) (x42 : Int) : RE k f24a19 f24o19 false ⟨[(3, (V.sl 1 3 (List.map enc_T_screen_part y35))), (108, (spart (y35))), (109, (I (y35.length : Int))), (110, (I x42))], [], 122⟩ = some ⟨[(3, (V.sl 1 3 (List.map enc_T_screen_part y35))), (108, (spart (y35))), (109, (I (y35.length : Int))), (110, (I x42)), (111, (V.bool (decide (x42 < (y35.length : Int)))))], [], 122⟩ :=
  rE rfl
theorem f24r20 (k : Nat) (y35 : (List T_screen_part)) (x42 : Int) : RE k f24a20 f24o20 false ⟨[(3, (V.sl 1 3 (List.map enc_T_screen_part y35))), (108, (spart (y35))), (109, (I (y35.length : Int))), (110, (I x42)), (111, (V.bool true))], [], 122⟩ = (((idx y35 x42).bind fun v43 => (some (x42, v43)))).map (fun (o : Int × T_screen_part) => (⟨[(3, (V.sl 1 3 (List.map enc_T_screen_part y35))), (8, (I o.1)), (9, (V.ptr 9 0 0)), (108, (spart (y35))), (109, (I (y35.length : Int))), (110, (I x42))], [(9, ⟨false, 3, [(enc_T_screen_part o.2)]⟩)], 122⟩ : St)) := by
  refine rg ?_
  refine ra 1 1 ⟨[(3, (V.sl 1 3 (List.map enc_T_screen_part y35))), (108, (spart (y35))), (109, (I (y35.length : Int))), (110, (I x42)), (111, (V.bool true)), (112, (I x42))], [], 122⟩ rfl rfl rfl ?_
  refine Eq.trans (reg_pure (x := (idx y35 x42)) (w := fun v43 => (V.pro (enc_T_screen_part v43))) rfl rfl rfl rfl (p_index (e := enc_T_screen_part) rfl rfl rfl Go.Proofs.Try.underlying72 rfl (by decide))) ?_
  refine bindE (fun v43 => ?_)
  exact bind_end rfl
theorem f24r21 (k : Nat) (y35 : (List T_screen_part)) (x42 : Int) (o44 : Int × T_screen_part) : RE k f24a21 f24o21 true ⟨[(3, (V.sl 1 3 (List.map enc_T_screen_part y35))), (8, (I o44.1)), (9, (V.ptr 9 0 0)), (108, (spart (y35))), (109, (I (y35.length : Int))), (110, (I x42))], [(9, ⟨false, 3, [(enc_T_screen_part o44.2)]⟩)], 122⟩ = (((cut y35 0 o44.1).bind fun v45 => (slices_ContainsFunc_part_v10s75 k v45 (fun j x0 => (screen_part_meets j o44.2 x0))))).map (fun (o : Bool) => (⟨[(3, (V.sl 1 3 (List.map enc_T_screen_part y35))), (108, (spart (y35))), (109, (I (y35.length : Int))), (110, (I x42)), (120, (V.bool o))], [], 122⟩ : St)) := by
  refine Eq.trans (regionE_regp (p := 6) (dk := true) (t := [(3, (V.sl 1 3 (List.map enc_T_screen_part y35))), (8, (I o44.1)), (9, (V.ptr 9 0 0)), (108, (spart (y35))), (109, (I (y35.length : Int))), (110, (I x42))]) (σ := [(9, ⟨false, 3, [(enc_T_screen_part o44.2)]⟩)]) (n := 122) (by decide) (by decide) rfl) ?_
  refine Eq.trans (regp_adv (m := 2) (j := 2) (t' := [(3, (V.sl 1 3 (List.map enc_T_screen_part y35))), (8, (I o44.1)), (9, (V.ptr 9 0 0)), (108, (spart (y35))), (109, (I (y35.length : Int))), (110, (I x42)), (115, (spart (y35))), (116, (I o44.1))]) rfl rfl rfl) ?_
  refine Eq.trans (regp_pure (x := (cut y35 0 o44.1)) (w := fun v45 => (spart (v45))) rfl rfl rfl rfl rfl (p_slice (e := enc_T_screen_part) rfl rfl rfl rfl rfl rfl Go.Proofs.Try.underlying72 rfl (by decide))) ?_
  refine bindE (fun v45 => ?_)
  refine Eq.trans (putp_adv (m := 2) (j := 5) (t' := [(3, (V.sl 1 3 (List.map enc_T_screen_part y35))), (8, (I o44.1)), (9, (V.ptr 9 0 0)), (108, (spart (y35))), (109, (I (y35.length : Int))), (110, (I x42)), (115, (spart (y35))), (116, (I o44.1)), (117, (spart (v45))), (118, (enc_T_screen_part o44.2)), (119, (V.fn 56 [(enc_T_screen_part o44.2)] []))]) rfl rfl rfl) ?_
  refine Eq.trans (regp_pure (x := (slices_ContainsFunc_part_v10s75 k v45 (fun j x0 => (screen_part_meets j o44.2 x0)))) (w := fun v46 => (V.bool v46)) rfl rfl rfl rfl rfl (p_call rfl rfl rfl rfl rfl (slices_ContainsFunc_part_v10s75_ok k v45 (fun j x0 => (screen_part_meets j o44.2 x0)) 56 o44.2 (fun j x0 => (screen_part_meets_ok j o44.2 x0))) (.inl rfl))) ?_
  refine bind_self (fun v46 => ?_)
  exact regp_end rfl
theorem f24r22 (k : Nat) (y35 : (List T_screen_part)) (x42 : Int) : RE k f24a22 f24o22 false ⟨[(3, (V.sl 1 3 (List.map enc_T_screen_part y35))), (108, (spart (y35))), (109, (I (y35.length : Int))), (110, (I x42)), (120, (V.bool true))], [], 122⟩ = some ⟨[(2, (V.bool false))], [], 122⟩ :=
  rE rfl
theorem f24r23 (k : Nat) (y35 : (List T_screen_part)) (x42 : Int) : RE k f24a23 f24o23 false ⟨[(3, (V.sl 1 3 (List.map enc_T_screen_part y35))), (108, (spart (y35))), (109, (I (y35.length : Int))), (110, (I x42)), (120, (V.bool false))], [], 122⟩ = some ⟨[(3, (V.sl 1 3 (List.map enc_T_screen_part y35))), (108, (spart (y35))), (109, (I (y35.length : Int))), (110, (I (Go.IntKind.wrap .i64 (x42 + 1))))], [], 122⟩ :=
  rE rfl
theorem screen_Valid_L3_ok (k : Nat) (a0 : T_api_Form) (y35 : (List T_screen_part))  (K0 : Int → Option Bool) (Kst : X × St → Option (V × List V)) (hK0 : ∀ (y0 : Int), Kst (X.exit 4, ⟨[(3, (V.sl 1 3 (List.map enc_T_screen_part y35))), (108, (spart (y35))), (109, (I (y35.length : Int))), (110, (I y0)), (111, (V.bool false))], [], 122⟩) = (K0 y0).map screen_Valid_fin) (hret : ∀ s, Kst (X.ret, s) = endK prog 122 [(enc_T_api_Form a0)] [] [.tmp 2] (X.ret, s)) :
    ∀ (m : Nat) (x42 : Int), (iter (exec prog (EV k) f24n k f24b2) m ⟨[(3, (V.sl 1 3 (List.map enc_T_screen_part y35))), (108, (spart (y35))), (109, (I (y35.length : Int))), (110, (I x42))], [], 122⟩).bind Kst = (screen_Valid_L3 k y35 K0 m x42).map screen_Valid_fin := by
  intro m
  induction m with
  | zero => intros; rfl
  | succ m ih =>
    intro x42
    unfold screen_Valid_L3
    refine Eq.trans k_round ?_
    refine Eq.trans (k_region0 rfl (f24r19 k y35 x42)) ?_
    refine Eq.trans (k_cond (t := (decide (x42 < (y35.length : Int)))) rfl rfl) ?_
    refine bifE2 (fun hc => ?_) fun hc => ?_
    · rw [hc]
      refine Eq.trans k_skip ?_
      refine Eq.trans (k_block rfl) ?_
      refine Eq.trans (k_region rfl (f24r20 k y35 x42)) ?_
      refine bindE (fun o44 => ?_)
      refine Eq.trans (k_region rfl (f24r21 k y35 x42 o44)) ?_
      refine bindE (fun o47 => ?_)
      refine Eq.trans (k_lcond (t := o47) rfl rfl) ?_
      refine bifE2 (fun hc => ?_) fun hc => ?_
      · rw [hc]
        refine Eq.trans (k_region0 rfl (f24r22 k y35 x42)) ?_
        refine Eq.trans k_lret ?_
        refine Eq.trans blk_ret ?_
        refine Eq.trans loop_ret ?_
        refine Eq.trans (hret _) ?_
        rfl
      · rw [hc]
        refine Eq.trans k_lskip ?_
        refine Eq.trans blk_normal ?_
        refine Eq.trans (k_lregion0 rfl (f24r23 k y35 x42)) ?_
        refine Eq.trans loop_normal ?_
        exact ih (Go.IntKind.wrap .i64 (x42 + 1))
    · rw [hc]
      refine Eq.trans k_exit ?_
      refine Eq.trans loop_exit ?_
      exact hK0 x42
theorem f24r24 (k : Nat) (y35 : (List T_screen_part)) (y48 : Int) : RE k f24a24 f24o24 false ⟨[(3, (V.sl 1 3 (List.map enc_T_screen_part y35))), (108, (spart (y35))), (109, (I (y35.length : Int))), (110, (I y48)), (111, (V.bool false))], [], 122⟩ = some ⟨[(2, (V.bool true))], [], 122⟩ :=
  rE rfl
theorem screen_Valid_ok (k : Nat) (a0 : T_api_Form) : EV k 24 [(enc_T_api_Form a0)] = (screen_Valid k a0).map screen_Valid_fin := by
  cases k with
  | zero => rfl
  | succ k =>
    unfold screen_Valid
    refine Eq.trans (evF_succ (c := f24c) (N := 122) (regs := f24n) rfl Go.Proofs.Try.func24 rfl (by decide) rfl rfl rfl) ?_
    refine Eq.trans (k_region0 rfl (f24r0 k a0)) ?_
    refine Eq.trans k_assoc ?_
    refine Eq.trans (k_region rfl (f24r1 k a0)) ?_
    refine bindE (fun o2 => ?_)
    refine Eq.trans (k_cond (t := o2) rfl rfl) ?_
    refine bifE2 (fun hc => ?_) fun hc => ?_
    · rw [hc]
      refine Eq.trans k_assoc ?_
      refine Eq.trans (k_region0 rfl (f24r2 k a0)) ?_
      refine Eq.trans k_ret ?_
      rfl
    · rw [hc]
      refine Eq.trans k_skip ?_
      refine Eq.trans (k_region0 rfl (f24r3 k a0)) ?_
      refine Eq.trans k_assoc ?_
      refine Eq.trans (k_region0 rfl (f24r4 k a0)) ?_
      refine Eq.trans (k_block rfl) ?_
      refine Eq.trans k_loop ?_
      refine screen_Valid_L1_ok k a0 _ _ ?h_screen_Valid_L1_0 ?hr_screen_Valid_L1 k ([] : List T_screen_part) 0
      · intro y19 y20
        refine Eq.trans blk_exit ?_
        refine Eq.trans k_assoc ?_
        refine Eq.trans (k_region0 rfl (f24r11 k a0 y19 y20)) ?_
        refine Eq.trans (k_block rfl) ?_
        refine Eq.trans k_loop ?_
        refine screen_Valid_L2_ok k a0 _ _ ?h_screen_Valid_L2_0 ?hr_screen_Valid_L2 k y19 0
        · intro y35 y36
          refine Eq.trans blk_exit ?_
          refine Eq.trans k_assoc ?_
          refine Eq.trans (k_region0 rfl (f24r18 k a0 y35 y36)) ?_
          refine Eq.trans (k_block rfl) ?_
          refine Eq.trans k_loop ?_
          refine screen_Valid_L3_ok k a0 y35 _ _ ?h_screen_Valid_L3_0 ?hr_screen_Valid_L3 k 0
          · intro y48
            refine Eq.trans blk_exit ?_
            refine Eq.trans (k_region0 rfl (f24r24 k y35 y48)) ?_
            refine Eq.trans k_lret ?_
            rfl
          · intro s; exact rfl
        · intro s; exact rfl
      · intro s; exact rfl
def screen_lengths_fin : (Int × Int) → V × List V := fun r => (.tup [(I r.1), (I r.2)], [])
theorem f39r0 (k : Nat) (a0 : T_api_Form) : RE k f39a0 f39o0 false ⟨[(0, (enc_T_api_Form a0))], [], 26⟩ = some ⟨[(1, (V.ptr 1 0 0)), (2, (I 0)), (3, (I 0))], [(1, ⟨false, 4, [(enc_T_api_Form a0)]⟩)], 26⟩ :=
  rE rfl
theorem f39r1 (k : Nat) (a0 : T_api_Form) : RE k f39a1 f39o1 false ⟨[(1, (V.ptr 1 0 0)), (2, (I 0)), (3, (I 0))], [(1, ⟨false, 4, [(enc_T_api_Form a0)]⟩)], 26⟩ = some ⟨[(2, (I 0)), (3, (I 0)), (7, (sSlot (a0.fFields))), (8, (I (a0.fFields.length : Int))), (9, (I 0))], [], 26⟩ := by
  refine rg ?_
  refine ra 2 2 ⟨[(1, (V.ptr 1 0 0)), (2, (I 0)), (3, (I 0)), (6, (V.ptr 1 0 3)), (7, (sSlot (a0.fFields)))], [(1, ⟨false, 4, [(enc_T_api_Form a0)]⟩)], 26⟩ rfl rfl rfl ?_
  refine Eq.trans (reg_pure (x := some ()) (w := fun _ => (I (a0.fFields.length : Int))) rfl rfl rfl rfl (p_len (e := enc_T_api_Slot) rfl rfl rfl rfl rfl rfl Go.Proofs.Try.underlying23)) ?_
  refine Eq.trans some_bind ?_
  exact bind_end rfl
theorem f39r2 (k : Nat) (a0 : T_api_Form) (x3 : Int) (x4 : Int) (x5 : Int) : RE k f39a2 f39o2 false ⟨[(2, (I x3)), (3, (I x4)), (7, (sSlot (a0.fFields))), (8, (I (a0.fFields.length : Int))), (9, (I x5))], [], 26⟩ = some ⟨[(2, (I x3)), (3, (I x4)), (7, (sSlot (a0.fFields))), (8, (I (a0.fFields.length : Int))), (9, (I x5)), (10, (V.bool (decide (x5 < (a0.fFields.length : Int)))))], [], 26⟩ :=
  rE rfl
theorem f39r3 (k : Nat) (a0 : T_api_Form) (x3 : Int) (x4 : Int) (x5 : Int) : RE k f39a3 f39o3 false ⟨[(2, (I x3)), (3, (I x4)), (7, (sSlot (a0.fFields))), (8, (I (a0.fFields.length : Int))), (9, (I x5)), (10, (V.bool true))], [], 26⟩ = ((idx a0.fFields x5)).map (fun (o : T_api_Slot) => (⟨[(2, (I x3)), (3, (I x4)), (5, (V.ptr 5 0 0)), (7, (sSlot (a0.fFields))), (8, (I (a0.fFields.length : Int))), (9, (I x5))], [(5, ⟨false, 7, [(enc_T_api_Slot o)]⟩)], 26⟩ : St)) := by
  refine rg ?_
  refine Eq.trans (reg_pure (x := (idx a0.fFields x5)) (w := fun v6 => (V.pro (enc_T_api_Slot v6))) rfl rfl rfl rfl (p_index (e := enc_T_api_Slot) rfl rfl rfl Go.Proofs.Try.underlying23 rfl (by decide))) ?_
  refine bind_self (fun v6 => ?_)
  exact bind_end rfl
theorem f39r4 (k : Nat) (a0 : T_api_Form) (x3 : Int) (x4 : Int) (x5 : Int) (o7 : T_api_Slot) : RE k f39a4 f39o4 true ⟨[(2, (I x3)), (3, (I x4)), (5, (V.ptr 5 0 0)), (7, (sSlot (a0.fFields))), (8, (I (a0.fFields.length : Int))), (9, (I x5))], [(5, ⟨false, 7, [(enc_T_api_Slot o7)]⟩)], 26⟩ = some ⟨[(2, (I (if (Go.IntKind.wrap .i64 (o7.fIn + 1)) > x3 then (Go.IntKind.wrap .i64 (o7.fIn + 1)) else x3))), (3, (I (if (Go.IntKind.wrap .i64 (o7.fOut + 1)) > x4 then (Go.IntKind.wrap .i64 (o7.fOut + 1)) else x4))), (7, (sSlot (a0.fFields))), (8, (I (a0.fFields.length : Int))), (9, (I x5))], [], 26⟩ := by
  refine Eq.trans (regionE_regp (p := 10) (dk := false) (t := [(2, (I x3)), (3, (I x4)), (5, (V.ptr 5 0 0)), (7, (sSlot (a0.fFields))), (8, (I (a0.fFields.length : Int))), (9, (I x5))]) (σ := [(5, ⟨false, 7, [(enc_T_api_Slot o7)]⟩)]) (n := 26) (by decide) (by decide) rfl) ?_
  exact regp_end rfl
theorem f39r5 (k : Nat) (a0 : T_api_Form) (x3 : Int) (x4 : Int) (x5 : Int) (o7 : T_api_Slot) : RE k f39a5 f39o5 false ⟨[(2, (I (if (Go.IntKind.wrap .i64 (o7.fIn + 1)) > x3 then (Go.IntKind.wrap .i64 (o7.fIn + 1)) else x3))), (3, (I (if (Go.IntKind.wrap .i64 (o7.fOut + 1)) > x4 then (Go.IntKind.wrap .i64 (o7.fOut + 1)) else x4))), (7, (sSlot (a0.fFields))), (8, (I (a0.fFields.length : Int))), (9, (I x5))], [], 26⟩ = some ⟨[(2, (I (if (Go.IntKind.wrap .i64 (o7.fIn + 1)) > x3 then (Go.IntKind.wrap .i64 (o7.fIn + 1)) else x3))), (3, (I (if (Go.IntKind.wrap .i64 (o7.fOut + 1)) > x4 then (Go.IntKind.wrap .i64 (o7.fOut + 1)) else x4))), (7, (sSlot (a0.fFields))), (8, (I (a0.fFields.length : Int))), (9, (I (Go.IntKind.wrap .i64 (x5 + 1))))], [], 26⟩ :=
  rE rfl
theorem screen_lengths_L1_ok (k : Nat) (a0 : T_api_Form)  (K0 : Int → Int → Int → Option (Int × Int)) (Kst : X × St → Option (V × List V)) (hK0 : ∀ (y0 : Int) (y1 : Int) (y2 : Int), Kst (X.exit 0, ⟨[(2, (I y0)), (3, (I y1)), (7, (sSlot (a0.fFields))), (8, (I (a0.fFields.length : Int))), (9, (I y2)), (10, (V.bool false))], [], 26⟩) = (K0 y0 y1 y2).map screen_lengths_fin) (hret : ∀ s, Kst (X.ret, s) = endK prog 26 [(enc_T_api_Form a0)] [] [.tmp 2, .tmp 3] (X.ret, s)) :
    ∀ (m : Nat) (x3 : Int) (x4 : Int) (x5 : Int), (iter (exec prog (EV k) f39n k f39b0) m ⟨[(2, (I x3)), (3, (I x4)), (7, (sSlot (a0.fFields))), (8, (I (a0.fFields.length : Int))), (9, (I x5))], [], 26⟩).bind Kst = (screen_lengths_L1 a0 K0 m x3 x4 x5).map screen_lengths_fin := by
  intro m
  induction m with
  | zero => intros; rfl
  | succ m ih =>
    intro x3 x4 x5
    unfold screen_lengths_L1
    refine Eq.trans k_round ?_
    refine Eq.trans (k_region0 rfl (f39r2 k a0 x3 x4 x5)) ?_
    refine Eq.trans (k_cond (t := (decide (x5 < (a0.fFields.length : Int)))) rfl rfl) ?_
    refine bifE2 (fun hc => ?_) fun hc => ?_
    · rw [hc]
      refine Eq.trans k_skip ?_
      refine Eq.trans (k_block rfl) ?_
      refine Eq.trans (k_region rfl (f39r3 k a0 x3 x4 x5)) ?_
      refine bindE (fun o7 => ?_)
      refine Eq.trans (k_lregion0 rfl (f39r4 k a0 x3 x4 x5 o7)) ?_
      refine Eq.trans blk_normal ?_
      refine Eq.trans (k_lregion0 rfl (f39r5 k a0 x3 x4 x5 o7)) ?_
      refine Eq.trans loop_normal ?_
      exact ih (if (Go.IntKind.wrap .i64 (o7.fIn + 1)) > x3 then (Go.IntKind.wrap .i64 (o7.fIn + 1)) else x3) (if (Go.IntKind.wrap .i64 (o7.fOut + 1)) > x4 then (Go.IntKind.wrap .i64 (o7.fOut + 1)) else x4) (Go.IntKind.wrap .i64 (x5 + 1))
    · rw [hc]
      refine Eq.trans k_exit ?_
      refine Eq.trans loop_exit ?_
      exact hK0 x3 x4 x5
theorem f39r6 (k : Nat) (a0 : T_api_Form) (y8 : Int) (y9 : Int) (y10 : Int) : RE k f39a6 f39o6 false ⟨[(2, (I y8)), (3, (I y9)), (7, (sSlot (a0.fFields))), (8, (I (a0.fFields.length : Int))), (9, (I y10)), (10, (V.bool false))], [], 26⟩ = some ⟨[(2, (I y8)), (3, (I y9))], [], 26⟩ :=
  rE rfl
theorem screen_lengths_ok (k : Nat) (a0 : T_api_Form) : EV k 39 [(enc_T_api_Form a0)] = (screen_lengths k a0).map screen_lengths_fin := by
  cases k with
  | zero => rfl
  | succ k =>
    unfold screen_lengths
    refine Eq.trans (evF_succ (c := f39c) (N := 26) (regs := f39n) rfl Go.Proofs.Try.func39 rfl (by decide) rfl rfl rfl) ?_
    refine Eq.trans (k_region0 rfl (f39r0 k a0)) ?_
    refine Eq.trans k_assoc ?_
    refine Eq.trans (k_region0 rfl (f39r1 k a0)) ?_
    refine Eq.trans (k_block rfl) ?_
    refine Eq.trans k_loop ?_
    refine screen_lengths_L1_ok k a0 _ _ ?h_screen_lengths_L1_0 ?hr_screen_lengths_L1 k 0 0 0
    · intro y8 y9 y10
      refine Eq.trans blk_exit ?_
      refine Eq.trans (k_region0 rfl (f39r6 k a0 y8 y9 y10)) ?_
      refine Eq.trans k_lret ?_
      rfl
    · intro s; exact rfl
def slices_IndexFunc_string_v10_fin : Int → V × List V := fun r => ((I r), [])
theorem f78v10r0 (k : Nat) (a0 : (List Str)) (a1 : Nat → Str → Option Bool) (a1_fid : Go.FuncId)  (a1_hok : ∀ j x0, EV j a1_fid [(V.str x0)] = (a1 j x0).map fun b => ((V.bool b), [])) : RE k f78v10a0 f78v10o0 false ⟨[(0, (V.sl 0 1 (List.map V.str a0))), (1, (V.fn a1_fid [] []))], [], 19⟩ = some ⟨[(0, (V.sl 0 1 (List.map V.str a0))), (1, (V.fn a1_fid [] []))], [], 19⟩ :=
  rE rfl
theorem f78v10r1 (k : Nat) (a0 : (List Str)) (a1 : Nat → Str → Option Bool) (a1_fid : Go.FuncId)  (a1_hok : ∀ j x0, EV j a1_fid [(V.str x0)] = (a1 j x0).map fun b => ((V.bool b), [])) : RE k f78v10a1 f78v10o1 false ⟨[(0, (V.sl 0 1 (List.map V.str a0))), (1, (V.fn a1_fid [] []))], [], 19⟩ = some ⟨[(0, (V.sl 0 1 (List.map V.str a0))), (1, (V.fn a1_fid [] [])), (7, (I (a0.length : Int))), (8, (I 0))], [], 19⟩ := by
  refine rg ?_
  refine ra 1 1 ⟨[(0, (V.sl 0 1 (List.map V.str a0))), (1, (V.fn a1_fid [] [])), (6, (V.sl 0 1 (List.map V.str a0)))], [], 19⟩ rfl rfl rfl ?_
  refine Eq.trans (reg_pure (x := some ()) (w := fun _ => (I (a0.length : Int))) rfl rfl rfl rfl (p_len (e := V.str) rfl rfl rfl rfl rfl rfl Go.Proofs.Try.underlying26)) ?_
  refine Eq.trans some_bind ?_
  exact bind_end rfl
theorem f78v10r2 (k : Nat) (a0 : (List Str)) (x4 : Int) (a1 : Nat → Str → Option Bool) (a1_fid : Go.FuncId)  (a1_hok : ∀ j x0, EV j a1_fid [(V.str x0)] = (a1 j x0).map fun b => ((V.bool b), [])) : RE k f78v10a2 f78v10o2 false ⟨[(0, (V.sl 0 1 (List.map V.str a0))), (1, (V.fn a1_fid [] [])), (7, (I (a0.length : Int))), (8, (I x4))], [], 19⟩ = some ⟨[(0, (V.sl 0 1 (List.map V.str a0))), (1, (V.fn a1_fid [] [])), (7, (I (a0.length : Int))), (8, (I x4)), (9, (V.bool (decide (x4 < (a0.length : Int)))))], [], 19⟩ :=
  rE rfl
theorem f78v10r3 (k : Nat) (a0 : (List Str)) (x4 : Int) (a1 : Nat → Str → Option Bool) (a1_fid : Go.FuncId)  (a1_hok : ∀ j x0, EV j a1_fid [(V.str x0)] = (a1 j x0).map fun b => ((V.bool b), [])) : RE k f78v10a3 f78v10o3 false ⟨[(0, (V.sl 0 1 (List.map V.str a0))), (1, (V.fn a1_fid [] [])), (7, (I (a0.length : Int))), (8, (I x4)), (9, (V.bool true))], [], 19⟩ = some ⟨[(0, (V.sl 0 1 (List.map V.str a0))), (1, (V.fn a1_fid [] [])), (5, (I x4)), (7, (I (a0.length : Int))), (8, (I x4))], [], 19⟩ :=
  rE rfl
theorem f78v10r4 (k : Nat) (a0 : (List Str)) (x4 : Int) (a1 : Nat → Str → Option Bool) (a1_fid : Go.FuncId)  (a1_hok : ∀ j x0, EV j a1_fid [(V.str x0)] = (a1 j x0).map fun b => ((V.bool b), [])) : RE k f78v10a4 f78v10o4 false ⟨[(0, (V.sl 0 1 (List.map V.str a0))), (1, (V.fn a1_fid [] [])), (5, (I x4)), (7, (I (a0.length : Int))), (8, (I x4))], [], 19⟩ = (((idx a0 x4).bind fun v5 => (a1 k v5))).map (fun (o : Bool) => (⟨[(0, (V.sl 0 1 (List.map V.str a0))), (1, (V.fn a1_fid [] [])), (5, (I x4)), (7, (I (a0.length : Int))), (8, (I x4)), (16, (V.bool o))], [], 19⟩ : St)) := by
  refine rg ?_
  refine ra 3 3 ⟨[(0, (V.sl 0 1 (List.map V.str a0))), (1, (V.fn a1_fid [] [])), (5, (I x4)), (7, (I (a0.length : Int))), (8, (I x4)), (11, (V.fn a1_fid [] [])), (12, (V.sl 0 1 (List.map V.str a0))), (13, (I x4))], [], 19⟩ rfl rfl rfl ?_
  refine Eq.trans (reg_pure (x := (idx a0 x4)) (w := fun v5 => (V.pro (V.str v5))) rfl rfl rfl rfl (p_index (e := V.str) rfl rfl rfl Go.Proofs.Try.underlying26 rfl (by decide))) ?_
  refine bindE (fun v5 => ?_)
  refine ba 1 5 ⟨[(0, (V.sl 0 1 (List.map V.str a0))), (1, (V.fn a1_fid [] [])), (5, (I x4)), (7, (I (a0.length : Int))), (8, (I x4)), (11, (V.fn a1_fid [] [])), (12, (V.sl 0 1 (List.map V.str a0))), (13, (I x4)), (14, (V.pro (V.str v5))), (15, (V.str v5))], [], 19⟩ rfl rfl rfl ?_
  refine Eq.trans (reg_pure (x := (a1 k v5)) (w := fun v6 => (V.bool v6)) rfl rfl rfl rfl (p_call rfl rfl rfl rfl rfl (a1_hok k v5) (.inl rfl))) ?_
  refine bind_self (fun v6 => ?_)
  exact bind_end rfl
theorem f78v10r5 (k : Nat) (a0 : (List Str)) (x4 : Int) (a1 : Nat → Str → Option Bool) (a1_fid : Go.FuncId)  (a1_hok : ∀ j x0, EV j a1_fid [(V.str x0)] = (a1 j x0).map fun b => ((V.bool b), [])) : RE k f78v10a5 f78v10o5 false ⟨[(0, (V.sl 0 1 (List.map V.str a0))), (1, (V.fn a1_fid [] [])), (5, (I x4)), (7, (I (a0.length : Int))), (8, (I x4)), (16, (V.bool true))], [], 19⟩ = some ⟨[(4, (I x4))], [], 19⟩ :=
  rE rfl
theorem f78v10r6 (k : Nat) (a0 : (List Str)) (x4 : Int) (a1 : Nat → Str → Option Bool) (a1_fid : Go.FuncId)  (a1_hok : ∀ j x0, EV j a1_fid [(V.str x0)] = (a1 j x0).map fun b => ((V.bool b), [])) : RE k f78v10a6 f78v10o6 false ⟨[(0, (V.sl 0 1 (List.map V.str a0))), (1, (V.fn a1_fid [] [])), (5, (I x4)), (7, (I (a0.length : Int))), (8, (I x4)), (16, (V.bool false))], [], 19⟩ = some ⟨[(0, (V.sl 0 1 (List.map V.str a0))), (1, (V.fn a1_fid [] [])), (7, (I (a0.length : Int))), (8, (I (Go.IntKind.wrap .i64 (x4 + 1))))], [], 19⟩ :=
  rE rfl
theorem slices_IndexFunc_string_v10_L1_ok (k : Nat) (a0 : (List Str)) (a1 : Nat → Str → Option Bool) (a1_fid : Go.FuncId)  (a1_hok : ∀ j x0, EV j a1_fid [(V.str x0)] = (a1 j x0).map fun b => ((V.bool b), [])) (K0 : Int → Option Int) (Kst : X × St → Option (V × List V)) (hK0 : ∀ (y0 : Int), Kst (X.exit 0, ⟨[(0, (V.sl 0 1 (List.map V.str a0))), (1, (V.fn a1_fid [] [])), (7, (I (a0.length : Int))), (8, (I y0)), (9, (V.bool false))], [], 19⟩) = (K0 y0).map slices_IndexFunc_string_v10_fin) (hret : ∀ s, Kst (X.ret, s) = endK prog 19 [(V.sl 0 1 (List.map V.str a0)), (V.fn a1_fid [] [])] [] [.tmp 4] (X.ret, s)) :
    ∀ (m : Nat) (x4 : Int), (iter (exec prog (EV k) f78v10n k f78v10b0) m ⟨[(0, (V.sl 0 1 (List.map V.str a0))), (1, (V.fn a1_fid [] [])), (7, (I (a0.length : Int))), (8, (I x4))], [], 19⟩).bind Kst = (slices_IndexFunc_string_v10_L1 k a0 a1 K0 m x4).map slices_IndexFunc_string_v10_fin := by
  intro m
  induction m with
  | zero => intros; rfl
  | succ m ih =>
    intro x4
    unfold slices_IndexFunc_string_v10_L1
    refine Eq.trans k_round ?_
    refine Eq.trans (k_region0 rfl (f78v10r2 k a0 x4 a1 a1_fid a1_hok)) ?_
    refine Eq.trans (k_cond (t := (decide (x4 < (a0.length : Int)))) rfl rfl) ?_
    refine bifE2 (fun hc => ?_) fun hc => ?_
    · rw [hc]
      refine Eq.trans k_skip ?_
      refine Eq.trans (k_block rfl) ?_
      refine Eq.trans (k_region0 rfl (f78v10r3 k a0 x4 a1 a1_fid a1_hok)) ?_
      refine Eq.trans (k_region rfl (f78v10r4 k a0 x4 a1 a1_fid a1_hok)) ?_
      refine bindE (fun o7 => ?_)
      refine Eq.trans (k_lcond (t := o7) rfl rfl) ?_
      refine bifE2 (fun hc => ?_) fun hc => ?_
      · rw [hc]
        refine Eq.trans (k_region0 rfl (f78v10r5 k a0 x4 a1 a1_fid a1_hok)) ?_
        refine Eq.trans k_lret ?_
        refine Eq.trans blk_ret ?_
        refine Eq.trans loop_ret ?_
        refine Eq.trans (hret _) ?_
        rfl
      · rw [hc]
        refine Eq.trans k_lskip ?_
        refine Eq.trans blk_normal ?_
        refine Eq.trans (k_lregion0 rfl (f78v10r6 k a0 x4 a1 a1_fid a1_hok)) ?_
        refine Eq.trans loop_normal ?_
        exact ih (Go.IntKind.wrap .i64 (x4 + 1))
    · rw [hc]
      refine Eq.trans k_exit ?_
      refine Eq.trans loop_exit ?_
      exact hK0 x4
theorem f78v10r7 (k : Nat) (a0 : (List Str)) (y8 : Int) (a1 : Nat → Str → Option Bool) (a1_fid : Go.FuncId)  (a1_hok : ∀ j x0, EV j a1_fid [(V.str x0)] = (a1 j x0).map fun b => ((V.bool b), [])) : RE k f78v10a7 f78v10o7 false ⟨[(0, (V.sl 0 1 (List.map V.str a0))), (1, (V.fn a1_fid [] [])), (7, (I (a0.length : Int))), (8, (I y8)), (9, (V.bool false))], [], 19⟩ = some ⟨[(4, (I (-1)))], [], 19⟩ :=
  rE rfl
theorem slices_IndexFunc_string_v10_ok (k : Nat) (a0 : (List Str)) (a1 : Nat → Str → Option Bool) (a1_fid : Go.FuncId)  (a1_hok : ∀ j x0, EV j a1_fid [(V.str x0)] = (a1 j x0).map fun b => ((V.bool b), [])) : EV k 78 [(V.sl 0 1 (List.map V.str a0)), (V.fn a1_fid [] [])] = (slices_IndexFunc_string_v10 k a0 a1).map slices_IndexFunc_string_v10_fin := by
  cases k with
  | zero => rfl
  | succ k =>
    unfold slices_IndexFunc_string_v10
    refine Eq.trans (evF_succ (c := f78v10c) (N := 19) (regs := f78v10n) rfl Go.Proofs.Try.func78 rfl (by decide) rfl rfl rfl) ?_
    refine Eq.trans (k_region0 rfl (f78v10r0 k a0 a1 a1_fid a1_hok)) ?_
    refine Eq.trans k_assoc ?_
    refine Eq.trans (k_region0 rfl (f78v10r1 k a0 a1 a1_fid a1_hok)) ?_
    refine Eq.trans (k_block rfl) ?_
    refine Eq.trans k_loop ?_
    refine slices_IndexFunc_string_v10_L1_ok k a0 a1 a1_fid a1_hok _ _ ?h_slices_IndexFunc_string_v10_L1_0 ?hr_slices_IndexFunc_string_v10_L1 k 0
    · intro y8
      refine Eq.trans blk_exit ?_
      refine Eq.trans (k_region0 rfl (f78v10r7 k a0 y8 a1 a1_fid a1_hok)) ?_
      refine Eq.trans k_lret ?_
      rfl
    · intro s; exact rfl
def slices_ContainsFunc_string_v10_fin : Bool → V × List V := fun r => ((V.bool r), [])
theorem f65v10r0 (k : Nat) (a0 : (List Str)) (a1 : Nat → Str → Option Bool) (a1_fid : Go.FuncId)  (a1_hok : ∀ j x0, EV j a1_fid [(V.str x0)] = (a1 j x0).map fun b => ((V.bool b), [])) : RE k f65v10a0 f65v10o0 false ⟨[(0, (V.sl 0 1 (List.map V.str a0))), (1, (V.fn a1_fid [] []))], [], 9⟩ = some ⟨[(0, (V.sl 0 1 (List.map V.str a0))), (1, (V.fn a1_fid [] []))], [], 9⟩ :=
  rE rfl
theorem f65v10r1 (k : Nat) (a0 : (List Str)) (a1 : Nat → Str → Option Bool) (a1_fid : Go.FuncId)  (a1_hok : ∀ j x0, EV j a1_fid [(V.str x0)] = (a1 j x0).map fun b => ((V.bool b), [])) : RE k f65v10a1 f65v10o1 false ⟨[(0, (V.sl 0 1 (List.map V.str a0))), (1, (V.fn a1_fid [] []))], [], 9⟩ = (((slices_IndexFunc_string_v10 k a0 a1).bind fun v1 => (some ((decide (v1 ≥ 0)))))).map (fun (o : Bool) => (⟨[(4, (V.bool o))], [], 9⟩ : St)) := by
  refine rg ?_
  refine ra 2 2 ⟨[(0, (V.sl 0 1 (List.map V.str a0))), (1, (V.fn a1_fid [] [])), (5, (V.sl 0 1 (List.map V.str a0))), (6, (V.fn a1_fid [] []))], [], 9⟩ rfl rfl rfl ?_
  refine Eq.trans (reg_pure (x := (slices_IndexFunc_string_v10 k a0 a1)) (w := fun v1 => (I v1)) rfl rfl rfl rfl (p_call rfl rfl rfl rfl rfl (slices_IndexFunc_string_v10_ok k a0 a1 a1_fid a1_hok) (.inl rfl))) ?_
  refine bindE (fun v1 => ?_)
  exact bind_end rfl
theorem slices_ContainsFunc_string_v10_ok (k : Nat) (a0 : (List Str)) (a1 : Nat → Str → Option Bool) (a1_fid : Go.FuncId)  (a1_hok : ∀ j x0, EV j a1_fid [(V.str x0)] = (a1 j x0).map fun b => ((V.bool b), [])) : EV k 65 [(V.sl 0 1 (List.map V.str a0)), (V.fn a1_fid [] [])] = (slices_ContainsFunc_string_v10 k a0 a1).map slices_ContainsFunc_string_v10_fin := by
  cases k with
  | zero => rfl
  | succ k =>
    unfold slices_ContainsFunc_string_v10
    refine Eq.trans (evF_succ (c := f65v10c) (N := 9) (regs := f65v10n) rfl Go.Proofs.Try.func65 rfl (by decide) rfl rfl rfl) ?_
    refine Eq.trans (k_region0 rfl (f65v10r0 k a0 a1 a1_fid a1_hok)) ?_
    refine Eq.trans (k_region rfl (f65v10r1 k a0 a1 a1_fid a1_hok)) ?_
    refine bindE (fun o2 => ?_)
    refine Eq.trans k_lret ?_
    rfl
def screen_shows_1_fin : Bool → V × List V := fun r => ((V.bool r), [])
theorem f66r0 (k : Nat) (a0 : Str) : RE k f66a0 f66o0 false ⟨[(0, (V.str a0))], [], 11⟩ = some ⟨[(0, (V.str a0))], [], 11⟩ :=
  rE rfl
theorem f66r1 (k : Nat) (a0 : Str) : RE k f66a1 f66o1 false ⟨[(0, (V.str a0))], [], 11⟩ = ((bif (decide ((a0.length : Int) > 200)) then (some (true)) else ((screen_isText k a0).bind fun v1 => (some ((!v1)))))).map (fun (o : Bool) => (⟨[(2, (V.bool o))], [], 11⟩ : St)) := by
  refine rg ?_
  refine ra 4 4 ⟨[(0, (V.str a0)), (3, (V.str a0)), (4, (I (a0.length : Int))), (5, (V.bool (decide ((a0.length : Int) > 200)))), (6, (V.bool (decide ((a0.length : Int) > 200))))], [], 11⟩ rfl rfl rfl ?_
  refine bifE (c := (decide ((a0.length : Int) > 200))) (fun hc => ?_) fun hc => ?_
  · rw [hc]
    exact reg_end rfl
  · rw [hc]
    refine ra 1 5 ⟨[(0, (V.str a0)), (3, (V.str a0)), (4, (I (a0.length : Int))), (5, (V.bool false)), (6, (V.bool false)), (7, (V.str a0))], [], 11⟩ rfl rfl rfl ?_
    refine Eq.trans (reg_pure (x := (screen_isText k a0)) (w := fun v1 => (V.bool v1)) rfl rfl rfl rfl (p_call rfl rfl rfl rfl rfl (screen_isText_ok k a0) (.inl rfl))) ?_
    refine bindE (fun v1 => ?_)
    exact bind_end rfl
theorem screen_shows_1_ok (k : Nat) (a0 : Str) : EV k 66 [(V.str a0)] = (screen_shows_1 k a0).map screen_shows_1_fin := by
  cases k with
  | zero => rfl
  | succ k =>
    unfold screen_shows_1
    refine Eq.trans (evF_succ (c := f66c) (N := 11) (regs := f66n) rfl Go.Proofs.Try.func66 rfl (by decide) rfl rfl rfl) ?_
    refine Eq.trans (k_region0 rfl (f66r0 k a0)) ?_
    refine Eq.trans (k_region rfl (f66r1 k a0)) ?_
    refine bindE (fun o2 => ?_)
    refine Eq.trans k_lret ?_
    rfl
def screen_shows_fin : Int → V × List V := fun r => ((I r), [])
theorem f34r0 (k : Nat) (a0 : T_api_Form) (a1 : (List Str)) : RE k f34a0 f34o0 false ⟨[(0, (enc_T_api_Form a0)), (1, (V.sl 0 1 (List.map V.str a1)))], [], 23⟩ = some ⟨[(1, (V.sl 0 1 (List.map V.str a1))), (2, (V.ptr 2 0 0))], [(2, ⟨false, 4, [(enc_T_api_Form a0)]⟩)], 23⟩ :=
  rE rfl
theorem f34r1 (k : Nat) (a0 : T_api_Form) (a1 : (List Str)) : RE k f34a1 f34o1 false ⟨[(1, (V.sl 0 1 (List.map V.str a1))), (2, (V.ptr 2 0 0))], [(2, ⟨false, 4, [(enc_T_api_Form a0)]⟩)], 23⟩ = (((screen_Valid k a0).bind fun v1 => (some ((!v1))))).map (fun (o : Bool) => (⟨[(1, (V.sl 0 1 (List.map V.str a1))), (2, (V.ptr 2 0 0)), (9, (V.bool o))], [(2, ⟨false, 4, [(enc_T_api_Form a0)]⟩)], 23⟩ : St)) := by
  refine rg ?_
  refine ra 1 1 ⟨[(1, (V.sl 0 1 (List.map V.str a1))), (2, (V.ptr 2 0 0)), (7, (enc_T_api_Form a0))], [(2, ⟨false, 4, [(enc_T_api_Form a0)]⟩)], 23⟩ rfl rfl rfl ?_
  refine Eq.trans (reg_pure (x := (screen_Valid k a0)) (w := fun v1 => (V.bool v1)) rfl rfl rfl rfl (p_call rfl rfl rfl rfl rfl (screen_Valid_ok k a0) (.inl rfl))) ?_
  refine bindE (fun v1 => ?_)
  exact bind_end rfl
theorem f34r2 (k : Nat) (a0 : T_api_Form) (a1 : (List Str)) : RE k f34a2 f34o2 false ⟨[(1, (V.sl 0 1 (List.map V.str a1))), (2, (V.ptr 2 0 0)), (9, (V.bool true))], [(2, ⟨false, 4, [(enc_T_api_Form a0)]⟩)], 23⟩ = some ⟨[(4, (I 220))], [], 23⟩ :=
  rE rfl
theorem f34r3 (k : Nat) (a0 : T_api_Form) (a1 : (List Str)) : RE k f34a3 f34o3 false ⟨[(1, (V.sl 0 1 (List.map V.str a1))), (2, (V.ptr 2 0 0)), (9, (V.bool false))], [(2, ⟨false, 4, [(enc_T_api_Form a0)]⟩)], 23⟩ = (((screen_lengths k a0).bind fun v3 => (some (v3.2)))).map (fun (o : Int) => (⟨[(1, (V.sl 0 1 (List.map V.str a1))), (6, (I o))], [], 23⟩ : St)) := by
  refine rg ?_
  refine ra 1 1 ⟨[(1, (V.sl 0 1 (List.map V.str a1))), (2, (V.ptr 2 0 0)), (9, (V.bool false)), (11, (enc_T_api_Form a0))], [(2, ⟨false, 4, [(enc_T_api_Form a0)]⟩)], 23⟩ rfl rfl rfl ?_
  refine Eq.trans (reg_pure (x := (screen_lengths k a0)) (w := fun v3 => (V.tup [(I v3.1), (I v3.2)])) rfl rfl rfl rfl (p_call rfl rfl rfl rfl rfl (screen_lengths_ok k a0) (.inl rfl))) ?_
  refine bindE (fun v3 => ?_)
  exact bind_end rfl
theorem f34r4 (k : Nat) (a1 : (List Str)) (o4 : Int) : RE k f34a4 f34o4 false ⟨[(1, (V.sl 0 1 (List.map V.str a1))), (6, (I o4))], [], 23⟩ = ((bif ((a1.length : Int) != o4) then (some (true)) else (slices_ContainsFunc_string_v10 k a1 (fun j x0 => (screen_shows_1 j x0))))).map (fun (o : Bool) => (⟨[(22, (V.bool o))], [], 23⟩ : St)) := by
  refine rg ?_
  refine ra 1 1 ⟨[(1, (V.sl 0 1 (List.map V.str a1))), (6, (I o4)), (15, (V.sl 0 1 (List.map V.str a1)))], [], 23⟩ rfl rfl rfl ?_
  refine Eq.trans (reg_pure (x := some ()) (w := fun _ => (I (a1.length : Int))) rfl rfl rfl rfl (p_len (e := V.str) rfl rfl rfl rfl rfl rfl Go.Proofs.Try.underlying26)) ?_
  refine Eq.trans some_bind ?_
  refine ba 3 5 ⟨[(1, (V.sl 0 1 (List.map V.str a1))), (6, (I o4)), (15, (V.sl 0 1 (List.map V.str a1))), (16, (I (a1.length : Int))), (17, (I o4)), (18, (V.bool ((a1.length : Int) != o4))), (19, (V.bool ((a1.length : Int) != o4)))], [], 23⟩ rfl rfl rfl ?_
  refine bifE (c := ((a1.length : Int) != o4)) (fun hc => ?_) fun hc => ?_
  · rw [hc]
    exact reg_end rfl
  · rw [hc]
    refine ra 1 6 ⟨[(1, (V.sl 0 1 (List.map V.str a1))), (6, (I o4)), (15, (V.sl 0 1 (List.map V.str a1))), (16, (I (a1.length : Int))), (17, (I o4)), (18, (V.bool false)), (19, (V.bool false)), (20, (V.sl 0 1 (List.map V.str a1)))], [], 23⟩ rfl rfl rfl ?_
    refine Eq.trans (reg_pure (x := (slices_ContainsFunc_string_v10 k a1 (fun j x0 => (screen_shows_1 j x0)))) (w := fun v5 => (V.bool v5)) rfl rfl rfl rfl (p_call rfl rfl rfl rfl rfl (slices_ContainsFunc_string_v10_ok k a1 (fun j x0 => (screen_shows_1 j x0)) 66 (fun j x0 => (screen_shows_1_ok j x0))) (.inl rfl))) ?_
    refine bind_self (fun v5 => ?_)
    exact bind_end rfl
theorem f34r5 (k : Nat)  : RE k f34a5 f34o5 false ⟨[(22, (V.bool true))], [], 23⟩ = some ⟨[(4, (I 2))], [], 23⟩ :=
  rE rfl
theorem f34r6 (k : Nat)  : RE k f34a6 f34o6 false ⟨[(22, (V.bool false))], [], 23⟩ = some ⟨[(4, (I 0))], [], 23⟩ :=
  rE rfl
theorem screen_shows_ok (k : Nat) (a0 : T_api_Form) (a1 : (List Str)) : EV k 34 [(enc_T_api_Form a0), (V.sl 0 1 (List.map V.str a1))] = (screen_shows k a0 a1).map screen_shows_fin := by
  cases k with
  | zero => rfl
  | succ k =>
    unfold screen_shows
    refine Eq.trans (evF_succ (c := f34c) (N := 23) (regs := f34n) rfl Go.Proofs.Try.func34 rfl (by decide) rfl rfl rfl) ?_
    refine Eq.trans (k_region0 rfl (f34r0 k a0 a1)) ?_
    refine Eq.trans k_assoc ?_
    refine Eq.trans (k_region rfl (f34r1 k a0 a1)) ?_
    refine bindE (fun o2 => ?_)
    refine Eq.trans (k_cond (t := o2) rfl rfl) ?_
    refine bifE2 (fun hc => ?_) fun hc => ?_
    · rw [hc]
      refine Eq.trans k_assoc ?_
      refine Eq.trans (k_region0 rfl (f34r2 k a0 a1)) ?_
      refine Eq.trans k_ret ?_
      rfl
    · rw [hc]
      refine Eq.trans k_skip ?_
      refine Eq.trans k_assoc ?_
      refine Eq.trans (k_region rfl (f34r3 k a0 a1)) ?_
      refine bindE (fun o4 => ?_)
      refine Eq.trans k_assoc ?_
      refine Eq.trans (k_region rfl (f34r4 k a1 o4)) ?_
      refine bindE (fun o6 => ?_)
      refine Eq.trans (k_cond (t := o6) rfl rfl) ?_
      refine bifE2 (fun hc => ?_) fun hc => ?_
      · rw [hc]
        refine Eq.trans k_assoc ?_
        refine Eq.trans (k_region0 rfl (f34r5 k)) ?_
        refine Eq.trans k_ret ?_
        rfl
      · rw [hc]
        refine Eq.trans k_skip ?_
        refine Eq.trans (k_region0 rfl (f34r6 k)) ?_
        refine Eq.trans k_lret ?_
        rfl
def strings_Repeat_fin : Str → V × List V := fun r => ((V.str r), [])
theorem strings_Repeat_ok (k : Nat) (s : Str) (n : Int) : EV k 68 [(V.str s), (I n)] = (strings_Repeat k s n).map strings_Repeat_fin := by
  cases k with
  | zero => rfl
  | succ k => exact (evF_ext (ext := ext) (f := 68) rfl).trans rfl
def slices_Repeat_string_fin : (List Str) → V × List V := fun r => ((V.sl 0 1 (List.map V.str r)), [])
theorem slices_Repeat_string_ok (k : Nat) (s : (List Str)) (n : Int) : EV k 67 [(V.sl 0 1 (List.map V.str s)), (I n)] = (slices_Repeat_string k s n).map slices_Repeat_string_fin := by
  cases k with
  | zero => rfl
  | succ k => exact (evF_ext (ext := ext) (f := 67) rfl).trans (extSlRep_map s n)
def slices_Clone_string_c_fin : (List Str) → V × List V := fun r => ((V.sl 2 1 (List.map V.str r)), [])
def slices_Clone_string_fin : List Str → V × List V := fun r => ((V.sl 2 1 (List.map V.str r)), [])
theorem f64r0 (k : Nat) (y : Str) (l : (List Str)) : RE k f64a0 f64o0 false ⟨[(0, (V.sl 0 1 (List.map V.str (y :: l))))], [], 8⟩ = some ⟨[(0, (V.sl 0 1 (List.map V.str (y :: l))))], [], 8⟩ :=
  rE rfl
theorem f64r1 (k : Nat) (y : Str) (l : (List Str)) : RE k f64a1 f64o1 false ⟨[(0, (V.sl 0 1 (List.map V.str (y :: l))))], [], 8⟩ = some ⟨[(0, (V.sl 0 1 (List.map V.str (y :: l)))), (4, (V.bool false))], [], 8⟩ :=
  rE rfl
theorem f64r3 (k : Nat) (y : Str) (l : (List Str)) : RE k f64a3 f64o3 false ⟨[(0, (V.sl 0 1 (List.map V.str (y :: l)))), (4, (V.bool false))], [], 8⟩ = ((app ([] : List Str) (y :: l))).map (fun (o : (List Str)) => (⟨[(2, (V.aref 5 0 (List.map V.str o).length)), (5, V.undef)], [(5, ⟨true, 1, List.map V.str o⟩)], 8⟩ : St)) := by
  refine rg ?_
  refine ra 2 2 ⟨[(0, (V.sl 0 1 (List.map V.str (y :: l)))), (4, (V.bool false)), (5, (V.aref 5 0 (List.map V.str ([] : List Str)).length)), (6, (V.sl 0 1 (List.map V.str (y :: l))))], [(5, ⟨true, 1, List.map V.str ([] : List Str)⟩)], 8⟩ rfl rfl rfl ?_
  refine Eq.trans (reg_eff (x := (app ([] : List Str) (y :: l))) (w := fun v1 => ((V.aref 5 0 (List.map V.str v1).length), _)) rfl rfl rfl rfl (p_appF (e := V.str) (l := ([] : List Str)) rfl rfl rfl rfl rfl rfl rfl rfl rfl rfl rfl (of_decide_eq_true rfl))) ?_
  refine bind_self (fun v1 => ?_)
  exact bind_end rfl
theorem slices_Clone_string_c_ok (k : Nat) (y : Str) (l : (List Str)) : EV k 64 [(V.sl 0 1 (List.map V.str (y :: l)))] = (slices_Clone_string_c k y l).map slices_Clone_string_c_fin := by
  cases k with
  | zero => rfl
  | succ k =>
    unfold slices_Clone_string_c
    refine Eq.trans (evF_succ (c := f64c) (N := 8) (regs := f64n) rfl Go.Proofs.Try.func64 rfl (by decide) rfl rfl rfl) ?_
    refine Eq.trans (k_region0 rfl (f64r0 k y l)) ?_
    refine Eq.trans k_assoc ?_
    refine Eq.trans (k_region0 rfl (f64r1 k y l)) ?_
    refine Eq.trans (k_cond (t := false) rfl rfl) ?_
    refine Eq.trans k_skip ?_
    refine Eq.trans (k_region rfl (f64r3 k y l)) ?_
    refine bindE (fun o2 => ?_)
    refine Eq.trans k_lret ?_
    exact endR (e := V.str) (l := o2) (.inr rfl) rfl rfl rfl rfl
theorem slices_Clone_string_ok (k : Nat) (l : List Str) : EV k 64 [(V.sl 0 1 (List.map V.str l))] = (slices_Clone_string k l).map slices_Clone_string_fin := by
  cases k with
  | zero => rfl
  | succ k => cases l with
    | nil => exact evF_ext (ext := ext) (f := 64) rfl
    | cons y l => exact slices_Clone_string_c_ok (k + 1) y l
def screen_laid_fin : (List Str) → V × List V := fun r => ((V.sl 0 1 (List.map V.str r)), [])
theorem f43r0 (k : Nat) (a0 : (List Str)) (a1 : Int) (a2 : Int) (a3 : Str) : RE k f43a0 f43o0 false ⟨[(0, (V.sl 0 1 (List.map V.str a0))), (1, (I a1)), (2, (I a2)), (3, (V.str a3))], [], 34⟩ = some ⟨[(0, (V.sl 0 1 (List.map V.str a0))), (1, (I a1)), (2, (I a2)), (3, (V.str a3))], [], 34⟩ :=
  rE rfl
theorem f43r1 (k : Nat) (a0 : (List Str)) (a1 : Int) (a2 : Int) (a3 : Str) : RE k f43a1 f43o1 false ⟨[(0, (V.sl 0 1 (List.map V.str a0))), (1, (I a1)), (2, (I a2)), (3, (V.str a3))], [], 34⟩ = ((slices_Clone_string k a0)).map (fun (o : (List Str)) => (⟨[(1, (I a1)), (2, (I a2)), (3, (V.str a3)), (9, (V.aref 11 0 (List.map V.str o).length)), (11, (V.aref 11 0 (List.map V.str o).length))], [(11, ⟨true, 1, List.map V.str o⟩)], 34⟩ : St)) := by
  refine rg ?_
  refine ra 1 1 ⟨[(0, (V.sl 0 1 (List.map V.str a0))), (1, (I a1)), (2, (I a2)), (3, (V.str a3)), (10, (V.sl 0 1 (List.map V.str a0)))], [], 34⟩ rfl rfl rfl ?_
  refine Eq.trans (reg_eff (x := (slices_Clone_string k a0)) (w := fun v1 => ((V.sl 2 1 (List.map V.str v1)), _)) rfl rfl rfl rfl (p_callS rfl rfl rfl rfl rfl rfl (slices_Clone_string_ok k a0))) ?_
  refine bind_self (fun v1 => ?_)
  exact bind_end rfl
theorem f43r2 (k : Nat) (a1 : Int) (a2 : Int) (a3 : Str) (o2 : (List Str)) : RE k f43a2 f43o2 true ⟨[(1, (I a1)), (2, (I a2)), (3, (V.str a3)), (9, (V.aref 11 0 (List.map V.str o2).length)), (11, (V.aref 11 0 (List.map V.str o2).length))], [(11, ⟨true, 1, List.map V.str o2⟩)], 34⟩ = (((inB o2.length a1).bind fun v3 => ((o2[0 + a1.toNat]?).bind fun v4 => ((cut v4 0 a2).bind fun v5 => ((cat v5 a3).bind fun v6 => ((inB o2.length a1).bind fun v7 => ((o2[0 + a1.toNat]?).bind fun v8 => ((cut v8 (Go.IntKind.wrap .i64 (a2 + (a3.length : Int))) (v8.length : Int)).bind fun v9 => ((cat v6 v9).bind fun v10 => ((inB o2.length a1).bind fun v11 => ((o2[0 + a1.toNat]?).bind fun v12 => (some ((o2.set (0 + a1.toNat) v10)))))))))))))).map (fun (o : (List Str)) => (⟨[(9, (V.aref 11 0 (List.map V.str o).length)), (11, (V.aref 11 0 (List.map V.str o).length))], [(11, ⟨true, 1, List.map V.str o⟩)], 34⟩ : St)) := by
  refine Eq.trans (regionE_regp (p := 21) (dk := true) (t := [(1, (I a1)), (2, (I a2)), (3, (V.str a3)), (9, (V.aref 11 0 (List.map V.str o2).length)), (11, (V.aref 11 0 (List.map V.str o2).length))]) (σ := [(11, ⟨true, 1, List.map V.str o2⟩)]) (n := 34) (by decide) (by decide) rfl) ?_
  refine Eq.trans (regp_adv (m := 4) (j := 4) (t' := [(1, (I a1)), (2, (I a2)), (3, (V.str a3)), (9, (V.aref 11 0 (List.map V.str o2).length)), (11, (V.aref 11 0 (List.map V.str o2).length)), (12, (V.aref 11 0 (List.map V.str o2).length)), (13, (I a1)), (14, (V.aref 11 0 (List.map V.str o2).length)), (15, (I a1))]) rfl rfl rfl) ?_
  refine Eq.trans (regp_pure (x := (inB o2.length a1)) (w := fun v3 => (V.ptr 11 (0 + a1.toNat) 0)) rfl rfl rfl rfl rfl (p_indexF (e := V.str) rfl rfl rfl Go.Proofs.Try.underlying26 rfl rfl (by decide))) ?_
  refine bindE (fun v3 => ?_)
  refine Eq.trans (putp_adv (m := 0) (j := 5) (t' := [(1, (I a1)), (2, (I a2)), (3, (V.str a3)), (9, (V.aref 11 0 (List.map V.str o2).length)), (11, (V.aref 11 0 (List.map V.str o2).length)), (12, (V.aref 11 0 (List.map V.str o2).length)), (13, (I a1)), (14, (V.aref 11 0 (List.map V.str o2).length)), (15, (I a1)), (16, (V.ptr 11 (0 + a1.toNat) 0))]) rfl rfl rfl) ?_
  refine Eq.trans (regp_pure (x := (o2[0 + a1.toNat]?)) (w := fun v4 => (V.str v4)) rfl rfl rfl rfl rfl (p_loadA (e := V.str) rfl rfl rfl (fun _ => rfl) (fun _ => rfl))) ?_
  refine bindE (fun v4 => ?_)
  refine Eq.trans (putp_adv (m := 1) (j := 7) (t' := [(1, (I a1)), (2, (I a2)), (3, (V.str a3)), (9, (V.aref 11 0 (List.map V.str o2).length)), (11, (V.aref 11 0 (List.map V.str o2).length)), (12, (V.aref 11 0 (List.map V.str o2).length)), (13, (I a1)), (14, (V.aref 11 0 (List.map V.str o2).length)), (15, (I a1)), (16, (V.ptr 11 (0 + a1.toNat) 0)), (17, (V.str v4)), (18, (I a2))]) rfl rfl rfl) ?_
  refine Eq.trans (regp_pure (x := (cut v4 0 a2)) (w := fun v5 => (V.str v5)) rfl rfl rfl rfl rfl (p_sliceS rfl rfl rfl rfl rfl rfl Go.Proofs.Try.underlying9)) ?_
  refine bindE (fun v5 => ?_)
  refine Eq.trans (putp_adv (m := 1) (j := 9) (t' := [(1, (I a1)), (2, (I a2)), (3, (V.str a3)), (9, (V.aref 11 0 (List.map V.str o2).length)), (11, (V.aref 11 0 (List.map V.str o2).length)), (12, (V.aref 11 0 (List.map V.str o2).length)), (13, (I a1)), (14, (V.aref 11 0 (List.map V.str o2).length)), (15, (I a1)), (16, (V.ptr 11 (0 + a1.toNat) 0)), (17, (V.str v4)), (18, (I a2)), (19, (V.str v5)), (20, (V.str a3))]) rfl rfl rfl) ?_
  refine Eq.trans (regp_pure (x := (cat v5 a3)) (w := fun v6 => (V.str v6)) rfl rfl rfl rfl rfl (p_cat rfl rfl rfl)) ?_
  refine bindE (fun v6 => ?_)
  refine Eq.trans (putp_adv (m := 2) (j := 12) (t' := [(1, (I a1)), (2, (I a2)), (3, (V.str a3)), (9, (V.aref 11 0 (List.map V.str o2).length)), (11, (V.aref 11 0 (List.map V.str o2).length)), (12, (V.aref 11 0 (List.map V.str o2).length)), (13, (I a1)), (14, (V.aref 11 0 (List.map V.str o2).length)), (15, (I a1)), (16, (V.ptr 11 (0 + a1.toNat) 0)), (17, (V.str v4)), (18, (I a2)), (19, (V.str v5)), (20, (V.str a3)), (21, (V.str v6)), (22, (V.aref 11 0 (List.map V.str o2).length)), (23, (I a1))]) rfl rfl rfl) ?_
  refine Eq.trans (regp_pure (x := (inB o2.length a1)) (w := fun v7 => (V.ptr 11 (0 + a1.toNat) 0)) rfl rfl rfl rfl rfl (p_indexF (e := V.str) rfl rfl rfl Go.Proofs.Try.underlying26 rfl rfl (by decide))) ?_
  refine bindE (fun v7 => ?_)
  refine Eq.trans (putp_adv (m := 0) (j := 13) (t' := [(1, (I a1)), (2, (I a2)), (3, (V.str a3)), (9, (V.aref 11 0 (List.map V.str o2).length)), (11, (V.aref 11 0 (List.map V.str o2).length)), (12, (V.aref 11 0 (List.map V.str o2).length)), (13, (I a1)), (14, (V.aref 11 0 (List.map V.str o2).length)), (15, (I a1)), (16, (V.ptr 11 (0 + a1.toNat) 0)), (17, (V.str v4)), (18, (I a2)), (19, (V.str v5)), (20, (V.str a3)), (21, (V.str v6)), (22, (V.aref 11 0 (List.map V.str o2).length)), (23, (I a1)), (24, (V.ptr 11 (0 + a1.toNat) 0))]) rfl rfl rfl) ?_
  refine Eq.trans (regp_pure (x := (o2[0 + a1.toNat]?)) (w := fun v8 => (V.str v8)) rfl rfl rfl rfl rfl (p_loadA (e := V.str) rfl rfl rfl (fun _ => rfl) (fun _ => rfl))) ?_
  refine bindE (fun v8 => ?_)
  refine Eq.trans (putp_adv (m := 4) (j := 18) (t' := [(1, (I a1)), (2, (I a2)), (3, (V.str a3)), (9, (V.aref 11 0 (List.map V.str o2).length)), (11, (V.aref 11 0 (List.map V.str o2).length)), (12, (V.aref 11 0 (List.map V.str o2).length)), (13, (I a1)), (14, (V.aref 11 0 (List.map V.str o2).length)), (15, (I a1)), (16, (V.ptr 11 (0 + a1.toNat) 0)), (17, (V.str v4)), (18, (I a2)), (19, (V.str v5)), (20, (V.str a3)), (21, (V.str v6)), (22, (V.aref 11 0 (List.map V.str o2).length)), (23, (I a1)), (24, (V.ptr 11 (0 + a1.toNat) 0)), (25, (V.str v8)), (26, (I a2)), (27, (V.str a3)), (28, (I (a3.length : Int))), (29, (I (Go.IntKind.wrap .i64 (a2 + (a3.length : Int)))))]) rfl rfl rfl) ?_
  refine Eq.trans (regp_pure (x := (cut v8 (Go.IntKind.wrap .i64 (a2 + (a3.length : Int))) (v8.length : Int))) (w := fun v9 => (V.str v9)) rfl rfl rfl rfl rfl (p_sliceS rfl rfl rfl rfl rfl rfl Go.Proofs.Try.underlying9)) ?_
  refine bindE (fun v9 => ?_)
  refine Eq.trans (putp_adv (m := 0) (j := 19) (t' := [(1, (I a1)), (2, (I a2)), (3, (V.str a3)), (9, (V.aref 11 0 (List.map V.str o2).length)), (11, (V.aref 11 0 (List.map V.str o2).length)), (12, (V.aref 11 0 (List.map V.str o2).length)), (13, (I a1)), (14, (V.aref 11 0 (List.map V.str o2).length)), (15, (I a1)), (16, (V.ptr 11 (0 + a1.toNat) 0)), (17, (V.str v4)), (18, (I a2)), (19, (V.str v5)), (20, (V.str a3)), (21, (V.str v6)), (22, (V.aref 11 0 (List.map V.str o2).length)), (23, (I a1)), (24, (V.ptr 11 (0 + a1.toNat) 0)), (25, (V.str v8)), (26, (I a2)), (27, (V.str a3)), (28, (I (a3.length : Int))), (29, (I (Go.IntKind.wrap .i64 (a2 + (a3.length : Int))))), (30, (V.str v9))]) rfl rfl rfl) ?_
  refine Eq.trans (regp_pure (x := (cat v6 v9)) (w := fun v10 => (V.str v10)) rfl rfl rfl rfl rfl (p_cat rfl rfl rfl)) ?_
  refine bindE (fun v10 => ?_)
  refine Eq.trans (putp_adv (m := 0) (j := 20) (t' := [(1, (I a1)), (2, (I a2)), (3, (V.str a3)), (9, (V.aref 11 0 (List.map V.str o2).length)), (11, (V.aref 11 0 (List.map V.str o2).length)), (12, (V.aref 11 0 (List.map V.str o2).length)), (13, (I a1)), (14, (V.aref 11 0 (List.map V.str o2).length)), (15, (I a1)), (16, (V.ptr 11 (0 + a1.toNat) 0)), (17, (V.str v4)), (18, (I a2)), (19, (V.str v5)), (20, (V.str a3)), (21, (V.str v6)), (22, (V.aref 11 0 (List.map V.str o2).length)), (23, (I a1)), (24, (V.ptr 11 (0 + a1.toNat) 0)), (25, (V.str v8)), (26, (I a2)), (27, (V.str a3)), (28, (I (a3.length : Int))), (29, (I (Go.IntKind.wrap .i64 (a2 + (a3.length : Int))))), (30, (V.str v9)), (31, (V.str v10))]) rfl rfl rfl) ?_
  refine Eq.trans (regp_pure (x := (inB o2.length a1)) (w := fun v11 => (V.ptr 11 (0 + a1.toNat) 0)) rfl rfl rfl rfl rfl (p_indexF (e := V.str) rfl rfl rfl Go.Proofs.Try.underlying26 rfl rfl (by decide))) ?_
  refine bindE (fun v11 => ?_)
  refine Eq.trans (regp_reg (m := 0) (j := 21) (st' := ⟨[(1, (I a1)), (2, (I a2)), (3, (V.str a3)), (9, (V.aref 11 0 (List.map V.str o2).length)), (11, (V.aref 11 0 (List.map V.str o2).length)), (12, (V.aref 11 0 (List.map V.str o2).length)), (13, (I a1)), (14, (V.aref 11 0 (List.map V.str o2).length)), (15, (I a1)), (16, (V.ptr 11 (0 + a1.toNat) 0)), (17, (V.str v4)), (18, (I a2)), (19, (V.str v5)), (20, (V.str a3)), (21, (V.str v6)), (22, (V.aref 11 0 (List.map V.str o2).length)), (23, (I a1)), (24, (V.ptr 11 (0 + a1.toNat) 0)), (25, (V.str v8)), (26, (I a2)), (27, (V.str a3)), (28, (I (a3.length : Int))), (29, (I (Go.IntKind.wrap .i64 (a2 + (a3.length : Int))))), (30, (V.str v9)), (31, (V.str v10)), (32, (V.ptr 11 (0 + a1.toNat) 0))], [(11, ⟨true, 1, List.map V.str o2⟩)], 34⟩) rfl rfl rfl) ?_
  refine Eq.trans (reg_eff (x := (o2[0 + a1.toNat]?)) (w := fun _ => (V.tup [], _)) rfl rfl rfl rfl (p_storeL (S := (fun n_ => ⟨[(1, (I a1)), (2, (I a2)), (3, (V.str a3)), (9, (V.aref 11 0 n_)), (11, (V.aref 11 0 n_)), (12, (V.aref 11 0 n_)), (13, (I a1)), (14, (V.aref 11 0 n_)), (15, (I a1)), (16, (V.ptr 11 (0 + a1.toNat) 0)), (17, (V.str v4)), (18, (I a2)), (19, (V.str v5)), (20, (V.str a3)), (21, (V.str v6)), (22, (V.aref 11 0 n_)), (23, (I a1)), (24, (V.ptr 11 (0 + a1.toNat) 0)), (25, (V.str v8)), (26, (I a2)), (27, (V.str a3)), (28, (I (a3.length : Int))), (29, (I (Go.IntKind.wrap .i64 (a2 + (a3.length : Int))))), (30, (V.str v9)), (31, (V.str v10)), (32, (V.ptr 11 (0 + a1.toNat) 0))], [(11, ⟨true, 1, List.map V.str o2⟩)], 34⟩)) (e := V.str) (l := o2) (v := v10) rfl rfl rfl rfl rfl rfl rfl rfl rfl rfl (fun _ => rfl))) ?_
  refine bindE (fun v12 => ?_)
  exact bind_end rfl
theorem f43r3 (k : Nat) (o13 : (List Str)) : RE k f43a3 f43o3 false ⟨[(9, (V.aref 11 0 (List.map V.str o13).length)), (11, (V.aref 11 0 (List.map V.str o13).length))], [(11, ⟨true, 1, List.map V.str o13⟩)], 34⟩ = some ⟨[(8, (V.sl 0 1 (List.map V.str o13)))], [], 34⟩ := by
  refine rg ?_
  refine ra 1 1 ⟨[(9, (V.aref 11 0 (List.map V.str o13).length)), (11, (V.aref 11 0 (List.map V.str o13).length)), (33, (V.aref 11 0 (List.map V.str o13).length))], [(11, ⟨true, 1, List.map V.str o13⟩)], 34⟩ rfl rfl rfl ?_
  refine Eq.trans (reg_eff (x := some ()) (w := fun _ => ((V.sl 2 1 (List.map V.str o13)), _)) rfl rfl rfl rfl (p_close (e := V.str) rfl rfl rfl rfl rfl (of_decide_eq_true rfl))) ?_
  refine Eq.trans some_bind ?_
  exact bind_end rfl
theorem screen_laid_ok (k : Nat) (a0 : (List Str)) (a1 : Int) (a2 : Int) (a3 : Str) : EV k 43 [(V.sl 0 1 (List.map V.str a0)), (I a1), (I a2), (V.str a3)] = (screen_laid k a0 a1 a2 a3).map screen_laid_fin := by
  cases k with
  | zero => rfl
  | succ k =>
    unfold screen_laid
    refine Eq.trans (evF_succ (c := f43c) (N := 34) (regs := f43n) rfl Go.Proofs.Try.func43 rfl (by decide) rfl rfl rfl) ?_
    refine Eq.trans (k_region0 rfl (f43r0 k a0 a1 a2 a3)) ?_
    refine Eq.trans (k_region rfl (f43r1 k a0 a1 a2 a3)) ?_
    refine bindE (fun o2 => ?_)
    refine Eq.trans (k_region rfl (f43r2 k a1 a2 a3 o2)) ?_
    refine bindE (fun o13 => ?_)
    refine Eq.trans (k_region0 rfl (f43r3 k o13)) ?_
    refine Eq.trans k_lret ?_
    rfl
def screen_filled_fin : Str → V × List V := fun r => ((V.str r), [])
theorem f49r0 (k : Nat) (a0 : T_api_Slot) (a1 : Str) : RE k f49a0 f49o0 false ⟨[(0, (enc_T_api_Slot a0)), (1, (V.str a1))], [], 26⟩ = some ⟨[(1, (V.str a1)), (2, (V.ptr 2 0 0))], [(2, ⟨false, 7, [(enc_T_api_Slot a0)]⟩)], 26⟩ :=
  rE rfl
theorem f49r1 (k : Nat) (a0 : T_api_Slot) (a1 : Str) : RE k f49a1 f49o1 false ⟨[(1, (V.str a1)), (2, (V.ptr 2 0 0))], [(2, ⟨false, 7, [(enc_T_api_Slot a0)]⟩)], 26⟩ = some ⟨[(1, (V.str a1)), (2, (V.ptr 2 0 0)), (9, (V.bool (decide ((a1.length : Int) ≥ a0.fBytes))))], [(2, ⟨false, 7, [(enc_T_api_Slot a0)]⟩)], 26⟩ :=
  rE rfl
theorem f49r2 (k : Nat) (a0 : T_api_Slot) (a1 : Str) : RE k f49a2 f49o2 false ⟨[(1, (V.str a1)), (2, (V.ptr 2 0 0)), (9, (V.bool true))], [(2, ⟨false, 7, [(enc_T_api_Slot a0)]⟩)], 26⟩ = ((cut a1 0 a0.fBytes)).map (fun (o : Str) => (⟨[(4, (V.str o))], [], 26⟩ : St)) := by
  refine rg ?_
  refine ra 3 3 ⟨[(1, (V.str a1)), (2, (V.ptr 2 0 0)), (9, (V.bool true)), (10, (V.str a1)), (11, (V.ptr 2 0 3)), (12, (I a0.fBytes))], [(2, ⟨false, 7, [(enc_T_api_Slot a0)]⟩)], 26⟩ rfl rfl rfl ?_
  refine Eq.trans (reg_pure (x := (cut a1 0 a0.fBytes)) (w := fun v1 => (V.str v1)) rfl rfl rfl rfl (p_sliceS rfl rfl rfl rfl rfl rfl Go.Proofs.Try.underlying9)) ?_
  refine bind_self (fun v1 => ?_)
  exact bind_end rfl
theorem f49r3 (k : Nat) (a0 : T_api_Slot) (a1 : Str) : RE k f49a3 f49o3 false ⟨[(1, (V.str a1)), (2, (V.ptr 2 0 0)), (9, (V.bool false))], [(2, ⟨false, 7, [(enc_T_api_Slot a0)]⟩)], 26⟩ = (((strings_Repeat k (Go.AE.strB ([a0.fFill] : List Int)) (Go.IntKind.wrap .i64 (a0.fBytes - (a1.length : Int)))).bind fun v3 => (cat a1 v3))).map (fun (o : Str) => (⟨[(4, (V.str o))], [], 26⟩ : St)) := by
  refine rg ?_
  refine ra 4 4 ⟨[(1, (V.str a1)), (2, (V.ptr 2 0 0)), (9, (V.bool false)), (14, (V.str a1)), (15, (V.ptr 2 0 6)), (16, (V.int .u8 a0.fFill)), (17, (V.sl 0 1 (List.map (V.int .u8) ([a0.fFill] : List Int))))], [(2, ⟨false, 7, [(enc_T_api_Slot a0)]⟩)], 26⟩ rfl rfl rfl ?_
  refine Eq.trans (reg_pure (x := some ()) (w := fun _ => (V.str (Go.AE.strB ([a0.fFill] : List Int)))) rfl rfl rfl rfl (p_convBS (l := ([a0.fFill] : List Int)) rfl rfl Go.Proofs.Try.underlying92 Go.Proofs.Try.underlying9 Go.Proofs.Try.underlying5)) ?_
  refine Eq.trans some_bind ?_
  refine ba 5 10 ⟨[(1, (V.str a1)), (2, (V.ptr 2 0 0)), (9, (V.bool false)), (14, (V.str a1)), (15, (V.ptr 2 0 6)), (16, (V.int .u8 a0.fFill)), (17, (V.sl 0 1 (List.map (V.int .u8) ([a0.fFill] : List Int)))), (18, (V.str (Go.AE.strB ([a0.fFill] : List Int)))), (19, (V.ptr 2 0 3)), (20, (I a0.fBytes)), (21, (V.str a1)), (22, (I (a1.length : Int))), (23, (I (Go.IntKind.wrap .i64 (a0.fBytes - (a1.length : Int)))))], [(2, ⟨false, 7, [(enc_T_api_Slot a0)]⟩)], 26⟩ rfl rfl rfl ?_
  refine Eq.trans (reg_pure (x := (strings_Repeat k (Go.AE.strB ([a0.fFill] : List Int)) (Go.IntKind.wrap .i64 (a0.fBytes - (a1.length : Int))))) (w := fun v3 => (V.str v3)) rfl rfl rfl rfl (p_call rfl rfl rfl rfl rfl (strings_Repeat_ok k (Go.AE.strB ([a0.fFill] : List Int)) (Go.IntKind.wrap .i64 (a0.fBytes - (a1.length : Int)))) (.inl rfl))) ?_
  refine bindE (fun v3 => ?_)
  refine ba 0 11 ⟨[(1, (V.str a1)), (2, (V.ptr 2 0 0)), (9, (V.bool false)), (14, (V.str a1)), (15, (V.ptr 2 0 6)), (16, (V.int .u8 a0.fFill)), (17, (V.sl 0 1 (List.map (V.int .u8) ([a0.fFill] : List Int)))), (18, (V.str (Go.AE.strB ([a0.fFill] : List Int)))), (19, (V.ptr 2 0 3)), (20, (I a0.fBytes)), (21, (V.str a1)), (22, (I (a1.length : Int))), (23, (I (Go.IntKind.wrap .i64 (a0.fBytes - (a1.length : Int))))), (24, (V.str v3))], [(2, ⟨false, 7, [(enc_T_api_Slot a0)]⟩)], 26⟩ rfl rfl rfl ?_
  refine Eq.trans (reg_pure (x := (cat a1 v3)) (w := fun v4 => (V.str v4)) rfl rfl rfl rfl (p_cat rfl rfl rfl)) ?_
  refine bind_self (fun v4 => ?_)
  exact bind_end rfl
theorem screen_filled_ok (k : Nat) (a0 : T_api_Slot) (a1 : Str) : EV k 49 [(enc_T_api_Slot a0), (V.str a1)] = (screen_filled k a0 a1).map screen_filled_fin := by
  cases k with
  | zero => rfl
  | succ k =>
    unfold screen_filled
    refine Eq.trans (evF_succ (c := f49c) (N := 26) (regs := f49n) rfl Go.Proofs.Try.func49 rfl (by decide) rfl rfl rfl) ?_
    refine Eq.trans (k_region0 rfl (f49r0 k a0 a1)) ?_
    refine Eq.trans k_assoc ?_
    refine Eq.trans (k_region0 rfl (f49r1 k a0 a1)) ?_
    refine Eq.trans (k_cond (t := (decide ((a1.length : Int) ≥ a0.fBytes))) rfl rfl) ?_
    refine bifE2 (fun hc => ?_) fun hc => ?_
    · rw [hc]
      refine Eq.trans k_assoc ?_
      refine Eq.trans (k_region rfl (f49r2 k a0 a1)) ?_
      refine bindE (fun o2 => ?_)
      refine Eq.trans k_ret ?_
      rfl
    · rw [hc]
      refine Eq.trans k_skip ?_
      refine Eq.trans (k_region rfl (f49r3 k a0 a1)) ?_
      refine bindE (fun o5 => ?_)
      refine Eq.trans k_lret ?_
      rfl
def screen_show_fin : (List Str) → V × List V := fun r => ((V.sl 0 1 (List.map V.str r)), [])
theorem f35r0 (k : Nat) (a0 : T_api_Form) (a1 : (List Str)) : RE k f35a0 f35o0 false ⟨[(0, (enc_T_api_Form a0)), (1, (V.sl 0 1 (List.map V.str a1)))], [], 60⟩ = some ⟨[(1, (V.sl 0 1 (List.map V.str a1))), (2, (V.ptr 2 0 0))], [(2, ⟨false, 4, [(enc_T_api_Form a0)]⟩)], 60⟩ :=
  rE rfl
theorem f35r1 (k : Nat) (a0 : T_api_Form) (a1 : (List Str)) : RE k f35a1 f35o1 true ⟨[(1, (V.sl 0 1 (List.map V.str a1))), (2, (V.ptr 2 0 0))], [(2, ⟨false, 4, [(enc_T_api_Form a0)]⟩)], 60⟩ = (((strings_Repeat k ([32] : Str) a0.fColumns).bind fun v1 => (slices_Repeat_string k ([v1] : List Str) a0.fRows))).map (fun (o : (List Str)) => (⟨[(1, (V.sl 0 1 (List.map V.str a1))), (2, (V.ptr 2 0 0)), (5, (V.sl 0 1 (List.map V.str o)))], [(2, ⟨false, 4, [(enc_T_api_Form a0)]⟩)], 60⟩ : St)) := by
  refine Eq.trans (regionE_regp (p := 8) (dk := true) (t := [(1, (V.sl 0 1 (List.map V.str a1))), (2, (V.ptr 2 0 0))]) (σ := [(2, ⟨false, 4, [(enc_T_api_Form a0)]⟩)]) (n := 60) (by decide) (by decide) rfl) ?_
  refine Eq.trans (regp_adv (m := 2) (j := 2) (t' := [(1, (V.sl 0 1 (List.map V.str a1))), (2, (V.ptr 2 0 0)), (11, (V.ptr 2 0 1)), (12, (I a0.fColumns))]) rfl rfl rfl) ?_
  refine Eq.trans (regp_pure (x := (strings_Repeat k ([32] : Str) a0.fColumns)) (w := fun v1 => (V.str v1)) rfl rfl rfl rfl rfl (p_call rfl rfl rfl rfl rfl (strings_Repeat_ok k ([32] : Str) a0.fColumns) (.inl rfl))) ?_
  refine bindE (fun v1 => ?_)
  refine Eq.trans (putp_adv (m := 3) (j := 6) (t' := [(1, (V.sl 0 1 (List.map V.str a1))), (2, (V.ptr 2 0 0)), (11, (V.ptr 2 0 1)), (12, (I a0.fColumns)), (13, (V.str v1)), (14, (V.sl 0 1 (List.map V.str ([v1] : List Str)))), (15, (V.ptr 2 0 0)), (16, (I a0.fRows))]) rfl rfl rfl) ?_
  refine Eq.trans (regp_pure (x := (slices_Repeat_string k ([v1] : List Str) a0.fRows)) (w := fun v2 => (V.sl 0 1 (List.map V.str v2))) rfl rfl rfl rfl rfl (p_call rfl rfl rfl rfl rfl (slices_Repeat_string_ok k ([v1] : List Str) a0.fRows) (.inl rfl))) ?_
  refine bind_self (fun v2 => ?_)
  exact regp_end rfl
theorem f35r2 (k : Nat) (a0 : T_api_Form) (a1 : (List Str)) (o3 : (List Str)) : RE k f35a2 f35o2 false ⟨[(1, (V.sl 0 1 (List.map V.str a1))), (2, (V.ptr 2 0 0)), (5, (V.sl 0 1 (List.map V.str o3)))], [(2, ⟨false, 4, [(enc_T_api_Form a0)]⟩)], 60⟩ = some ⟨[(1, (V.sl 0 1 (List.map V.str a1))), (2, (V.ptr 2 0 0)), (5, (V.sl 0 1 (List.map V.str o3))), (19, (sMark (a0.fMarks))), (20, (I (a0.fMarks.length : Int))), (21, (I 0))], [(2, ⟨false, 4, [(enc_T_api_Form a0)]⟩)], 60⟩ := by
  refine rg ?_
  refine ra 2 2 ⟨[(1, (V.sl 0 1 (List.map V.str a1))), (2, (V.ptr 2 0 0)), (5, (V.sl 0 1 (List.map V.str o3))), (18, (V.ptr 2 0 2)), (19, (sMark (a0.fMarks)))], [(2, ⟨false, 4, [(enc_T_api_Form a0)]⟩)], 60⟩ rfl rfl rfl ?_
  refine Eq.trans (reg_pure (x := some ()) (w := fun _ => (I (a0.fMarks.length : Int))) rfl rfl rfl rfl (p_len (e := enc_T_api_Mark) rfl rfl rfl rfl rfl rfl Go.Proofs.Try.underlying22)) ?_
  refine Eq.trans some_bind ?_
  exact bind_end rfl
theorem f35r3 (k : Nat) (a0 : T_api_Form) (a1 : (List Str)) (x8 : (List Str)) (x9 : Int) : RE k f35a3 f35o3 false ⟨[(1, (V.sl 0 1 (List.map V.str a1))), (2, (V.ptr 2 0 0)), (5, (V.sl 0 1 (List.map V.str x8))), (19, (sMark (a0.fMarks))), (20, (I (a0.fMarks.length : Int))), (21, (I x9))], [(2, ⟨false, 4, [(enc_T_api_Form a0)]⟩)], 60⟩ = some ⟨[(1, (V.sl 0 1 (List.map V.str a1))), (2, (V.ptr 2 0 0)), (5, (V.sl 0 1 (List.map V.str x8))), (19, (sMark (a0.fMarks))), (20, (I (a0.fMarks.length : Int))), (21, (I x9)), (22, (V.bool (decide (x9 < (a0.fMarks.length : Int)))))], [(2, ⟨false, 4, [(enc_T_api_Form a0)]⟩)], 60⟩ :=
  rE rfl
theorem f35r4 (k : Nat) (a0 : T_api_Form) (a1 : (List Str)) (x8 : (List Str)) (x9 : Int) : RE k f35a4 f35o4 false ⟨[(1, (V.sl 0 1 (List.map V.str a1))), (2, (V.ptr 2 0 0)), (5, (V.sl 0 1 (List.map V.str x8))), (19, (sMark (a0.fMarks))), (20, (I (a0.fMarks.length : Int))), (21, (I x9)), (22, (V.bool true))], [(2, ⟨false, 4, [(enc_T_api_Form a0)]⟩)], 60⟩ = ((idx a0.fMarks x9)).map (fun (o : T_api_Mark) => (⟨[(1, (V.sl 0 1 (List.map V.str a1))), (2, (V.ptr 2 0 0)), (5, (V.sl 0 1 (List.map V.str x8))), (7, (V.ptr 7 0 0)), (19, (sMark (a0.fMarks))), (20, (I (a0.fMarks.length : Int))), (21, (I x9))], [(2, ⟨false, 4, [(enc_T_api_Form a0)]⟩), (7, ⟨false, 3, [(enc_T_api_Mark o)]⟩)], 60⟩ : St)) := by
  refine rg ?_
  refine Eq.trans (reg_pure (x := (idx a0.fMarks x9)) (w := fun v10 => (V.pro (enc_T_api_Mark v10))) rfl rfl rfl rfl (p_index (e := enc_T_api_Mark) rfl rfl rfl Go.Proofs.Try.underlying22 rfl (by decide))) ?_
  refine bind_self (fun v10 => ?_)
  exact bind_end rfl
theorem f35r5 (k : Nat) (a0 : T_api_Form) (a1 : (List Str)) (x8 : (List Str)) (x9 : Int) (o11 : T_api_Mark) : RE k f35a5 f35o5 false ⟨[(1, (V.sl 0 1 (List.map V.str a1))), (2, (V.ptr 2 0 0)), (5, (V.sl 0 1 (List.map V.str x8))), (7, (V.ptr 7 0 0)), (19, (sMark (a0.fMarks))), (20, (I (a0.fMarks.length : Int))), (21, (I x9))], [(2, ⟨false, 4, [(enc_T_api_Form a0)]⟩), (7, ⟨false, 3, [(enc_T_api_Mark o11)]⟩)], 60⟩ = ((screen_laid k x8 o11.fRow o11.fColumn o11.fText)).map (fun (o : (List Str)) => (⟨[(1, (V.sl 0 1 (List.map V.str a1))), (2, (V.ptr 2 0 0)), (5, (V.sl 0 1 (List.map V.str o))), (19, (sMark (a0.fMarks))), (20, (I (a0.fMarks.length : Int))), (21, (I x9))], [(2, ⟨false, 4, [(enc_T_api_Form a0)]⟩)], 60⟩ : St)) := by
  refine rg ?_
  refine ra 7 7 ⟨[(1, (V.sl 0 1 (List.map V.str a1))), (2, (V.ptr 2 0 0)), (5, (V.sl 0 1 (List.map V.str x8))), (7, (V.ptr 7 0 0)), (19, (sMark (a0.fMarks))), (20, (I (a0.fMarks.length : Int))), (21, (I x9)), (25, (V.sl 0 1 (List.map V.str x8))), (26, (V.ptr 7 0 0)), (27, (I o11.fRow)), (28, (V.ptr 7 0 1)), (29, (I o11.fColumn)), (30, (V.ptr 7 0 2)), (31, (V.str o11.fText))], [(2, ⟨false, 4, [(enc_T_api_Form a0)]⟩), (7, ⟨false, 3, [(enc_T_api_Mark o11)]⟩)], 60⟩ rfl rfl rfl ?_
  refine Eq.trans (reg_pure (x := (screen_laid k x8 o11.fRow o11.fColumn o11.fText)) (w := fun v12 => (V.sl 0 1 (List.map V.str v12))) rfl rfl rfl rfl (p_call rfl rfl rfl rfl rfl (screen_laid_ok k x8 o11.fRow o11.fColumn o11.fText) (.inl rfl))) ?_
  refine bind_self (fun v12 => ?_)
  exact bind_end rfl
theorem f35r6 (k : Nat) (a0 : T_api_Form) (a1 : (List Str)) (x9 : Int) (o13 : (List Str)) : RE k f35a6 f35o6 false ⟨[(1, (V.sl 0 1 (List.map V.str a1))), (2, (V.ptr 2 0 0)), (5, (V.sl 0 1 (List.map V.str o13))), (19, (sMark (a0.fMarks))), (20, (I (a0.fMarks.length : Int))), (21, (I x9))], [(2, ⟨false, 4, [(enc_T_api_Form a0)]⟩)], 60⟩ = some ⟨[(1, (V.sl 0 1 (List.map V.str a1))), (2, (V.ptr 2 0 0)), (5, (V.sl 0 1 (List.map V.str o13))), (19, (sMark (a0.fMarks))), (20, (I (a0.fMarks.length : Int))), (21, (I (Go.IntKind.wrap .i64 (x9 + 1))))], [(2, ⟨false, 4, [(enc_T_api_Form a0)]⟩)], 60⟩ :=
  rE rfl
theorem screen_show_L1_ok (k : Nat) (a0 : T_api_Form) (a1 : (List Str))  (K0 : (List Str) → Int → Option (List Str)) (Kst : X × St → Option (V × List V)) (hK0 : ∀ (y0 : (List Str)) (y1 : Int), Kst (X.exit 0, ⟨[(1, (V.sl 0 1 (List.map V.str a1))), (2, (V.ptr 2 0 0)), (5, (V.sl 0 1 (List.map V.str y0))), (19, (sMark (a0.fMarks))), (20, (I (a0.fMarks.length : Int))), (21, (I y1)), (22, (V.bool false))], [(2, ⟨false, 4, [(enc_T_api_Form a0)]⟩)], 60⟩) = (K0 y0 y1).map screen_show_fin) (hret : ∀ s, Kst (X.ret, s) = endK prog 60 [(enc_T_api_Form a0), (V.sl 0 1 (List.map V.str a1))] [] [.tmp 4] (X.ret, s)) :
    ∀ (m : Nat) (x8 : (List Str)) (x9 : Int), (iter (exec prog (EV k) f35n k f35b0) m ⟨[(1, (V.sl 0 1 (List.map V.str a1))), (2, (V.ptr 2 0 0)), (5, (V.sl 0 1 (List.map V.str x8))), (19, (sMark (a0.fMarks))), (20, (I (a0.fMarks.length : Int))), (21, (I x9))], [(2, ⟨false, 4, [(enc_T_api_Form a0)]⟩)], 60⟩).bind Kst = (screen_show_L1 k a0 K0 m x8 x9).map screen_show_fin := by
  intro m
  induction m with
  | zero => intros; rfl
  | succ m ih =>
    intro x8 x9
    unfold screen_show_L1
    refine Eq.trans k_round ?_
    refine Eq.trans (k_region0 rfl (f35r3 k a0 a1 x8 x9)) ?_
    refine Eq.trans (k_cond (t := (decide (x9 < (a0.fMarks.length : Int)))) rfl rfl) ?_
    refine bifE2 (fun hc => ?_) fun hc => ?_
    · rw [hc]
      refine Eq.trans k_skip ?_
      refine Eq.trans (k_block rfl) ?_
      refine Eq.trans (k_region rfl (f35r4 k a0 a1 x8 x9)) ?_
      refine bindE (fun o11 => ?_)
      refine Eq.trans (k_lregion rfl (f35r5 k a0 a1 x8 x9 o11)) ?_
      refine bindE (fun o13 => ?_)
      refine Eq.trans blk_normal ?_
      refine Eq.trans (k_lregion0 rfl (f35r6 k a0 a1 x9 o13)) ?_
      refine Eq.trans loop_normal ?_
      exact ih o13 (Go.IntKind.wrap .i64 (x9 + 1))
    · rw [hc]
      refine Eq.trans k_exit ?_
      refine Eq.trans loop_exit ?_
      exact hK0 x8 x9
theorem f35r7 (k : Nat) (a0 : T_api_Form) (a1 : (List Str)) (y14 : (List Str)) (y15 : Int) : RE k f35a7 f35o7 false ⟨[(1, (V.sl 0 1 (List.map V.str a1))), (2, (V.ptr 2 0 0)), (5, (V.sl 0 1 (List.map V.str y14))), (19, (sMark (a0.fMarks))), (20, (I (a0.fMarks.length : Int))), (21, (I y15)), (22, (V.bool false))], [(2, ⟨false, 4, [(enc_T_api_Form a0)]⟩)], 60⟩ = some ⟨[(1, (V.sl 0 1 (List.map V.str a1))), (5, (V.sl 0 1 (List.map V.str y14))), (35, (sSlot (a0.fFields))), (36, (I (a0.fFields.length : Int))), (37, (I 0))], [], 60⟩ := by
  refine rg ?_
  refine ra 2 2 ⟨[(1, (V.sl 0 1 (List.map V.str a1))), (2, (V.ptr 2 0 0)), (5, (V.sl 0 1 (List.map V.str y14))), (19, (sMark (a0.fMarks))), (20, (I (a0.fMarks.length : Int))), (21, (I y15)), (22, (V.bool false)), (34, (V.ptr 2 0 3)), (35, (sSlot (a0.fFields)))], [(2, ⟨false, 4, [(enc_T_api_Form a0)]⟩)], 60⟩ rfl rfl rfl ?_
  refine Eq.trans (reg_pure (x := some ()) (w := fun _ => (I (a0.fFields.length : Int))) rfl rfl rfl rfl (p_len (e := enc_T_api_Slot) rfl rfl rfl rfl rfl rfl Go.Proofs.Try.underlying23)) ?_
  refine Eq.trans some_bind ?_
  exact bind_end rfl
theorem f35r8 (k : Nat) (a0 : T_api_Form) (a1 : (List Str)) (x26 : (List Str)) (x27 : Int) : RE k f35a8 f35o8 false ⟨[(1, (V.sl 0 1 (List.map V.str a1))), (5, (V.sl 0 1 (List.map V.str x26))), (35, (sSlot (a0.fFields))), (36, (I (a0.fFields.length : Int))), (37, (I x27))], [], 60⟩ = some ⟨[(1, (V.sl 0 1 (List.map V.str a1))), (5, (V.sl 0 1 (List.map V.str x26))), (35, (sSlot (a0.fFields))), (36, (I (a0.fFields.length : Int))), (37, (I x27)), (38, (V.bool (decide (x27 < (a0.fFields.length : Int)))))], [], 60⟩ :=
  rE rfl
theorem f35r9 (k : Nat) (a0 : T_api_Form) (a1 : (List Str)) (x26 : (List Str)) (x27 : Int) : RE k f35a9 f35o9 false ⟨[(1, (V.sl 0 1 (List.map V.str a1))), (5, (V.sl 0 1 (List.map V.str x26))), (35, (sSlot (a0.fFields))), (36, (I (a0.fFields.length : Int))), (37, (I x27)), (38, (V.bool true))], [], 60⟩ = ((idx a0.fFields x27)).map (fun (o : T_api_Slot) => (⟨[(1, (V.sl 0 1 (List.map V.str a1))), (5, (V.sl 0 1 (List.map V.str x26))), (9, (V.ptr 9 0 0)), (35, (sSlot (a0.fFields))), (36, (I (a0.fFields.length : Int))), (37, (I x27))], [(9, ⟨false, 7, [(enc_T_api_Slot o)]⟩)], 60⟩ : St)) := by
  refine rg ?_
  refine Eq.trans (reg_pure (x := (idx a0.fFields x27)) (w := fun v28 => (V.pro (enc_T_api_Slot v28))) rfl rfl rfl rfl (p_index (e := enc_T_api_Slot) rfl rfl rfl Go.Proofs.Try.underlying23 rfl (by decide))) ?_
  refine bind_self (fun v28 => ?_)
  exact bind_end rfl
theorem f35r10 (k : Nat) (a0 : T_api_Form) (a1 : (List Str)) (x26 : (List Str)) (x27 : Int) (o29 : T_api_Slot) : RE k f35a10 f35o10 false ⟨[(1, (V.sl 0 1 (List.map V.str a1))), (5, (V.sl 0 1 (List.map V.str x26))), (9, (V.ptr 9 0 0)), (35, (sSlot (a0.fFields))), (36, (I (a0.fFields.length : Int))), (37, (I x27))], [(9, ⟨false, 7, [(enc_T_api_Slot o29)]⟩)], 60⟩ = some ⟨[(1, (V.sl 0 1 (List.map V.str a1))), (5, (V.sl 0 1 (List.map V.str x26))), (9, (V.ptr 9 0 0)), (10, (V.str ([] : Str))), (35, (sSlot (a0.fFields))), (36, (I (a0.fFields.length : Int))), (37, (I x27))], [(9, ⟨false, 7, [(enc_T_api_Slot o29)]⟩)], 60⟩ :=
  rE rfl
theorem f35r11 (k : Nat) (a0 : T_api_Form) (a1 : (List Str)) (x26 : (List Str)) (x27 : Int) (o29 : T_api_Slot) : RE k f35a11 f35o11 false ⟨[(1, (V.sl 0 1 (List.map V.str a1))), (5, (V.sl 0 1 (List.map V.str x26))), (9, (V.ptr 9 0 0)), (10, (V.str ([] : Str))), (35, (sSlot (a0.fFields))), (36, (I (a0.fFields.length : Int))), (37, (I x27))], [(9, ⟨false, 7, [(enc_T_api_Slot o29)]⟩)], 60⟩ = some ⟨[(1, (V.sl 0 1 (List.map V.str a1))), (5, (V.sl 0 1 (List.map V.str x26))), (9, (V.ptr 9 0 0)), (10, (V.str ([] : Str))), (35, (sSlot (a0.fFields))), (36, (I (a0.fFields.length : Int))), (37, (I x27)), (43, (V.bool (decide (o29.fOut ≥ 0))))], [(9, ⟨false, 7, [(enc_T_api_Slot o29)]⟩)], 60⟩ :=
  rE rfl
theorem f35r12 (k : Nat) (a0 : T_api_Form) (a1 : (List Str)) (x26 : (List Str)) (x27 : Int) (o29 : T_api_Slot) : RE k f35a12 f35o12 false ⟨[(1, (V.sl 0 1 (List.map V.str a1))), (5, (V.sl 0 1 (List.map V.str x26))), (9, (V.ptr 9 0 0)), (10, (V.str ([] : Str))), (35, (sSlot (a0.fFields))), (36, (I (a0.fFields.length : Int))), (37, (I x27)), (43, (V.bool true))], [(9, ⟨false, 7, [(enc_T_api_Slot o29)]⟩)], 60⟩ = ((idx a1 o29.fOut)).map (fun (o : Str) => (⟨[(1, (V.sl 0 1 (List.map V.str a1))), (5, (V.sl 0 1 (List.map V.str x26))), (9, (V.ptr 9 0 0)), (10, (V.str o)), (35, (sSlot (a0.fFields))), (36, (I (a0.fFields.length : Int))), (37, (I x27))], [(9, ⟨false, 7, [(enc_T_api_Slot o29)]⟩)], 60⟩ : St)) := by
  refine rg ?_
  refine ra 3 3 ⟨[(1, (V.sl 0 1 (List.map V.str a1))), (5, (V.sl 0 1 (List.map V.str x26))), (9, (V.ptr 9 0 0)), (10, (V.str ([] : Str))), (35, (sSlot (a0.fFields))), (36, (I (a0.fFields.length : Int))), (37, (I x27)), (43, (V.bool true)), (44, (V.sl 0 1 (List.map V.str a1))), (45, (V.ptr 9 0 5)), (46, (I o29.fOut))], [(9, ⟨false, 7, [(enc_T_api_Slot o29)]⟩)], 60⟩ rfl rfl rfl ?_
  refine Eq.trans (reg_pure (x := (idx a1 o29.fOut)) (w := fun v30 => (V.pro (V.str v30))) rfl rfl rfl rfl (p_index (e := V.str) rfl rfl rfl Go.Proofs.Try.underlying26 rfl (by decide))) ?_
  refine bind_self (fun v30 => ?_)
  exact bind_end rfl
theorem f35r13 (k : Nat) (a0 : T_api_Form) (a1 : (List Str)) (x26 : (List Str)) (x27 : Int) (o29 : T_api_Slot) (o31 : Str) : RE k f35a13 f35o13 true ⟨[(1, (V.sl 0 1 (List.map V.str a1))), (5, (V.sl 0 1 (List.map V.str x26))), (9, (V.ptr 9 0 0)), (10, (V.str o31)), (35, (sSlot (a0.fFields))), (36, (I (a0.fFields.length : Int))), (37, (I x27))], [(9, ⟨false, 7, [(enc_T_api_Slot o29)]⟩)], 60⟩ = (((screen_filled k o29 o31).bind fun v32 => (screen_laid k x26 o29.fRow o29.fColumn v32))).map (fun (o : (List Str)) => (⟨[(1, (V.sl 0 1 (List.map V.str a1))), (5, (V.sl 0 1 (List.map V.str o))), (35, (sSlot (a0.fFields))), (36, (I (a0.fFields.length : Int))), (37, (I x27))], [], 60⟩ : St)) := by
  refine Eq.trans (regionE_regp (p := 9) (dk := true) (t := [(1, (V.sl 0 1 (List.map V.str a1))), (5, (V.sl 0 1 (List.map V.str x26))), (9, (V.ptr 9 0 0)), (10, (V.str o31)), (35, (sSlot (a0.fFields))), (36, (I (a0.fFields.length : Int))), (37, (I x27))]) (σ := [(9, ⟨false, 7, [(enc_T_api_Slot o29)]⟩)]) (n := 60) (by decide) (by decide) rfl) ?_
  refine Eq.trans (regp_adv (m := 7) (j := 7) (t' := [(1, (V.sl 0 1 (List.map V.str a1))), (5, (V.sl 0 1 (List.map V.str x26))), (9, (V.ptr 9 0 0)), (10, (V.str o31)), (35, (sSlot (a0.fFields))), (36, (I (a0.fFields.length : Int))), (37, (I x27)), (49, (V.sl 0 1 (List.map V.str x26))), (50, (V.ptr 9 0 1)), (51, (I o29.fRow)), (52, (V.ptr 9 0 2)), (53, (I o29.fColumn)), (54, (enc_T_api_Slot o29)), (55, (V.str o31))]) rfl rfl rfl) ?_
  refine Eq.trans (regp_pure (x := (screen_filled k o29 o31)) (w := fun v32 => (V.str v32)) rfl rfl rfl rfl rfl (p_call rfl rfl rfl rfl rfl (screen_filled_ok k o29 o31) (.inl rfl))) ?_
  refine bindE (fun v32 => ?_)
  refine Eq.trans (putp_adv (m := 0) (j := 8) (t' := [(1, (V.sl 0 1 (List.map V.str a1))), (5, (V.sl 0 1 (List.map V.str x26))), (9, (V.ptr 9 0 0)), (10, (V.str o31)), (35, (sSlot (a0.fFields))), (36, (I (a0.fFields.length : Int))), (37, (I x27)), (49, (V.sl 0 1 (List.map V.str x26))), (50, (V.ptr 9 0 1)), (51, (I o29.fRow)), (52, (V.ptr 9 0 2)), (53, (I o29.fColumn)), (54, (enc_T_api_Slot o29)), (55, (V.str o31)), (56, (V.str v32))]) rfl rfl rfl) ?_
  refine Eq.trans (regp_pure (x := (screen_laid k x26 o29.fRow o29.fColumn v32)) (w := fun v33 => (V.sl 0 1 (List.map V.str v33))) rfl rfl rfl rfl rfl (p_call rfl rfl rfl rfl rfl (screen_laid_ok k x26 o29.fRow o29.fColumn v32) (.inl rfl))) ?_
  refine bind_self (fun v33 => ?_)
  exact regp_end rfl
theorem f35r14 (k : Nat) (a0 : T_api_Form) (a1 : (List Str)) (x27 : Int) (o34 : (List Str)) : RE k f35a14 f35o14 false ⟨[(1, (V.sl 0 1 (List.map V.str a1))), (5, (V.sl 0 1 (List.map V.str o34))), (35, (sSlot (a0.fFields))), (36, (I (a0.fFields.length : Int))), (37, (I x27))], [], 60⟩ = some ⟨[(1, (V.sl 0 1 (List.map V.str a1))), (5, (V.sl 0 1 (List.map V.str o34))), (35, (sSlot (a0.fFields))), (36, (I (a0.fFields.length : Int))), (37, (I (Go.IntKind.wrap .i64 (x27 + 1))))], [], 60⟩ :=
  rE rfl
theorem screen_show_r13' (k : Nat) (a0 : T_api_Form) (a1 : (List Str)) (x26 : (List Str)) (x27 : Int) (o29 : T_api_Slot) : RE k f35a13 f35o13 true ⟨[(1, (V.sl 0 1 (List.map V.str a1))), (5, (V.sl 0 1 (List.map V.str x26))), (9, (V.ptr 9 0 0)), (10, (V.str ([] : Str))), (35, (sSlot (a0.fFields))), (36, (I (a0.fFields.length : Int))), (37, (I x27)), (43, (V.bool false))], [(9, ⟨false, 7, [(enc_T_api_Slot o29)]⟩)], 60⟩ = (((screen_filled k o29 ([] : Str)).bind fun v35 => (screen_laid k x26 o29.fRow o29.fColumn v35))).map (fun (o : (List Str)) => (⟨[(1, (V.sl 0 1 (List.map V.str a1))), (5, (V.sl 0 1 (List.map V.str o))), (35, (sSlot (a0.fFields))), (36, (I (a0.fFields.length : Int))), (37, (I x27))], [], 60⟩ : St)) := by
  refine Eq.trans (regionE_regp (p := 9) (dk := true) (t := [(1, (V.sl 0 1 (List.map V.str a1))), (5, (V.sl 0 1 (List.map V.str x26))), (9, (V.ptr 9 0 0)), (10, (V.str ([] : Str))), (35, (sSlot (a0.fFields))), (36, (I (a0.fFields.length : Int))), (37, (I x27)), (43, (V.bool false))]) (σ := [(9, ⟨false, 7, [(enc_T_api_Slot o29)]⟩)]) (n := 60) (by decide) (by decide) rfl) ?_
  refine Eq.trans (regp_adv (m := 7) (j := 7) (t' := [(1, (V.sl 0 1 (List.map V.str a1))), (5, (V.sl 0 1 (List.map V.str x26))), (9, (V.ptr 9 0 0)), (10, (V.str ([] : Str))), (35, (sSlot (a0.fFields))), (36, (I (a0.fFields.length : Int))), (37, (I x27)), (43, (V.bool false)), (49, (V.sl 0 1 (List.map V.str x26))), (50, (V.ptr 9 0 1)), (51, (I o29.fRow)), (52, (V.ptr 9 0 2)), (53, (I o29.fColumn)), (54, (enc_T_api_Slot o29)), (55, (V.str ([] : Str)))]) rfl rfl rfl) ?_
  refine Eq.trans (regp_pure (x := (screen_filled k o29 ([] : Str))) (w := fun v35 => (V.str v35)) rfl rfl rfl rfl rfl (p_call rfl rfl rfl rfl rfl (screen_filled_ok k o29 ([] : Str)) (.inl rfl))) ?_
  refine bindE (fun v35 => ?_)
  refine Eq.trans (putp_adv (m := 0) (j := 8) (t' := [(1, (V.sl 0 1 (List.map V.str a1))), (5, (V.sl 0 1 (List.map V.str x26))), (9, (V.ptr 9 0 0)), (10, (V.str ([] : Str))), (35, (sSlot (a0.fFields))), (36, (I (a0.fFields.length : Int))), (37, (I x27)), (43, (V.bool false)), (49, (V.sl 0 1 (List.map V.str x26))), (50, (V.ptr 9 0 1)), (51, (I o29.fRow)), (52, (V.ptr 9 0 2)), (53, (I o29.fColumn)), (54, (enc_T_api_Slot o29)), (55, (V.str ([] : Str))), (56, (V.str v35))]) rfl rfl rfl) ?_
  refine Eq.trans (regp_pure (x := (screen_laid k x26 o29.fRow o29.fColumn v35)) (w := fun v36 => (V.sl 0 1 (List.map V.str v36))) rfl rfl rfl rfl rfl (p_call rfl rfl rfl rfl rfl (screen_laid_ok k x26 o29.fRow o29.fColumn v35) (.inl rfl))) ?_
  refine bind_self (fun v36 => ?_)
  exact regp_end rfl
theorem screen_show_r14' (k : Nat) (a0 : T_api_Form) (a1 : (List Str)) (x27 : Int) (o37 : (List Str)) : RE k f35a14 f35o14 false ⟨[(1, (V.sl 0 1 (List.map V.str a1))), (5, (V.sl 0 1 (List.map V.str o37))), (35, (sSlot (a0.fFields))), (36, (I (a0.fFields.length : Int))), (37, (I x27))], [], 60⟩ = some ⟨[(1, (V.sl 0 1 (List.map V.str a1))), (5, (V.sl 0 1 (List.map V.str o37))), (35, (sSlot (a0.fFields))), (36, (I (a0.fFields.length : Int))), (37, (I (Go.IntKind.wrap .i64 (x27 + 1))))], [], 60⟩ :=
  rE rfl
theorem screen_show_L2_ok (k : Nat) (a0 : T_api_Form) (a1 : (List Str))  (K0 : (List Str) → Int → Option (List Str)) (Kst : X × St → Option (V × List V)) (hK0 : ∀ (y0 : (List Str)) (y1 : Int), Kst (X.exit 2, ⟨[(1, (V.sl 0 1 (List.map V.str a1))), (5, (V.sl 0 1 (List.map V.str y0))), (35, (sSlot (a0.fFields))), (36, (I (a0.fFields.length : Int))), (37, (I y1)), (38, (V.bool false))], [], 60⟩) = (K0 y0 y1).map screen_show_fin) (hret : ∀ s, Kst (X.ret, s) = endK prog 60 [(enc_T_api_Form a0), (V.sl 0 1 (List.map V.str a1))] [] [.tmp 4] (X.ret, s)) :
    ∀ (m : Nat) (x26 : (List Str)) (x27 : Int), (iter (exec prog (EV k) f35n k f35b1) m ⟨[(1, (V.sl 0 1 (List.map V.str a1))), (5, (V.sl 0 1 (List.map V.str x26))), (35, (sSlot (a0.fFields))), (36, (I (a0.fFields.length : Int))), (37, (I x27))], [], 60⟩).bind Kst = (screen_show_L2 k a0 a1 K0 m x26 x27).map screen_show_fin := by
  intro m
  induction m with
  | zero => intros; rfl
  | succ m ih =>
    intro x26 x27
    unfold screen_show_L2
    refine Eq.trans k_round ?_
    refine Eq.trans (k_region0 rfl (f35r8 k a0 a1 x26 x27)) ?_
    refine Eq.trans (k_cond (t := (decide (x27 < (a0.fFields.length : Int)))) rfl rfl) ?_
    refine bifE2 (fun hc => ?_) fun hc => ?_
    · rw [hc]
      refine Eq.trans k_skip ?_
      refine Eq.trans (k_block rfl) ?_
      refine Eq.trans (k_region rfl (f35r9 k a0 a1 x26 x27)) ?_
      refine bindE (fun o29 => ?_)
      refine Eq.trans (k_region0 rfl (f35r10 k a0 a1 x26 x27 o29)) ?_
      refine Eq.trans k_assoc ?_
      refine Eq.trans (k_region0 rfl (f35r11 k a0 a1 x26 x27 o29)) ?_
      refine Eq.trans (k_cond (t := (decide (o29.fOut ≥ 0))) rfl rfl) ?_
      refine bifE2 (fun hc => ?_) fun hc => ?_
      · rw [hc]
        refine Eq.trans (k_region rfl (f35r12 k a0 a1 x26 x27 o29)) ?_
        refine bindE (fun o31 => ?_)
        refine Eq.trans (k_lregion rfl (f35r13 k a0 a1 x26 x27 o29 o31)) ?_
        refine bindE (fun o34 => ?_)
        refine Eq.trans blk_normal ?_
        refine Eq.trans (k_lregion0 rfl (f35r14 k a0 a1 x27 o34)) ?_
        refine Eq.trans loop_normal ?_
        exact ih o34 (Go.IntKind.wrap .i64 (x27 + 1))
      · rw [hc]
        refine Eq.trans k_skip ?_
        refine Eq.trans (k_lregion rfl (screen_show_r13' k a0 a1 x26 x27 o29)) ?_
        refine bindE (fun o37 => ?_)
        refine Eq.trans blk_normal ?_
        refine Eq.trans (k_lregion0 rfl (screen_show_r14' k a0 a1 x27 o37)) ?_
        refine Eq.trans loop_normal ?_
        exact ih o37 (Go.IntKind.wrap .i64 (x27 + 1))
    · rw [hc]
      refine Eq.trans k_exit ?_
      refine Eq.trans loop_exit ?_
      exact hK0 x26 x27
theorem f35r15 (k : Nat) (a0 : T_api_Form) (a1 : (List Str)) (y38 : (List Str)) (y39 : Int) : RE k f35a15 f35o15 false ⟨[(1, (V.sl 0 1 (List.map V.str a1))), (5, (V.sl 0 1 (List.map V.str y38))), (35, (sSlot (a0.fFields))), (36, (I (a0.fFields.length : Int))), (37, (I y39)), (38, (V.bool false))], [], 60⟩ = some ⟨[(4, (V.sl 0 1 (List.map V.str y38)))], [], 60⟩ :=
  rE rfl
theorem screen_show_ok (k : Nat) (a0 : T_api_Form) (a1 : (List Str)) : EV k 35 [(enc_T_api_Form a0), (V.sl 0 1 (List.map V.str a1))] = (screen_show k a0 a1).map screen_show_fin := by
  cases k with
  | zero => rfl
  | succ k =>
    unfold screen_show
    refine Eq.trans (evF_succ (c := f35c) (N := 60) (regs := f35n) rfl Go.Proofs.Try.func35 rfl (by decide) rfl rfl rfl) ?_
    refine Eq.trans (k_region0 rfl (f35r0 k a0 a1)) ?_
    refine Eq.trans (k_region rfl (f35r1 k a0 a1)) ?_
    refine bindE (fun o3 => ?_)
    refine Eq.trans k_assoc ?_
    refine Eq.trans (k_region0 rfl (f35r2 k a0 a1 o3)) ?_
    refine Eq.trans (k_block rfl) ?_
    refine Eq.trans k_loop ?_
    refine screen_show_L1_ok k a0 a1 _ _ ?h_screen_show_L1_0 ?hr_screen_show_L1 k o3 0
    · intro y14 y15
      refine Eq.trans blk_exit ?_
      refine Eq.trans k_assoc ?_
      refine Eq.trans (k_region0 rfl (f35r7 k a0 a1 y14 y15)) ?_
      refine Eq.trans (k_block rfl) ?_
      refine Eq.trans k_loop ?_
      refine screen_show_L2_ok k a0 a1 _ _ ?h_screen_show_L2_0 ?hr_screen_show_L2 k y14 0
      · intro y38 y39
        refine Eq.trans blk_exit ?_
        refine Eq.trans (k_region0 rfl (f35r15 k a0 a1 y38 y39)) ?_
        refine Eq.trans k_lret ?_
        rfl
      · intro s; exact rfl
    · intro s; exact rfl
def screen_Show_fin : ((List Str) × Int) → V × List V := fun r => (.tup [(V.sl 0 1 (List.map V.str r.1)), (I r.2)], [])
theorem f11r0 (k : Nat) (a0 : T_api_Form) (a1 : (List Str)) : RE k f11a0 f11o0 false ⟨[(0, (enc_T_api_Form a0)), (1, (V.sl 0 1 (List.map V.str a1)))], [], 16⟩ = some ⟨[(1, (V.sl 0 1 (List.map V.str a1))), (2, (V.ptr 2 0 0))], [(2, ⟨false, 4, [(enc_T_api_Form a0)]⟩)], 16⟩ :=
  rE rfl
theorem f11r1 (k : Nat) (a0 : T_api_Form) (a1 : (List Str)) : RE k f11a1 f11o1 false ⟨[(1, (V.sl 0 1 (List.map V.str a1))), (2, (V.ptr 2 0 0))], [(2, ⟨false, 4, [(enc_T_api_Form a0)]⟩)], 16⟩ = ((screen_shows k a0 a1)).map (fun (o : Int) => (⟨[(1, (V.sl 0 1 (List.map V.str a1))), (2, (V.ptr 2 0 0)), (6, (I o))], [(2, ⟨false, 4, [(enc_T_api_Form a0)]⟩)], 16⟩ : St)) := by
  refine rg ?_
  refine ra 2 2 ⟨[(1, (V.sl 0 1 (List.map V.str a1))), (2, (V.ptr 2 0 0)), (7, (enc_T_api_Form a0)), (8, (V.sl 0 1 (List.map V.str a1)))], [(2, ⟨false, 4, [(enc_T_api_Form a0)]⟩)], 16⟩ rfl rfl rfl ?_
  refine Eq.trans (reg_pure (x := (screen_shows k a0 a1)) (w := fun v1 => (I v1)) rfl rfl rfl rfl (p_call rfl rfl rfl rfl rfl (screen_shows_ok k a0 a1) (.inl rfl))) ?_
  refine bind_self (fun v1 => ?_)
  exact bind_end rfl
theorem f11r2 (k : Nat) (a0 : T_api_Form) (a1 : (List Str)) (o2 : Int) : RE k f11a2 f11o2 false ⟨[(1, (V.sl 0 1 (List.map V.str a1))), (2, (V.ptr 2 0 0)), (6, (I o2))], [(2, ⟨false, 4, [(enc_T_api_Form a0)]⟩)], 16⟩ = some ⟨[(1, (V.sl 0 1 (List.map V.str a1))), (2, (V.ptr 2 0 0)), (6, (I o2)), (11, (V.bool (o2 != 0)))], [(2, ⟨false, 4, [(enc_T_api_Form a0)]⟩)], 16⟩ :=
  rE rfl
theorem f11r3 (k : Nat) (a0 : T_api_Form) (a1 : (List Str)) (o2 : Int) : RE k f11a3 f11o3 false ⟨[(1, (V.sl 0 1 (List.map V.str a1))), (2, (V.ptr 2 0 0)), (6, (I o2)), (11, (V.bool true))], [(2, ⟨false, 4, [(enc_T_api_Form a0)]⟩)], 16⟩ = some ⟨[(4, (V.sl 0 1 (List.map V.str ([] : List Str)))), (5, (I o2))], [], 16⟩ :=
  rE rfl
theorem f11r4 (k : Nat) (a0 : T_api_Form) (a1 : (List Str)) (o2 : Int) : RE k f11a4 f11o4 false ⟨[(1, (V.sl 0 1 (List.map V.str a1))), (2, (V.ptr 2 0 0)), (6, (I o2)), (11, (V.bool false))], [(2, ⟨false, 4, [(enc_T_api_Form a0)]⟩)], 16⟩ = (((screen_show k a0 a1).bind fun v3 => (some (v3, 0)))).map (fun (o : (List Str) × Int) => (⟨[(4, (V.sl 0 1 (List.map V.str o.1))), (5, (I o.2))], [], 16⟩ : St)) := by
  refine rg ?_
  refine ra 2 2 ⟨[(1, (V.sl 0 1 (List.map V.str a1))), (2, (V.ptr 2 0 0)), (6, (I o2)), (11, (V.bool false)), (13, (enc_T_api_Form a0)), (14, (V.sl 0 1 (List.map V.str a1)))], [(2, ⟨false, 4, [(enc_T_api_Form a0)]⟩)], 16⟩ rfl rfl rfl ?_
  refine Eq.trans (reg_pure (x := (screen_show k a0 a1)) (w := fun v3 => (V.sl 0 1 (List.map V.str v3))) rfl rfl rfl rfl (p_call rfl rfl rfl rfl rfl (screen_show_ok k a0 a1) (.inl rfl))) ?_
  refine bindE (fun v3 => ?_)
  exact bind_end rfl
theorem screen_Show_ok (k : Nat) (a0 : T_api_Form) (a1 : (List Str)) : EV k 11 [(enc_T_api_Form a0), (V.sl 0 1 (List.map V.str a1))] = (screen_Show k a0 a1).map screen_Show_fin := by
  cases k with
  | zero => rfl
  | succ k =>
    unfold screen_Show
    refine Eq.trans (evF_succ (c := f11c) (N := 16) (regs := f11n) rfl Go.Proofs.Try.func11 rfl (by decide) rfl rfl rfl) ?_
    refine Eq.trans (k_region0 rfl (f11r0 k a0 a1)) ?_
    refine Eq.trans k_assoc ?_
    refine Eq.trans (k_region rfl (f11r1 k a0 a1)) ?_
    refine bindE (fun o2 => ?_)
    refine Eq.trans k_assoc ?_
    refine Eq.trans (k_region0 rfl (f11r2 k a0 a1 o2)) ?_
    refine Eq.trans (k_cond (t := (o2 != 0)) rfl rfl) ?_
    refine bifE2 (fun hc => ?_) fun hc => ?_
    · rw [hc]
      refine Eq.trans k_assoc ?_
      refine Eq.trans (k_region0 rfl (f11r3 k a0 a1 o2)) ?_
      refine Eq.trans k_ret ?_
      rfl
    · rw [hc]
      refine Eq.trans k_skip ?_
      refine Eq.trans (k_region rfl (f11r4 k a0 a1 o2)) ?_
      refine bindE (fun o4 => ?_)
      refine Eq.trans k_lret ?_
      rfl
def slices_IndexFunc_string_fin : Int → V × List V := fun r => ((I r), [])
theorem f78r0 (k : Nat) (a0 : (List Str)) (a1 : Nat → Str → Option Bool) (a1_fid : Go.FuncId) (a1_c0 : V) (a1_hok : ∀ j x0, EV j a1_fid [(V.str x0), V.pro a1_c0] = (a1 j x0).map fun b => ((V.bool b), [])) : RE k f78a0 f78o0 false ⟨[(0, (V.sl 0 1 (List.map V.str a0))), (1, (V.fn a1_fid [] [V.pro a1_c0]))], [], 19⟩ = some ⟨[(0, (V.sl 0 1 (List.map V.str a0))), (1, (V.fn a1_fid [] [V.pro a1_c0]))], [], 19⟩ :=
  rE rfl
theorem f78r1 (k : Nat) (a0 : (List Str)) (a1 : Nat → Str → Option Bool) (a1_fid : Go.FuncId) (a1_c0 : V) (a1_hok : ∀ j x0, EV j a1_fid [(V.str x0), V.pro a1_c0] = (a1 j x0).map fun b => ((V.bool b), [])) : RE k f78a1 f78o1 false ⟨[(0, (V.sl 0 1 (List.map V.str a0))), (1, (V.fn a1_fid [] [V.pro a1_c0]))], [], 19⟩ = some ⟨[(0, (V.sl 0 1 (List.map V.str a0))), (1, (V.fn a1_fid [] [V.pro a1_c0])), (7, (I (a0.length : Int))), (8, (I 0))], [], 19⟩ := by
  refine rg ?_
  refine ra 1 1 ⟨[(0, (V.sl 0 1 (List.map V.str a0))), (1, (V.fn a1_fid [] [V.pro a1_c0])), (6, (V.sl 0 1 (List.map V.str a0)))], [], 19⟩ rfl rfl rfl ?_
  refine Eq.trans (reg_pure (x := some ()) (w := fun _ => (I (a0.length : Int))) rfl rfl rfl rfl (p_len (e := V.str) rfl rfl rfl rfl rfl rfl Go.Proofs.Try.underlying26)) ?_
  refine Eq.trans some_bind ?_
  exact bind_end rfl
theorem f78r2 (k : Nat) (a0 : (List Str)) (x4 : Int) (a1 : Nat → Str → Option Bool) (a1_fid : Go.FuncId) (a1_c0 : V) (a1_hok : ∀ j x0, EV j a1_fid [(V.str x0), V.pro a1_c0] = (a1 j x0).map fun b => ((V.bool b), [])) : RE k f78a2 f78o2 false ⟨[(0, (V.sl 0 1 (List.map V.str a0))), (1, (V.fn a1_fid [] [V.pro a1_c0])), (7, (I (a0.length : Int))), (8, (I x4))], [], 19⟩ = some ⟨[(0, (V.sl 0 1 (List.map V.str a0))), (1, (V.fn a1_fid [] [V.pro a1_c0])), (7, (I (a0.length : Int))), (8, (I x4)), (9, (V.bool (decide (x4 < (a0.length : Int)))))], [], 19⟩ :=
  rE rfl
theorem f78r3 (k : Nat) (a0 : (List Str)) (x4 : Int) (a1 : Nat → Str → Option Bool) (a1_fid : Go.FuncId) (a1_c0 : V) (a1_hok : ∀ j x0, EV j a1_fid [(V.str x0), V.pro a1_c0] = (a1 j x0).map fun b => ((V.bool b), [])) : RE k f78a3 f78o3 false ⟨[(0, (V.sl 0 1 (List.map V.str a0))), (1, (V.fn a1_fid [] [V.pro a1_c0])), (7, (I (a0.length : Int))), (8, (I x4)), (9, (V.bool true))], [], 19⟩ = some ⟨[(0, (V.sl 0 1 (List.map V.str a0))), (1, (V.fn a1_fid [] [V.pro a1_c0])), (5, (I x4)), (7, (I (a0.length : Int))), (8, (I x4))], [], 19⟩ :=
  rE rfl
theorem f78r4 (k : Nat) (a0 : (List Str)) (x4 : Int) (a1 : Nat → Str → Option Bool) (a1_fid : Go.FuncId) (a1_c0 : V) (a1_hok : ∀ j x0, EV j a1_fid [(V.str x0), V.pro a1_c0] = (a1 j x0).map fun b => ((V.bool b), [])) : RE k f78a4 f78o4 false ⟨[(0, (V.sl 0 1 (List.map V.str a0))), (1, (V.fn a1_fid [] [V.pro a1_c0])), (5, (I x4)), (7, (I (a0.length : Int))), (8, (I x4))], [], 19⟩ = (((idx a0 x4).bind fun v5 => (a1 k v5))).map (fun (o : Bool) => (⟨[(0, (V.sl 0 1 (List.map V.str a0))), (1, (V.fn a1_fid [] [V.pro a1_c0])), (5, (I x4)), (7, (I (a0.length : Int))), (8, (I x4)), (16, (V.bool o))], [], 19⟩ : St)) := by
  refine rg ?_
  refine ra 3 3 ⟨[(0, (V.sl 0 1 (List.map V.str a0))), (1, (V.fn a1_fid [] [V.pro a1_c0])), (5, (I x4)), (7, (I (a0.length : Int))), (8, (I x4)), (11, (V.fn a1_fid [] [V.pro a1_c0])), (12, (V.sl 0 1 (List.map V.str a0))), (13, (I x4))], [], 19⟩ rfl rfl rfl ?_
  refine Eq.trans (reg_pure (x := (idx a0 x4)) (w := fun v5 => (V.pro (V.str v5))) rfl rfl rfl rfl (p_index (e := V.str) rfl rfl rfl Go.Proofs.Try.underlying26 rfl (by decide))) ?_
  refine bindE (fun v5 => ?_)
  refine ba 1 5 ⟨[(0, (V.sl 0 1 (List.map V.str a0))), (1, (V.fn a1_fid [] [V.pro a1_c0])), (5, (I x4)), (7, (I (a0.length : Int))), (8, (I x4)), (11, (V.fn a1_fid [] [V.pro a1_c0])), (12, (V.sl 0 1 (List.map V.str a0))), (13, (I x4)), (14, (V.pro (V.str v5))), (15, (V.str v5))], [], 19⟩ rfl rfl rfl ?_
  refine Eq.trans (reg_pure (x := (a1 k v5)) (w := fun v6 => (V.bool v6)) rfl rfl rfl rfl (p_call rfl rfl rfl rfl rfl (a1_hok k v5) (.inl rfl))) ?_
  refine bind_self (fun v6 => ?_)
  exact bind_end rfl
theorem f78r5 (k : Nat) (a0 : (List Str)) (x4 : Int) (a1 : Nat → Str → Option Bool) (a1_fid : Go.FuncId) (a1_c0 : V) (a1_hok : ∀ j x0, EV j a1_fid [(V.str x0), V.pro a1_c0] = (a1 j x0).map fun b => ((V.bool b), [])) : RE k f78a5 f78o5 false ⟨[(0, (V.sl 0 1 (List.map V.str a0))), (1, (V.fn a1_fid [] [V.pro a1_c0])), (5, (I x4)), (7, (I (a0.length : Int))), (8, (I x4)), (16, (V.bool true))], [], 19⟩ = some ⟨[(4, (I x4))], [], 19⟩ :=
  rE rfl
theorem f78r6 (k : Nat) (a0 : (List Str)) (x4 : Int) (a1 : Nat → Str → Option Bool) (a1_fid : Go.FuncId) (a1_c0 : V) (a1_hok : ∀ j x0, EV j a1_fid [(V.str x0), V.pro a1_c0] = (a1 j x0).map fun b => ((V.bool b), [])) : RE k f78a6 f78o6 false ⟨[(0, (V.sl 0 1 (List.map V.str a0))), (1, (V.fn a1_fid [] [V.pro a1_c0])), (5, (I x4)), (7, (I (a0.length : Int))), (8, (I x4)), (16, (V.bool false))], [], 19⟩ = some ⟨[(0, (V.sl 0 1 (List.map V.str a0))), (1, (V.fn a1_fid [] [V.pro a1_c0])), (7, (I (a0.length : Int))), (8, (I (Go.IntKind.wrap .i64 (x4 + 1))))], [], 19⟩ :=
  rE rfl
theorem slices_IndexFunc_string_L1_ok (k : Nat) (a0 : (List Str)) (a1 : Nat → Str → Option Bool) (a1_fid : Go.FuncId) (a1_c0 : V) (a1_hok : ∀ j x0, EV j a1_fid [(V.str x0), V.pro a1_c0] = (a1 j x0).map fun b => ((V.bool b), [])) (K0 : Int → Option Int) (Kst : X × St → Option (V × List V)) (hK0 : ∀ (y0 : Int), Kst (X.exit 0, ⟨[(0, (V.sl 0 1 (List.map V.str a0))), (1, (V.fn a1_fid [] [V.pro a1_c0])), (7, (I (a0.length : Int))), (8, (I y0)), (9, (V.bool false))], [], 19⟩) = (K0 y0).map slices_IndexFunc_string_fin) (hret : ∀ s, Kst (X.ret, s) = endK prog 19 [(V.sl 0 1 (List.map V.str a0)), (V.fn a1_fid [] [V.pro a1_c0])] [] [.tmp 4] (X.ret, s)) :
    ∀ (m : Nat) (x4 : Int), (iter (exec prog (EV k) f78n k f78b0) m ⟨[(0, (V.sl 0 1 (List.map V.str a0))), (1, (V.fn a1_fid [] [V.pro a1_c0])), (7, (I (a0.length : Int))), (8, (I x4))], [], 19⟩).bind Kst = (slices_IndexFunc_string_L1 k a0 a1 K0 m x4).map slices_IndexFunc_string_fin := by
  intro m
  induction m with
  | zero => intros; rfl
  | succ m ih =>
    intro x4
    unfold slices_IndexFunc_string_L1
    refine Eq.trans k_round ?_
    refine Eq.trans (k_region0 rfl (f78r2 k a0 x4 a1 a1_fid a1_c0 a1_hok)) ?_
    refine Eq.trans (k_cond (t := (decide (x4 < (a0.length : Int)))) rfl rfl) ?_
    refine bifE2 (fun hc => ?_) fun hc => ?_
    · rw [hc]
      refine Eq.trans k_skip ?_
      refine Eq.trans (k_block rfl) ?_
      refine Eq.trans (k_region0 rfl (f78r3 k a0 x4 a1 a1_fid a1_c0 a1_hok)) ?_
      refine Eq.trans (k_region rfl (f78r4 k a0 x4 a1 a1_fid a1_c0 a1_hok)) ?_
      refine bindE (fun o7 => ?_)
      refine Eq.trans (k_lcond (t := o7) rfl rfl) ?_
      refine bifE2 (fun hc => ?_) fun hc => ?_
      · rw [hc]
        refine Eq.trans (k_region0 rfl (f78r5 k a0 x4 a1 a1_fid a1_c0 a1_hok)) ?_
        refine Eq.trans k_lret ?_
        refine Eq.trans blk_ret ?_
        refine Eq.trans loop_ret ?_
        refine Eq.trans (hret _) ?_
        rfl
      · rw [hc]
        refine Eq.trans k_lskip ?_
        refine Eq.trans blk_normal ?_
        refine Eq.trans (k_lregion0 rfl (f78r6 k a0 x4 a1 a1_fid a1_c0 a1_hok)) ?_
        refine Eq.trans loop_normal ?_
        exact ih (Go.IntKind.wrap .i64 (x4 + 1))
    · rw [hc]
      refine Eq.trans k_exit ?_
      refine Eq.trans loop_exit ?_
      exact hK0 x4
theorem f78r7 (k : Nat) (a0 : (List Str)) (y8 : Int) (a1 : Nat → Str → Option Bool) (a1_fid : Go.FuncId) (a1_c0 : V) (a1_hok : ∀ j x0, EV j a1_fid [(V.str x0), V.pro a1_c0] = (a1 j x0).map fun b => ((V.bool b), [])) : RE k f78a7 f78o7 false ⟨[(0, (V.sl 0 1 (List.map V.str a0))), (1, (V.fn a1_fid [] [V.pro a1_c0])), (7, (I (a0.length : Int))), (8, (I y8)), (9, (V.bool false))], [], 19⟩ = some ⟨[(4, (I (-1)))], [], 19⟩ :=
  rE rfl
theorem slices_IndexFunc_string_ok (k : Nat) (a0 : (List Str)) (a1 : Nat → Str → Option Bool) (a1_fid : Go.FuncId) (a1_c0 : V) (a1_hok : ∀ j x0, EV j a1_fid [(V.str x0), V.pro a1_c0] = (a1 j x0).map fun b => ((V.bool b), [])) : EV k 78 [(V.sl 0 1 (List.map V.str a0)), (V.fn a1_fid [] [V.pro a1_c0])] = (slices_IndexFunc_string k a0 a1).map slices_IndexFunc_string_fin := by
  cases k with
  | zero => rfl
  | succ k =>
    unfold slices_IndexFunc_string
    refine Eq.trans (evF_succ (c := f78c) (N := 19) (regs := f78n) rfl Go.Proofs.Try.func78 rfl (by decide) rfl rfl rfl) ?_
    refine Eq.trans (k_region0 rfl (f78r0 k a0 a1 a1_fid a1_c0 a1_hok)) ?_
    refine Eq.trans k_assoc ?_
    refine Eq.trans (k_region0 rfl (f78r1 k a0 a1 a1_fid a1_c0 a1_hok)) ?_
    refine Eq.trans (k_block rfl) ?_
    refine Eq.trans k_loop ?_
    refine slices_IndexFunc_string_L1_ok k a0 a1 a1_fid a1_c0 a1_hok _ _ ?h_slices_IndexFunc_string_L1_0 ?hr_slices_IndexFunc_string_L1 k 0
    · intro y8
      refine Eq.trans blk_exit ?_
      refine Eq.trans (k_region0 rfl (f78r7 k a0 y8 a1 a1_fid a1_c0 a1_hok)) ?_
      refine Eq.trans k_lret ?_
      rfl
    · intro s; exact rfl
def slices_ContainsFunc_string_fin : Bool → V × List V := fun r => ((V.bool r), [])
theorem f65r0 (k : Nat) (a0 : (List Str)) (a1 : Nat → Str → Option Bool) (a1_fid : Go.FuncId) (a1_c0 : V) (a1_hok : ∀ j x0, EV j a1_fid [(V.str x0), V.pro a1_c0] = (a1 j x0).map fun b => ((V.bool b), [])) : RE k f65a0 f65o0 false ⟨[(0, (V.sl 0 1 (List.map V.str a0))), (1, (V.fn a1_fid [] [V.pro a1_c0]))], [], 9⟩ = some ⟨[(0, (V.sl 0 1 (List.map V.str a0))), (1, (V.fn a1_fid [] [V.pro a1_c0]))], [], 9⟩ :=
  rE rfl
theorem f65r1 (k : Nat) (a0 : (List Str)) (a1 : Nat → Str → Option Bool) (a1_fid : Go.FuncId) (a1_c0 : V) (a1_hok : ∀ j x0, EV j a1_fid [(V.str x0), V.pro a1_c0] = (a1 j x0).map fun b => ((V.bool b), [])) : RE k f65a1 f65o1 false ⟨[(0, (V.sl 0 1 (List.map V.str a0))), (1, (V.fn a1_fid [] [V.pro a1_c0]))], [], 9⟩ = (((slices_IndexFunc_string k a0 a1).bind fun v1 => (some ((decide (v1 ≥ 0)))))).map (fun (o : Bool) => (⟨[(4, (V.bool o))], [], 9⟩ : St)) := by
  refine rg ?_
  refine ra 2 2 ⟨[(0, (V.sl 0 1 (List.map V.str a0))), (1, (V.fn a1_fid [] [V.pro a1_c0])), (5, (V.sl 0 1 (List.map V.str a0))), (6, (V.fn a1_fid [] [V.pro a1_c0]))], [], 9⟩ rfl rfl rfl ?_
  refine Eq.trans (reg_pure (x := (slices_IndexFunc_string k a0 a1)) (w := fun v1 => (I v1)) rfl rfl rfl rfl (p_call rfl rfl rfl rfl rfl (slices_IndexFunc_string_ok k a0 a1 a1_fid a1_c0 a1_hok) (.inl rfl))) ?_
  refine bindE (fun v1 => ?_)
  exact bind_end rfl
theorem slices_ContainsFunc_string_ok (k : Nat) (a0 : (List Str)) (a1 : Nat → Str → Option Bool) (a1_fid : Go.FuncId) (a1_c0 : V) (a1_hok : ∀ j x0, EV j a1_fid [(V.str x0), V.pro a1_c0] = (a1 j x0).map fun b => ((V.bool b), [])) : EV k 65 [(V.sl 0 1 (List.map V.str a0)), (V.fn a1_fid [] [V.pro a1_c0])] = (slices_ContainsFunc_string k a0 a1).map slices_ContainsFunc_string_fin := by
  cases k with
  | zero => rfl
  | succ k =>
    unfold slices_ContainsFunc_string
    refine Eq.trans (evF_succ (c := f65c) (N := 9) (regs := f65n) rfl Go.Proofs.Try.func65 rfl (by decide) rfl rfl rfl) ?_
    refine Eq.trans (k_region0 rfl (f65r0 k a0 a1 a1_fid a1_c0 a1_hok)) ?_
    refine Eq.trans (k_region rfl (f65r1 k a0 a1 a1_fid a1_c0 a1_hok)) ?_
    refine bindE (fun o2 => ?_)
    refine Eq.trans k_lret ?_
    rfl
def screen_fits_1_fin : Bool → V × List V := fun r => ((V.bool r), [])
theorem f69r0 (k : Nat) (a0 : Str) (a1 : T_api_Form) : RE k f69a0 f69o0 false ⟨[(0, (V.str a0)), (1, (V.pro (enc_T_api_Form a1)))], [], 14⟩ = some ⟨[(0, (V.str a0)), (1, (V.pro (enc_T_api_Form a1)))], [], 14⟩ :=
  rE rfl
theorem f69r1 (k : Nat) (a0 : Str) (a1 : T_api_Form) : RE k f69a1 f69o1 false ⟨[(0, (V.str a0)), (1, (V.pro (enc_T_api_Form a1)))], [], 14⟩ = ((bif ((a0.length : Int) != a1.fColumns) then (some (true)) else ((screen_isText k a0).bind fun v1 => (some ((!v1)))))).map (fun (o : Bool) => (⟨[(3, (V.bool o))], [], 14⟩ : St)) := by
  refine rg ?_
  refine ra 6 6 ⟨[(0, (V.str a0)), (1, (V.pro (enc_T_api_Form a1))), (4, (V.str a0)), (5, (I (a0.length : Int))), (6, (V.pro (I a1.fColumns))), (7, (I a1.fColumns)), (8, (V.bool ((a0.length : Int) != a1.fColumns))), (9, (V.bool ((a0.length : Int) != a1.fColumns)))], [], 14⟩ rfl rfl rfl ?_
  refine bifE (c := ((a0.length : Int) != a1.fColumns)) (fun hc => ?_) fun hc => ?_
  · rw [hc]
    exact reg_end rfl
  · rw [hc]
    refine ra 1 7 ⟨[(0, (V.str a0)), (1, (V.pro (enc_T_api_Form a1))), (4, (V.str a0)), (5, (I (a0.length : Int))), (6, (V.pro (I a1.fColumns))), (7, (I a1.fColumns)), (8, (V.bool false)), (9, (V.bool false)), (10, (V.str a0))], [], 14⟩ rfl rfl rfl ?_
    refine Eq.trans (reg_pure (x := (screen_isText k a0)) (w := fun v1 => (V.bool v1)) rfl rfl rfl rfl (p_call rfl rfl rfl rfl rfl (screen_isText_ok k a0) (.inl rfl))) ?_
    refine bindE (fun v1 => ?_)
    exact bind_end rfl
theorem screen_fits_1_ok (k : Nat) (a0 : Str) (a1 : T_api_Form) : EV k 69 [(V.str a0), (V.pro (enc_T_api_Form a1))] = (screen_fits_1 k a0 a1).map screen_fits_1_fin := by
  cases k with
  | zero => rfl
  | succ k =>
    unfold screen_fits_1
    refine Eq.trans (evF_succ (c := f69c) (N := 14) (regs := f69n) rfl Go.Proofs.Try.func69 rfl (by decide) rfl rfl rfl) ?_
    refine Eq.trans (k_region0 rfl (f69r0 k a0 a1)) ?_
    refine Eq.trans (k_region rfl (f69r1 k a0 a1)) ?_
    refine bindE (fun o2 => ?_)
    refine Eq.trans k_lret ?_
    rfl
def screen_fits_fin : Bool → V × List V := fun r => ((V.bool r), [])
theorem f42r0 (k : Nat) (a0 : T_api_Form) (a1 : (List Str)) : RE k f42a0 f42o0 false ⟨[(0, (enc_T_api_Form a0)), (1, (V.sl 0 1 (List.map V.str a1)))], [], 16⟩ = some ⟨[(1, (V.sl 0 1 (List.map V.str a1))), (2, (V.ptr 2 0 0))], [(2, ⟨false, 4, [(enc_T_api_Form a0)]⟩)], 16⟩ :=
  rE rfl
theorem f42r1 (k : Nat) (a0 : T_api_Form) (a1 : (List Str)) : RE k f42a1 f42o1 false ⟨[(1, (V.sl 0 1 (List.map V.str a1))), (2, (V.ptr 2 0 0))], [(2, ⟨false, 4, [(enc_T_api_Form a0)]⟩)], 16⟩ = ((bif ((a1.length : Int) == a0.fRows) then ((slices_ContainsFunc_string k a1 (fun j x0 => (screen_fits_1 j x0 a0))).bind fun v1 => (some ((!v1)))) else (some (false)))).map (fun (o : Bool) => (⟨[(4, (V.bool o))], [], 16⟩ : St)) := by
  refine rg ?_
  refine ra 1 1 ⟨[(1, (V.sl 0 1 (List.map V.str a1))), (2, (V.ptr 2 0 0)), (5, (V.sl 0 1 (List.map V.str a1)))], [(2, ⟨false, 4, [(enc_T_api_Form a0)]⟩)], 16⟩ rfl rfl rfl ?_
  refine Eq.trans (reg_pure (x := some ()) (w := fun _ => (I (a1.length : Int))) rfl rfl rfl rfl (p_len (e := V.str) rfl rfl rfl rfl rfl rfl Go.Proofs.Try.underlying26)) ?_
  refine Eq.trans some_bind ?_
  refine ba 4 6 ⟨[(1, (V.sl 0 1 (List.map V.str a1))), (2, (V.ptr 2 0 0)), (5, (V.sl 0 1 (List.map V.str a1))), (6, (I (a1.length : Int))), (7, (V.ptr 2 0 0)), (8, (I a0.fRows)), (9, (V.bool ((a1.length : Int) == a0.fRows))), (10, (V.bool ((a1.length : Int) == a0.fRows)))], [(2, ⟨false, 4, [(enc_T_api_Form a0)]⟩)], 16⟩ rfl rfl rfl ?_
  refine bifE (c := ((a1.length : Int) == a0.fRows)) (fun hc => ?_) fun hc => ?_
  · rw [hc]
    refine ra 2 8 ⟨[(1, (V.sl 0 1 (List.map V.str a1))), (2, (V.ptr 2 0 0)), (5, (V.sl 0 1 (List.map V.str a1))), (6, (I (a1.length : Int))), (7, (V.ptr 2 0 0)), (8, (I a0.fRows)), (9, (V.bool true)), (10, (V.bool true)), (11, (V.sl 0 1 (List.map V.str a1))), (12, (V.fn 69 [] [(V.ptr 2 0 0)]))], [(2, ⟨false, 4, [(enc_T_api_Form a0)]⟩)], 16⟩ rfl rfl rfl ?_
    refine Eq.trans (reg_pure (x := (slices_ContainsFunc_string k a1 (fun j x0 => (screen_fits_1 j x0 a0)))) (w := fun v1 => (V.bool v1)) rfl rfl rfl rfl (p_call rfl rfl rfl rfl rfl (slices_ContainsFunc_string_ok k a1 (fun j x0 => (screen_fits_1 j x0 a0)) 69 (enc_T_api_Form a0) (fun j x0 => (screen_fits_1_ok j x0 a0))) (.inr (fun _ => rfl)))) ?_
    refine bindE (fun v1 => ?_)
    exact bind_end rfl
  · rw [hc]
    exact reg_end rfl
theorem screen_fits_ok (k : Nat) (a0 : T_api_Form) (a1 : (List Str)) : EV k 42 [(enc_T_api_Form a0), (V.sl 0 1 (List.map V.str a1))] = (screen_fits k a0 a1).map screen_fits_fin := by
  cases k with
  | zero => rfl
  | succ k =>
    unfold screen_fits
    refine Eq.trans (evF_succ (c := f42c) (N := 16) (regs := f42n) rfl Go.Proofs.Try.func42 rfl (by decide) rfl rfl rfl) ?_
    refine Eq.trans (k_region0 rfl (f42r0 k a0 a1)) ?_
    refine Eq.trans (k_region rfl (f42r1 k a0 a1)) ?_
    refine bindE (fun o2 => ?_)
    refine Eq.trans k_lret ?_
    rfl
def screen_pictured_fin : Int → V × List V := fun r => ((I r), [])
theorem f38r0 (k : Nat) (a0 : T_api_Form) (a1 : (List Str)) : RE k f38a0 f38o0 false ⟨[(0, (enc_T_api_Form a0)), (1, (V.sl 0 1 (List.map V.str a1)))], [], 14⟩ = some ⟨[(1, (V.sl 0 1 (List.map V.str a1))), (2, (V.ptr 2 0 0))], [(2, ⟨false, 4, [(enc_T_api_Form a0)]⟩)], 14⟩ :=
  rE rfl
theorem f38r1 (k : Nat) (a0 : T_api_Form) (a1 : (List Str)) : RE k f38a1 f38o1 false ⟨[(1, (V.sl 0 1 (List.map V.str a1))), (2, (V.ptr 2 0 0))], [(2, ⟨false, 4, [(enc_T_api_Form a0)]⟩)], 14⟩ = (((screen_Valid k a0).bind fun v1 => (some ((!v1))))).map (fun (o : Bool) => (⟨[(1, (V.sl 0 1 (List.map V.str a1))), (2, (V.ptr 2 0 0)), (5, (V.bool o))], [(2, ⟨false, 4, [(enc_T_api_Form a0)]⟩)], 14⟩ : St)) := by
  refine rg ?_
  refine ra 1 1 ⟨[(1, (V.sl 0 1 (List.map V.str a1))), (2, (V.ptr 2 0 0)), (6, (enc_T_api_Form a0))], [(2, ⟨false, 4, [(enc_T_api_Form a0)]⟩)], 14⟩ rfl rfl rfl ?_
  refine Eq.trans (reg_pure (x := (screen_Valid k a0)) (w := fun v1 => (V.bool v1)) rfl rfl rfl rfl (p_call rfl rfl rfl rfl rfl (screen_Valid_ok k a0) (.inl rfl))) ?_
  refine bindE (fun v1 => ?_)
  exact bind_end rfl
theorem f38r2 (k : Nat) (a0 : T_api_Form) (a1 : (List Str)) : RE k f38a2 f38o2 false ⟨[(1, (V.sl 0 1 (List.map V.str a1))), (2, (V.ptr 2 0 0)), (5, (V.bool true))], [(2, ⟨false, 4, [(enc_T_api_Form a0)]⟩)], 14⟩ = some ⟨[(4, (I 220))], [], 14⟩ :=
  rE rfl
theorem f38r3 (k : Nat) (a0 : T_api_Form) (a1 : (List Str)) : RE k f38a3 f38o3 false ⟨[(1, (V.sl 0 1 (List.map V.str a1))), (2, (V.ptr 2 0 0)), (5, (V.bool false))], [(2, ⟨false, 4, [(enc_T_api_Form a0)]⟩)], 14⟩ = (((screen_fits k a0 a1).bind fun v3 => (some ((!v3))))).map (fun (o : Bool) => (⟨[(9, (V.bool o))], [], 14⟩ : St)) := by
  refine rg ?_
  refine ra 2 2 ⟨[(1, (V.sl 0 1 (List.map V.str a1))), (2, (V.ptr 2 0 0)), (5, (V.bool false)), (10, (enc_T_api_Form a0)), (11, (V.sl 0 1 (List.map V.str a1)))], [(2, ⟨false, 4, [(enc_T_api_Form a0)]⟩)], 14⟩ rfl rfl rfl ?_
  refine Eq.trans (reg_pure (x := (screen_fits k a0 a1)) (w := fun v3 => (V.bool v3)) rfl rfl rfl rfl (p_call rfl rfl rfl rfl rfl (screen_fits_ok k a0 a1) (.inl rfl))) ?_
  refine bindE (fun v3 => ?_)
  exact bind_end rfl
theorem f38r4 (k : Nat)  : RE k f38a4 f38o4 false ⟨[(9, (V.bool true))], [], 14⟩ = some ⟨[(4, (I 2))], [], 14⟩ :=
  rE rfl
theorem f38r5 (k : Nat)  : RE k f38a5 f38o5 false ⟨[(9, (V.bool false))], [], 14⟩ = some ⟨[(4, (I 0))], [], 14⟩ :=
  rE rfl
theorem screen_pictured_ok (k : Nat) (a0 : T_api_Form) (a1 : (List Str)) : EV k 38 [(enc_T_api_Form a0), (V.sl 0 1 (List.map V.str a1))] = (screen_pictured k a0 a1).map screen_pictured_fin := by
  cases k with
  | zero => rfl
  | succ k =>
    unfold screen_pictured
    refine Eq.trans (evF_succ (c := f38c) (N := 14) (regs := f38n) rfl Go.Proofs.Try.func38 rfl (by decide) rfl rfl rfl) ?_
    refine Eq.trans (k_region0 rfl (f38r0 k a0 a1)) ?_
    refine Eq.trans (k_block rfl) ?_
    refine Eq.trans (k_region rfl (f38r1 k a0 a1)) ?_
    refine bindE (fun o2 => ?_)
    refine Eq.trans (k_lcond (t := o2) rfl rfl) ?_
    refine bifE2 (fun hc => ?_) fun hc => ?_
    · rw [hc]
      refine Eq.trans (k_region0 rfl (f38r2 k a0 a1)) ?_
      refine Eq.trans k_lret ?_
      refine Eq.trans blk_ret ?_
      rfl
    · rw [hc]
      refine Eq.trans (k_region rfl (f38r3 k a0 a1)) ?_
      refine bindE (fun o4 => ?_)
      refine Eq.trans (k_lcond (t := o4) rfl rfl) ?_
      refine bifE2 (fun hc => ?_) fun hc => ?_
      · rw [hc]
        refine Eq.trans (k_region0 rfl (f38r4 k)) ?_
        refine Eq.trans k_lret ?_
        refine Eq.trans blk_ret ?_
        rfl
      · rw [hc]
        refine Eq.trans k_lskip ?_
        refine Eq.trans blk_normal ?_
        refine Eq.trans (k_region0 rfl (f38r5 k)) ?_
        refine Eq.trans k_lret ?_
        rfl
def screen_Take_fin : ((List Str) × Int) → V × List V := fun r => (.tup [(V.sl 0 1 (List.map V.str r.1)), (I r.2)], [])
theorem f14r0 (k : Nat) (a0 : T_api_Form) (a1 : (List Str)) : RE k f14a0 f14o0 false ⟨[(0, (enc_T_api_Form a0)), (1, (V.sl 0 1 (List.map V.str a1)))], [], 74⟩ = some ⟨[(1, (V.sl 0 1 (List.map V.str a1))), (2, (V.ptr 2 0 0))], [(2, ⟨false, 4, [(enc_T_api_Form a0)]⟩)], 74⟩ :=
  rE rfl
theorem f14r1 (k : Nat) (a0 : T_api_Form) (a1 : (List Str)) : RE k f14a1 f14o1 false ⟨[(1, (V.sl 0 1 (List.map V.str a1))), (2, (V.ptr 2 0 0))], [(2, ⟨false, 4, [(enc_T_api_Form a0)]⟩)], 74⟩ = ((screen_pictured k a0 a1)).map (fun (o : Int) => (⟨[(1, (V.sl 0 1 (List.map V.str a1))), (2, (V.ptr 2 0 0)), (6, (I o))], [(2, ⟨false, 4, [(enc_T_api_Form a0)]⟩)], 74⟩ : St)) := by
  refine rg ?_
  refine ra 2 2 ⟨[(1, (V.sl 0 1 (List.map V.str a1))), (2, (V.ptr 2 0 0)), (13, (enc_T_api_Form a0)), (14, (V.sl 0 1 (List.map V.str a1)))], [(2, ⟨false, 4, [(enc_T_api_Form a0)]⟩)], 74⟩ rfl rfl rfl ?_
  refine Eq.trans (reg_pure (x := (screen_pictured k a0 a1)) (w := fun v1 => (I v1)) rfl rfl rfl rfl (p_call rfl rfl rfl rfl rfl (screen_pictured_ok k a0 a1) (.inl rfl))) ?_
  refine bind_self (fun v1 => ?_)
  exact bind_end rfl
theorem f14r2 (k : Nat) (a0 : T_api_Form) (a1 : (List Str)) (o2 : Int) : RE k f14a2 f14o2 false ⟨[(1, (V.sl 0 1 (List.map V.str a1))), (2, (V.ptr 2 0 0)), (6, (I o2))], [(2, ⟨false, 4, [(enc_T_api_Form a0)]⟩)], 74⟩ = some ⟨[(1, (V.sl 0 1 (List.map V.str a1))), (2, (V.ptr 2 0 0)), (6, (I o2)), (17, (V.bool (o2 != 0)))], [(2, ⟨false, 4, [(enc_T_api_Form a0)]⟩)], 74⟩ :=
  rE rfl
theorem f14r3 (k : Nat) (a0 : T_api_Form) (a1 : (List Str)) (o2 : Int) : RE k f14a3 f14o3 false ⟨[(1, (V.sl 0 1 (List.map V.str a1))), (2, (V.ptr 2 0 0)), (6, (I o2)), (17, (V.bool true))], [(2, ⟨false, 4, [(enc_T_api_Form a0)]⟩)], 74⟩ = some ⟨[(4, (V.sl 0 1 (List.map V.str ([] : List Str)))), (5, (I o2))], [], 74⟩ :=
  rE rfl
theorem f14r4 (k : Nat) (a0 : T_api_Form) (a1 : (List Str)) (o2 : Int) : RE k f14a4 f14o4 false ⟨[(1, (V.sl 0 1 (List.map V.str a1))), (2, (V.ptr 2 0 0)), (6, (I o2)), (17, (V.bool false))], [(2, ⟨false, 4, [(enc_T_api_Form a0)]⟩)], 74⟩ = (((screen_lengths k a0).bind fun v3 => (some (v3.1)))).map (fun (o : Int) => (⟨[(1, (V.sl 0 1 (List.map V.str a1))), (2, (V.ptr 2 0 0)), (7, (I o))], [(2, ⟨false, 4, [(enc_T_api_Form a0)]⟩)], 74⟩ : St)) := by
  refine rg ?_
  refine ra 1 1 ⟨[(1, (V.sl 0 1 (List.map V.str a1))), (2, (V.ptr 2 0 0)), (6, (I o2)), (17, (V.bool false)), (20, (enc_T_api_Form a0))], [(2, ⟨false, 4, [(enc_T_api_Form a0)]⟩)], 74⟩ rfl rfl rfl ?_
  refine Eq.trans (reg_pure (x := (screen_lengths k a0)) (w := fun v3 => (V.tup [(I v3.1), (I v3.2)])) rfl rfl rfl rfl (p_call rfl rfl rfl rfl rfl (screen_lengths_ok k a0) (.inl rfl))) ?_
  refine bindE (fun v3 => ?_)
  exact bind_end rfl
theorem f14r5 (k : Nat) (a0 : T_api_Form) (a1 : (List Str)) (o4 : Int) : RE k f14a5 f14o5 false ⟨[(1, (V.sl 0 1 (List.map V.str a1))), (2, (V.ptr 2 0 0)), (7, (I o4))], [(2, ⟨false, 4, [(enc_T_api_Form a0)]⟩)], 74⟩ = ((mkN [] o4)).map (fun (o : (List Str)) => (⟨[(1, (V.sl 0 1 (List.map V.str a1))), (2, (V.ptr 2 0 0)), (9, (V.aref 25 0 (List.map V.str o).length)), (25, (V.aref 25 0 (List.map V.str o).length))], [(2, ⟨false, 4, [(enc_T_api_Form a0)]⟩), (25, ⟨true, 1, List.map V.str o⟩)], 74⟩ : St)) := by
  refine rg ?_
  refine ra 1 1 ⟨[(1, (V.sl 0 1 (List.map V.str a1))), (2, (V.ptr 2 0 0)), (7, (I o4)), (24, (I o4))], [(2, ⟨false, 4, [(enc_T_api_Form a0)]⟩)], 74⟩ rfl rfl rfl ?_
  refine Eq.trans (reg_eff (x := (mkN [] o4)) (w := fun v5 => ((V.sl 2 1 (List.map V.str v5)), _)) rfl rfl rfl rfl (p_makeS (e := V.str) (z := []) rfl rfl rfl rfl Go.Proofs.Try.underlying26 (of_decide_eq_true rfl) rfl rfl rfl rfl)) ?_
  refine bind_self (fun v5 => ?_)
  exact bind_end rfl
theorem f14r6 (k : Nat) (a0 : T_api_Form) (a1 : (List Str)) (o6 : (List Str)) : RE k f14a6 f14o6 false ⟨[(1, (V.sl 0 1 (List.map V.str a1))), (2, (V.ptr 2 0 0)), (9, (V.aref 25 0 (List.map V.str o6).length)), (25, (V.aref 25 0 (List.map V.str o6).length))], [(2, ⟨false, 4, [(enc_T_api_Form a0)]⟩), (25, ⟨true, 1, List.map V.str o6⟩)], 74⟩ = some ⟨[(1, (V.sl 0 1 (List.map V.str a1))), (9, (V.aref 25 0 (List.map V.str o6).length)), (25, (V.aref 25 0 (List.map V.str o6).length)), (27, (sSlot (a0.fFields))), (28, (I (a0.fFields.length : Int))), (29, (I 0))], [(25, ⟨true, 1, List.map V.str o6⟩)], 74⟩ := by
  refine rg ?_
  refine ra 2 2 ⟨[(1, (V.sl 0 1 (List.map V.str a1))), (2, (V.ptr 2 0 0)), (9, (V.aref 25 0 (List.map V.str o6).length)), (25, (V.aref 25 0 (List.map V.str o6).length)), (26, (V.ptr 2 0 3)), (27, (sSlot (a0.fFields)))], [(2, ⟨false, 4, [(enc_T_api_Form a0)]⟩), (25, ⟨true, 1, List.map V.str o6⟩)], 74⟩ rfl rfl rfl ?_
  refine Eq.trans (reg_pure (x := some ()) (w := fun _ => (I (a0.fFields.length : Int))) rfl rfl rfl rfl (p_len (e := enc_T_api_Slot) rfl rfl rfl rfl rfl rfl Go.Proofs.Try.underlying23)) ?_
  refine Eq.trans some_bind ?_
  exact bind_end rfl
theorem f14r7 (k : Nat) (a0 : T_api_Form) (a1 : (List Str)) (x25 : Int) (x26 : (List Str)) : RE k f14a7 f14o7 false ⟨[(1, (V.sl 0 1 (List.map V.str a1))), (9, (V.aref 25 0 (List.map V.str x26).length)), (25, (V.aref 25 0 (List.map V.str x26).length)), (27, (sSlot (a0.fFields))), (28, (I (a0.fFields.length : Int))), (29, (I x25))], [(25, ⟨true, 1, List.map V.str x26⟩)], 74⟩ = some ⟨[(1, (V.sl 0 1 (List.map V.str a1))), (9, (V.aref 25 0 (List.map V.str x26).length)), (25, (V.aref 25 0 (List.map V.str x26).length)), (27, (sSlot (a0.fFields))), (28, (I (a0.fFields.length : Int))), (29, (I x25)), (30, (V.bool (decide (x25 < (a0.fFields.length : Int)))))], [(25, ⟨true, 1, List.map V.str x26⟩)], 74⟩ :=
  rE rfl
theorem f14r8 (k : Nat) (a0 : T_api_Form) (a1 : (List Str)) (x25 : Int) (x26 : (List Str)) : RE k f14a8 f14o8 false ⟨[(1, (V.sl 0 1 (List.map V.str a1))), (9, (V.aref 25 0 (List.map V.str x26).length)), (25, (V.aref 25 0 (List.map V.str x26).length)), (27, (sSlot (a0.fFields))), (28, (I (a0.fFields.length : Int))), (29, (I x25)), (30, (V.bool true))], [(25, ⟨true, 1, List.map V.str x26⟩)], 74⟩ = ((idx a0.fFields x25)).map (fun (o : T_api_Slot) => (⟨[(1, (V.sl 0 1 (List.map V.str a1))), (9, (V.aref 25 0 (List.map V.str x26).length)), (11, (V.ptr 11 0 0)), (25, (V.aref 25 0 (List.map V.str x26).length)), (27, (sSlot (a0.fFields))), (28, (I (a0.fFields.length : Int))), (29, (I x25))], [(11, ⟨false, 7, [(enc_T_api_Slot o)]⟩), (25, ⟨true, 1, List.map V.str x26⟩)], 74⟩ : St)) := by
  refine rg ?_
  refine Eq.trans (reg_pure (x := (idx a0.fFields x25)) (w := fun v27 => (V.pro (enc_T_api_Slot v27))) rfl rfl rfl rfl (p_index (e := enc_T_api_Slot) rfl rfl rfl Go.Proofs.Try.underlying23 rfl (by decide))) ?_
  refine bind_self (fun v27 => ?_)
  exact bind_end rfl
theorem f14r9 (k : Nat) (a0 : T_api_Form) (a1 : (List Str)) (x25 : Int) (x26 : (List Str)) (o28 : T_api_Slot) : RE k f14a9 f14o9 false ⟨[(1, (V.sl 0 1 (List.map V.str a1))), (9, (V.aref 25 0 (List.map V.str x26).length)), (11, (V.ptr 11 0 0)), (25, (V.aref 25 0 (List.map V.str x26).length)), (27, (sSlot (a0.fFields))), (28, (I (a0.fFields.length : Int))), (29, (I x25))], [(11, ⟨false, 7, [(enc_T_api_Slot o28)]⟩), (25, ⟨true, 1, List.map V.str x26⟩)], 74⟩ = some ⟨[(1, (V.sl 0 1 (List.map V.str a1))), (9, (V.aref 25 0 (List.map V.str x26).length)), (11, (V.ptr 11 0 0)), (25, (V.aref 25 0 (List.map V.str x26).length)), (27, (sSlot (a0.fFields))), (28, (I (a0.fFields.length : Int))), (29, (I x25)), (35, (V.bool (decide (o28.fIn < 0))))], [(11, ⟨false, 7, [(enc_T_api_Slot o28)]⟩), (25, ⟨true, 1, List.map V.str x26⟩)], 74⟩ :=
  rE rfl
theorem f14r14 (k : Nat) (a0 : T_api_Form) (a1 : (List Str)) (x25 : Int) (x26 : (List Str)) (o28 : T_api_Slot) : RE k f14a14 f14o14 false ⟨[(1, (V.sl 0 1 (List.map V.str a1))), (9, (V.aref 25 0 (List.map V.str x26).length)), (11, (V.ptr 11 0 0)), (25, (V.aref 25 0 (List.map V.str x26).length)), (27, (sSlot (a0.fFields))), (28, (I (a0.fFields.length : Int))), (29, (I x25)), (35, (V.bool true))], [(11, ⟨false, 7, [(enc_T_api_Slot o28)]⟩), (25, ⟨true, 1, List.map V.str x26⟩)], 74⟩ = some ⟨[(1, (V.sl 0 1 (List.map V.str a1))), (9, (V.aref 25 0 (List.map V.str x26).length)), (25, (V.aref 25 0 (List.map V.str x26).length)), (27, (sSlot (a0.fFields))), (28, (I (a0.fFields.length : Int))), (29, (I (Go.IntKind.wrap .i64 (x25 + 1))))], [(25, ⟨true, 1, List.map V.str x26⟩)], 74⟩ :=
  rE rfl
theorem f14r10 (k : Nat) (a0 : T_api_Form) (a1 : (List Str)) (x25 : Int) (x26 : (List Str)) (o28 : T_api_Slot) : RE k f14a10 f14o10 true ⟨[(1, (V.sl 0 1 (List.map V.str a1))), (9, (V.aref 25 0 (List.map V.str x26).length)), (11, (V.ptr 11 0 0)), (25, (V.aref 25 0 (List.map V.str x26).length)), (27, (sSlot (a0.fFields))), (28, (I (a0.fFields.length : Int))), (29, (I x25)), (35, (V.bool false))], [(11, ⟨false, 7, [(enc_T_api_Slot o28)]⟩), (25, ⟨true, 1, List.map V.str x26⟩)], 74⟩ = (((idx a1 o28.fRow).bind fun v29 => (cut v29 o28.fColumn (Go.IntKind.wrap .i64 (o28.fColumn + o28.fBytes))))).map (fun (o : Str) => (⟨[(1, (V.sl 0 1 (List.map V.str a1))), (9, (V.aref 25 0 (List.map V.str x26).length)), (11, (V.ptr 11 0 0)), (12, (V.str o)), (25, (V.aref 25 0 (List.map V.str x26).length)), (27, (sSlot (a0.fFields))), (28, (I (a0.fFields.length : Int))), (29, (I x25))], [(11, ⟨false, 7, [(enc_T_api_Slot o28)]⟩), (25, ⟨true, 1, List.map V.str x26⟩)], 74⟩ : St)) := by
  refine Eq.trans (regionE_regp (p := 14) (dk := true) (t := [(1, (V.sl 0 1 (List.map V.str a1))), (9, (V.aref 25 0 (List.map V.str x26).length)), (11, (V.ptr 11 0 0)), (25, (V.aref 25 0 (List.map V.str x26).length)), (27, (sSlot (a0.fFields))), (28, (I (a0.fFields.length : Int))), (29, (I x25)), (35, (V.bool false))]) (σ := [(11, ⟨false, 7, [(enc_T_api_Slot o28)]⟩), (25, ⟨true, 1, List.map V.str x26⟩)]) (n := 74) (by decide) (by decide) rfl) ?_
  refine Eq.trans (regp_adv (m := 3) (j := 3) (t' := [(1, (V.sl 0 1 (List.map V.str a1))), (9, (V.aref 25 0 (List.map V.str x26).length)), (11, (V.ptr 11 0 0)), (25, (V.aref 25 0 (List.map V.str x26).length)), (27, (sSlot (a0.fFields))), (28, (I (a0.fFields.length : Int))), (29, (I x25)), (35, (V.bool false)), (36, (V.sl 0 1 (List.map V.str a1))), (37, (V.ptr 11 0 1)), (38, (I o28.fRow))]) rfl rfl rfl) ?_
  refine Eq.trans (regp_pure (x := (idx a1 o28.fRow)) (w := fun v29 => (V.pro (V.str v29))) rfl rfl rfl rfl rfl (p_index (e := V.str) rfl rfl rfl Go.Proofs.Try.underlying26 rfl (by decide))) ?_
  refine bindE (fun v29 => ?_)
  refine Eq.trans (putp_adv (m := 8) (j := 12) (t' := [(1, (V.sl 0 1 (List.map V.str a1))), (9, (V.aref 25 0 (List.map V.str x26).length)), (11, (V.ptr 11 0 0)), (25, (V.aref 25 0 (List.map V.str x26).length)), (27, (sSlot (a0.fFields))), (28, (I (a0.fFields.length : Int))), (29, (I x25)), (35, (V.bool false)), (36, (V.sl 0 1 (List.map V.str a1))), (37, (V.ptr 11 0 1)), (38, (I o28.fRow)), (39, (V.pro (V.str v29))), (40, (V.str v29)), (41, (V.ptr 11 0 2)), (42, (I o28.fColumn)), (43, (V.ptr 11 0 2)), (44, (I o28.fColumn)), (45, (V.ptr 11 0 3)), (46, (I o28.fBytes)), (47, (I (Go.IntKind.wrap .i64 (o28.fColumn + o28.fBytes))))]) rfl rfl rfl) ?_
  refine Eq.trans (regp_pure (x := (cut v29 o28.fColumn (Go.IntKind.wrap .i64 (o28.fColumn + o28.fBytes)))) (w := fun v30 => (V.str v30)) rfl rfl rfl rfl rfl (p_sliceS rfl rfl rfl rfl rfl rfl Go.Proofs.Try.underlying9)) ?_
  refine bind_self (fun v30 => ?_)
  exact regp_end rfl
theorem f14r11 (k : Nat) (a0 : T_api_Form) (a1 : (List Str)) (x25 : Int) (x26 : (List Str)) (o28 : T_api_Slot) (x36 : Str) : RE k f14a11 f14o11 true ⟨[(1, (V.sl 0 1 (List.map V.str a1))), (9, (V.aref 25 0 (List.map V.str x26).length)), (11, (V.ptr 11 0 0)), (12, (V.str x36)), (25, (V.aref 25 0 (List.map V.str x26).length)), (27, (sSlot (a0.fFields))), (28, (I (a0.fFields.length : Int))), (29, (I x25))], [(11, ⟨false, 7, [(enc_T_api_Slot o28)]⟩), (25, ⟨true, 1, List.map V.str x26⟩)], 74⟩ = ((bif (decide ((x36.length : Int) > 0)) then ((idxS x36 (Go.IntKind.wrap .i64 ((x36.length : Int) - 1))).bind fun v37 => (some ((v37 == o28.fFill)))) else (some (false)))).map (fun (o : Bool) => (⟨[(1, (V.sl 0 1 (List.map V.str a1))), (9, (V.aref 25 0 (List.map V.str x26).length)), (11, (V.ptr 11 0 0)), (12, (V.str x36)), (25, (V.aref 25 0 (List.map V.str x26).length)), (27, (sSlot (a0.fFields))), (28, (I (a0.fFields.length : Int))), (29, (I x25)), (61, (V.bool o))], [(11, ⟨false, 7, [(enc_T_api_Slot o28)]⟩), (25, ⟨true, 1, List.map V.str x26⟩)], 74⟩ : St)) := by
  refine Eq.trans (regionE_regp (p := 13) (dk := true) (t := [(1, (V.sl 0 1 (List.map V.str a1))), (9, (V.aref 25 0 (List.map V.str x26).length)), (11, (V.ptr 11 0 0)), (12, (V.str x36)), (25, (V.aref 25 0 (List.map V.str x26).length)), (27, (sSlot (a0.fFields))), (28, (I (a0.fFields.length : Int))), (29, (I x25))]) (σ := [(11, ⟨false, 7, [(enc_T_api_Slot o28)]⟩), (25, ⟨true, 1, List.map V.str x26⟩)]) (n := 74) (by decide) (by decide) rfl) ?_
  refine Eq.trans (regp_adv (m := 4) (j := 4) (t' := [(1, (V.sl 0 1 (List.map V.str a1))), (9, (V.aref 25 0 (List.map V.str x26).length)), (11, (V.ptr 11 0 0)), (12, (V.str x36)), (25, (V.aref 25 0 (List.map V.str x26).length)), (27, (sSlot (a0.fFields))), (28, (I (a0.fFields.length : Int))), (29, (I x25)), (49, (V.str x36)), (50, (I (x36.length : Int))), (51, (V.bool (decide ((x36.length : Int) > 0)))), (52, (V.bool (decide ((x36.length : Int) > 0))))]) rfl rfl rfl) ?_
  refine bifE (c := (decide ((x36.length : Int) > 0))) (fun hc => ?_) fun hc => ?_
  · rw [hc]
    refine Eq.trans (regp_adv (m := 4) (j := 8) (t' := [(1, (V.sl 0 1 (List.map V.str a1))), (9, (V.aref 25 0 (List.map V.str x26).length)), (11, (V.ptr 11 0 0)), (12, (V.str x36)), (25, (V.aref 25 0 (List.map V.str x26).length)), (27, (sSlot (a0.fFields))), (28, (I (a0.fFields.length : Int))), (29, (I x25)), (49, (V.str x36)), (50, (I (x36.length : Int))), (51, (V.bool true)), (52, (V.bool true)), (53, (V.str x36)), (54, (V.str x36)), (55, (I (x36.length : Int))), (56, (I (Go.IntKind.wrap .i64 ((x36.length : Int) - 1))))]) rfl rfl rfl) ?_
    refine Eq.trans (regp_pure (x := (idxS x36 (Go.IntKind.wrap .i64 ((x36.length : Int) - 1)))) (w := fun v37 => (V.int .u8 v37)) rfl rfl rfl rfl rfl (p_indexS rfl rfl rfl Go.Proofs.Try.underlying9)) ?_
    refine bindE (fun v37 => ?_)
    exact regp_end rfl
  · rw [hc]
    exact regp_end rfl
theorem f14r12 (k : Nat) (a0 : T_api_Form) (a1 : (List Str)) (x25 : Int) (x26 : (List Str)) (o28 : T_api_Slot) (x36 : Str) : RE k f14a12 f14o12 false ⟨[(1, (V.sl 0 1 (List.map V.str a1))), (9, (V.aref 25 0 (List.map V.str x26).length)), (11, (V.ptr 11 0 0)), (12, (V.str x36)), (25, (V.aref 25 0 (List.map V.str x26).length)), (27, (sSlot (a0.fFields))), (28, (I (a0.fFields.length : Int))), (29, (I x25)), (61, (V.bool true))], [(11, ⟨false, 7, [(enc_T_api_Slot o28)]⟩), (25, ⟨true, 1, List.map V.str x26⟩)], 74⟩ = ((cut x36 0 (Go.IntKind.wrap .i64 ((x36.length : Int) - 1)))).map (fun (o : Str) => (⟨[(1, (V.sl 0 1 (List.map V.str a1))), (9, (V.aref 25 0 (List.map V.str x26).length)), (11, (V.ptr 11 0 0)), (12, (V.str o)), (25, (V.aref 25 0 (List.map V.str x26).length)), (27, (sSlot (a0.fFields))), (28, (I (a0.fFields.length : Int))), (29, (I x25))], [(11, ⟨false, 7, [(enc_T_api_Slot o28)]⟩), (25, ⟨true, 1, List.map V.str x26⟩)], 74⟩ : St)) := by
  refine rg ?_
  refine ra 4 4 ⟨[(1, (V.sl 0 1 (List.map V.str a1))), (9, (V.aref 25 0 (List.map V.str x26).length)), (11, (V.ptr 11 0 0)), (12, (V.str x36)), (25, (V.aref 25 0 (List.map V.str x26).length)), (27, (sSlot (a0.fFields))), (28, (I (a0.fFields.length : Int))), (29, (I x25)), (61, (V.bool true)), (62, (V.str x36)), (63, (V.str x36)), (64, (I (x36.length : Int))), (65, (I (Go.IntKind.wrap .i64 ((x36.length : Int) - 1))))], [(11, ⟨false, 7, [(enc_T_api_Slot o28)]⟩), (25, ⟨true, 1, List.map V.str x26⟩)], 74⟩ rfl rfl rfl ?_
  refine Eq.trans (reg_pure (x := (cut x36 0 (Go.IntKind.wrap .i64 ((x36.length : Int) - 1)))) (w := fun v39 => (V.str v39)) rfl rfl rfl rfl (p_sliceS rfl rfl rfl rfl rfl rfl Go.Proofs.Try.underlying9)) ?_
  refine bind_self (fun v39 => ?_)
  exact bind_end rfl
theorem screen_Take_L2_ok (k : Nat) (a0 : T_api_Form) (a1 : (List Str)) (x25 : Int) (x26 : (List Str)) (o28 : T_api_Slot)  (K0 : Str → Option ((List Str) × Int)) (Kst : X × St → Option (V × List V)) (hK0 : ∀ (y0 : Str), Kst (X.exit 2, ⟨[(1, (V.sl 0 1 (List.map V.str a1))), (9, (V.aref 25 0 (List.map V.str x26).length)), (11, (V.ptr 11 0 0)), (12, (V.str y0)), (25, (V.aref 25 0 (List.map V.str x26).length)), (27, (sSlot (a0.fFields))), (28, (I (a0.fFields.length : Int))), (29, (I x25)), (61, (V.bool false))], [(11, ⟨false, 7, [(enc_T_api_Slot o28)]⟩), (25, ⟨true, 1, List.map V.str x26⟩)], 74⟩) = (K0 y0).map screen_Take_fin) (hret : ∀ s, Kst (X.ret, s) = endK prog 74 [(enc_T_api_Form a0), (V.sl 0 1 (List.map V.str a1))] [] [.tmp 4, .tmp 5] (X.ret, s)) :
    ∀ (m : Nat) (x36 : Str), (iter (exec prog (EV k) f14n k f14b0) m ⟨[(1, (V.sl 0 1 (List.map V.str a1))), (9, (V.aref 25 0 (List.map V.str x26).length)), (11, (V.ptr 11 0 0)), (12, (V.str x36)), (25, (V.aref 25 0 (List.map V.str x26).length)), (27, (sSlot (a0.fFields))), (28, (I (a0.fFields.length : Int))), (29, (I x25))], [(11, ⟨false, 7, [(enc_T_api_Slot o28)]⟩), (25, ⟨true, 1, List.map V.str x26⟩)], 74⟩).bind Kst = (screen_Take_L2 o28 K0 m x36).map screen_Take_fin := by
  intro m
  induction m with
  | zero => intros; rfl
  | succ m ih =>
    intro x36
    unfold screen_Take_L2
    refine Eq.trans k_round ?_
    refine Eq.trans k_assoc ?_
    refine Eq.trans (k_region rfl (f14r11 k a0 a1 x25 x26 o28 x36)) ?_
    refine bindE (fun o38 => ?_)
    refine Eq.trans (k_cond (t := o38) rfl rfl) ?_
    refine bifE2 (fun hc => ?_) fun hc => ?_
    · rw [hc]
      refine Eq.trans k_skip ?_
      refine Eq.trans (k_lblock rfl) ?_
      refine Eq.trans (k_lregion rfl (f14r12 k a0 a1 x25 x26 o28 x36)) ?_
      refine bindE (fun o40 => ?_)
      refine Eq.trans blk_normal ?_
      refine Eq.trans k_lskip ?_
      refine Eq.trans loop_normal ?_
      exact ih o40
    · rw [hc]
      refine Eq.trans k_exit ?_
      refine Eq.trans loop_exit ?_
      exact hK0 x36
theorem f14r13 (k : Nat) (a0 : T_api_Form) (a1 : (List Str)) (x25 : Int) (x26 : (List Str)) (o28 : T_api_Slot) (y41 : Str) : RE k f14a13 f14o13 false ⟨[(1, (V.sl 0 1 (List.map V.str a1))), (9, (V.aref 25 0 (List.map V.str x26).length)), (11, (V.ptr 11 0 0)), (12, (V.str y41)), (25, (V.aref 25 0 (List.map V.str x26).length)), (27, (sSlot (a0.fFields))), (28, (I (a0.fFields.length : Int))), (29, (I x25)), (61, (V.bool false))], [(11, ⟨false, 7, [(enc_T_api_Slot o28)]⟩), (25, ⟨true, 1, List.map V.str x26⟩)], 74⟩ = (((inB x26.length o28.fIn).bind fun v42 => ((x26[0 + o28.fIn.toNat]?).bind fun v43 => (some ((x26.set (0 + o28.fIn.toNat) y41)))))).map (fun (o : (List Str)) => (⟨[(1, (V.sl 0 1 (List.map V.str a1))), (9, (V.aref 25 0 (List.map V.str o).length)), (25, (V.aref 25 0 (List.map V.str o).length)), (27, (sSlot (a0.fFields))), (28, (I (a0.fFields.length : Int))), (29, (I x25))], [(25, ⟨true, 1, List.map V.str o⟩)], 74⟩ : St)) := by
  refine rg ?_
  refine ra 4 4 ⟨[(1, (V.sl 0 1 (List.map V.str a1))), (9, (V.aref 25 0 (List.map V.str x26).length)), (11, (V.ptr 11 0 0)), (12, (V.str y41)), (25, (V.aref 25 0 (List.map V.str x26).length)), (27, (sSlot (a0.fFields))), (28, (I (a0.fFields.length : Int))), (29, (I x25)), (61, (V.bool false)), (67, (V.aref 25 0 (List.map V.str x26).length)), (68, (V.ptr 11 0 4)), (69, (I o28.fIn)), (70, (V.str y41))], [(11, ⟨false, 7, [(enc_T_api_Slot o28)]⟩), (25, ⟨true, 1, List.map V.str x26⟩)], 74⟩ rfl rfl rfl ?_
  refine Eq.trans (reg_pure (x := (inB x26.length o28.fIn)) (w := fun v42 => (V.ptr 25 (0 + o28.fIn.toNat) 0)) rfl rfl rfl rfl (p_indexF (e := V.str) rfl rfl rfl Go.Proofs.Try.underlying26 rfl rfl (by decide))) ?_
  refine bindE (fun v42 => ?_)
  refine ba 0 5 ⟨[(1, (V.sl 0 1 (List.map V.str a1))), (9, (V.aref 25 0 (List.map V.str x26).length)), (11, (V.ptr 11 0 0)), (12, (V.str y41)), (25, (V.aref 25 0 (List.map V.str x26).length)), (27, (sSlot (a0.fFields))), (28, (I (a0.fFields.length : Int))), (29, (I x25)), (61, (V.bool false)), (67, (V.aref 25 0 (List.map V.str x26).length)), (68, (V.ptr 11 0 4)), (69, (I o28.fIn)), (70, (V.str y41)), (71, (V.ptr 25 (0 + o28.fIn.toNat) 0))], [(11, ⟨false, 7, [(enc_T_api_Slot o28)]⟩), (25, ⟨true, 1, List.map V.str x26⟩)], 74⟩ rfl rfl rfl ?_
  refine Eq.trans (reg_eff (x := (x26[0 + o28.fIn.toNat]?)) (w := fun _ => (V.tup [], _)) rfl rfl rfl rfl (p_storeL (S := (fun n_ => ⟨[(1, (V.sl 0 1 (List.map V.str a1))), (9, (V.aref 25 0 n_)), (11, (V.ptr 11 0 0)), (12, (V.str y41)), (25, (V.aref 25 0 n_)), (27, (sSlot (a0.fFields))), (28, (I (a0.fFields.length : Int))), (29, (I x25)), (61, (V.bool false)), (67, (V.aref 25 0 n_)), (68, (V.ptr 11 0 4)), (69, (I o28.fIn)), (70, (V.str y41)), (71, (V.ptr 25 (0 + o28.fIn.toNat) 0))], [(11, ⟨false, 7, [(enc_T_api_Slot o28)]⟩), (25, ⟨true, 1, List.map V.str x26⟩)], 74⟩)) (e := V.str) (l := x26) (v := y41) rfl rfl rfl rfl rfl rfl rfl rfl rfl rfl (fun _ => rfl))) ?_
  refine bindE (fun v43 => ?_)
  exact bind_end rfl
theorem screen_Take_r14' (k : Nat) (a0 : T_api_Form) (a1 : (List Str)) (x25 : Int) (o44 : (List Str)) : RE k f14a14 f14o14 false ⟨[(1, (V.sl 0 1 (List.map V.str a1))), (9, (V.aref 25 0 (List.map V.str o44).length)), (25, (V.aref 25 0 (List.map V.str o44).length)), (27, (sSlot (a0.fFields))), (28, (I (a0.fFields.length : Int))), (29, (I x25))], [(25, ⟨true, 1, List.map V.str o44⟩)], 74⟩ = some ⟨[(1, (V.sl 0 1 (List.map V.str a1))), (9, (V.aref 25 0 (List.map V.str o44).length)), (25, (V.aref 25 0 (List.map V.str o44).length)), (27, (sSlot (a0.fFields))), (28, (I (a0.fFields.length : Int))), (29, (I (Go.IntKind.wrap .i64 (x25 + 1))))], [(25, ⟨true, 1, List.map V.str o44⟩)], 74⟩ :=
  rE rfl
theorem screen_Take_L1_ok (k : Nat) (a0 : T_api_Form) (a1 : (List Str))  (K0 : Int → (List Str) → Option ((List Str) × Int)) (Kst : X × St → Option (V × List V)) (hK0 : ∀ (y0 : Int) (y1 : (List Str)), Kst (X.exit 0, ⟨[(1, (V.sl 0 1 (List.map V.str a1))), (9, (V.aref 25 0 (List.map V.str y1).length)), (25, (V.aref 25 0 (List.map V.str y1).length)), (27, (sSlot (a0.fFields))), (28, (I (a0.fFields.length : Int))), (29, (I y0)), (30, (V.bool false))], [(25, ⟨true, 1, List.map V.str y1⟩)], 74⟩) = (K0 y0 y1).map screen_Take_fin) (hret : ∀ s, Kst (X.ret, s) = endK prog 74 [(enc_T_api_Form a0), (V.sl 0 1 (List.map V.str a1))] [] [.tmp 4, .tmp 5] (X.ret, s)) :
    ∀ (m : Nat) (x25 : Int) (x26 : (List Str)), (iter (exec prog (EV k) f14n k f14b1) m ⟨[(1, (V.sl 0 1 (List.map V.str a1))), (9, (V.aref 25 0 (List.map V.str x26).length)), (25, (V.aref 25 0 (List.map V.str x26).length)), (27, (sSlot (a0.fFields))), (28, (I (a0.fFields.length : Int))), (29, (I x25))], [(25, ⟨true, 1, List.map V.str x26⟩)], 74⟩).bind Kst = (screen_Take_L1 k a0 a1 K0 m x25 x26).map screen_Take_fin := by
  intro m
  induction m with
  | zero => intros; rfl
  | succ m ih =>
    intro x25 x26
    unfold screen_Take_L1
    refine Eq.trans k_round ?_
    refine Eq.trans (k_region0 rfl (f14r7 k a0 a1 x25 x26)) ?_
    refine Eq.trans (k_cond (t := (decide (x25 < (a0.fFields.length : Int)))) rfl rfl) ?_
    refine bifE2 (fun hc => ?_) fun hc => ?_
    · rw [hc]
      refine Eq.trans k_skip ?_
      refine Eq.trans (k_block rfl) ?_
      refine Eq.trans (k_region rfl (f14r8 k a0 a1 x25 x26)) ?_
      refine bindE (fun o28 => ?_)
      refine Eq.trans k_assoc ?_
      refine Eq.trans (k_region0 rfl (f14r9 k a0 a1 x25 x26 o28)) ?_
      refine Eq.trans (k_cond (t := (decide (o28.fIn < 0))) rfl rfl) ?_
      refine bifE2 (fun hc => ?_) fun hc => ?_
      · rw [hc]
        refine Eq.trans k_exit ?_
        refine Eq.trans blk_exit ?_
        refine Eq.trans (k_lregion0 rfl (f14r14 k a0 a1 x25 x26 o28)) ?_
        refine Eq.trans loop_normal ?_
        exact ih (Go.IntKind.wrap .i64 (x25 + 1)) x26
      · rw [hc]
        refine Eq.trans k_skip ?_
        refine Eq.trans (k_region rfl (f14r10 k a0 a1 x25 x26 o28)) ?_
        refine bindE (fun o31 => ?_)
        refine Eq.trans (k_block rfl) ?_
        refine Eq.trans k_loop ?_
        refine screen_Take_L2_ok k a0 a1 x25 x26 o28 _ _ ?h_screen_Take_L2_0 ?hr_screen_Take_L2 k o31
        · intro y41
          refine Eq.trans blk_exit ?_
          refine Eq.trans (k_lregion rfl (f14r13 k a0 a1 x25 x26 o28 y41)) ?_
          refine bindE (fun o44 => ?_)
          refine Eq.trans blk_normal ?_
          refine Eq.trans (k_lregion0 rfl (screen_Take_r14' k a0 a1 x25 o44)) ?_
          refine Eq.trans loop_normal ?_
          exact ih (Go.IntKind.wrap .i64 (x25 + 1)) o44
        · intro s; exact hret s
    · rw [hc]
      refine Eq.trans k_exit ?_
      refine Eq.trans loop_exit ?_
      exact hK0 x25 x26
theorem f14r15 (k : Nat) (a0 : T_api_Form) (a1 : (List Str)) (y45 : Int) (y46 : (List Str)) : RE k f14a15 f14o15 false ⟨[(1, (V.sl 0 1 (List.map V.str a1))), (9, (V.aref 25 0 (List.map V.str y46).length)), (25, (V.aref 25 0 (List.map V.str y46).length)), (27, (sSlot (a0.fFields))), (28, (I (a0.fFields.length : Int))), (29, (I y45)), (30, (V.bool false))], [(25, ⟨true, 1, List.map V.str y46⟩)], 74⟩ = some ⟨[(4, (V.sl 0 1 (List.map V.str y46))), (5, (I 0))], [], 74⟩ := by
  refine rg ?_
  refine ra 1 1 ⟨[(1, (V.sl 0 1 (List.map V.str a1))), (9, (V.aref 25 0 (List.map V.str y46).length)), (25, (V.aref 25 0 (List.map V.str y46).length)), (27, (sSlot (a0.fFields))), (28, (I (a0.fFields.length : Int))), (29, (I y45)), (30, (V.bool false)), (73, (V.aref 25 0 (List.map V.str y46).length))], [(25, ⟨true, 1, List.map V.str y46⟩)], 74⟩ rfl rfl rfl ?_
  refine Eq.trans (reg_eff (x := some ()) (w := fun _ => ((V.sl 2 1 (List.map V.str y46)), _)) rfl rfl rfl rfl (p_close (e := V.str) rfl rfl rfl rfl rfl (of_decide_eq_true rfl))) ?_
  refine Eq.trans some_bind ?_
  exact bind_end rfl
theorem screen_Take_ok (k : Nat) (a0 : T_api_Form) (a1 : (List Str)) : EV k 14 [(enc_T_api_Form a0), (V.sl 0 1 (List.map V.str a1))] = (screen_Take k a0 a1).map screen_Take_fin := by
  cases k with
  | zero => rfl
  | succ k =>
    unfold screen_Take
    refine Eq.trans (evF_succ (c := f14c) (N := 74) (regs := f14n) rfl Go.Proofs.Try.func14 rfl (by decide) rfl rfl rfl) ?_
    refine Eq.trans (k_region0 rfl (f14r0 k a0 a1)) ?_
    refine Eq.trans k_assoc ?_
    refine Eq.trans (k_region rfl (f14r1 k a0 a1)) ?_
    refine bindE (fun o2 => ?_)
    refine Eq.trans k_assoc ?_
    refine Eq.trans (k_region0 rfl (f14r2 k a0 a1 o2)) ?_
    refine Eq.trans (k_cond (t := (o2 != 0)) rfl rfl) ?_
    refine bifE2 (fun hc => ?_) fun hc => ?_
    · rw [hc]
      refine Eq.trans k_assoc ?_
      refine Eq.trans (k_region0 rfl (f14r3 k a0 a1 o2)) ?_
      refine Eq.trans k_ret ?_
      rfl
    · rw [hc]
      refine Eq.trans k_skip ?_
      refine Eq.trans (k_region rfl (f14r4 k a0 a1 o2)) ?_
      refine bindE (fun o4 => ?_)
      refine Eq.trans (k_region rfl (f14r5 k a0 a1 o4)) ?_
      refine bindE (fun o6 => ?_)
      refine Eq.trans k_assoc ?_
      refine Eq.trans (k_region0 rfl (f14r6 k a0 a1 o6)) ?_
      refine Eq.trans (k_block rfl) ?_
      refine Eq.trans k_loop ?_
      refine screen_Take_L1_ok k a0 a1 _ _ ?h_screen_Take_L1_0 ?hr_screen_Take_L1 k 0 o6
      · intro y45 y46
        refine Eq.trans blk_exit ?_
        refine Eq.trans (k_region0 rfl (f14r15 k a0 a1 y45 y46)) ?_
        refine Eq.trans k_lret ?_
        rfl
      · intro s; exact rfl
def ref01_SameTexts_fin : Bool → V × List V := fun r => ((V.bool r), [])
theorem f13r0 (k : Nat) (a0 : (List Str)) (a1 : (List Str)) : RE k f13a0 f13o0 false ⟨[(0, (V.sl 0 1 (List.map V.str a0))), (1, (V.sl 0 1 (List.map V.str a1)))], [], 26⟩ = some ⟨[(0, (V.sl 0 1 (List.map V.str a0))), (1, (V.sl 0 1 (List.map V.str a1)))], [], 26⟩ :=
  rE rfl
theorem f13r1 (k : Nat) (a0 : (List Str)) (a1 : (List Str)) : RE k f13a1 f13o1 false ⟨[(0, (V.sl 0 1 (List.map V.str a0))), (1, (V.sl 0 1 (List.map V.str a1)))], [], 26⟩ = some ⟨[(0, (V.sl 0 1 (List.map V.str a0))), (1, (V.sl 0 1 (List.map V.str a1))), (10, (V.bool ((a0.length : Int) != (a1.length : Int))))], [], 26⟩ := by
  refine rg ?_
  refine ra 1 1 ⟨[(0, (V.sl 0 1 (List.map V.str a0))), (1, (V.sl 0 1 (List.map V.str a1))), (6, (V.sl 0 1 (List.map V.str a0)))], [], 26⟩ rfl rfl rfl ?_
  refine Eq.trans (reg_pure (x := some ()) (w := fun _ => (I (a0.length : Int))) rfl rfl rfl rfl (p_len (e := V.str) rfl rfl rfl rfl rfl rfl Go.Proofs.Try.underlying26)) ?_
  refine Eq.trans some_bind ?_
  refine ba 1 3 ⟨[(0, (V.sl 0 1 (List.map V.str a0))), (1, (V.sl 0 1 (List.map V.str a1))), (6, (V.sl 0 1 (List.map V.str a0))), (7, (I (a0.length : Int))), (8, (V.sl 0 1 (List.map V.str a1)))], [], 26⟩ rfl rfl rfl ?_
  refine Eq.trans (reg_pure (x := some ()) (w := fun _ => (I (a1.length : Int))) rfl rfl rfl rfl (p_len (e := V.str) rfl rfl rfl rfl rfl rfl Go.Proofs.Try.underlying26)) ?_
  refine Eq.trans some_bind ?_
  exact bind_end rfl
theorem f13r2 (k : Nat) (a0 : (List Str)) (a1 : (List Str)) : RE k f13a2 f13o2 false ⟨[(0, (V.sl 0 1 (List.map V.str a0))), (1, (V.sl 0 1 (List.map V.str a1))), (10, (V.bool true))], [], 26⟩ = some ⟨[(4, (V.bool false))], [], 26⟩ :=
  rE rfl
theorem f13r3 (k : Nat) (a0 : (List Str)) (a1 : (List Str)) : RE k f13a3 f13o3 false ⟨[(0, (V.sl 0 1 (List.map V.str a0))), (1, (V.sl 0 1 (List.map V.str a1))), (10, (V.bool false))], [], 26⟩ = some ⟨[(0, (V.sl 0 1 (List.map V.str a0))), (1, (V.sl 0 1 (List.map V.str a1))), (5, (I 0))], [], 26⟩ :=
  rE rfl
theorem f13r4 (k : Nat) (a0 : (List Str)) (a1 : (List Str)) (x4 : Int) : RE k f13a4 f13o4 false ⟨[(0, (V.sl 0 1 (List.map V.str a0))), (1, (V.sl 0 1 (List.map V.str a1))), (5, (I x4))], [], 26⟩ = some ⟨[(0, (V.sl 0 1 (List.map V.str a0))), (1, (V.sl 0 1 (List.map V.str a1))), (5, (I x4)), (14, (V.bool (decide (x4 < (a0.length : Int)))))], [], 26⟩ := by
  refine rg ?_
  refine ra 2 2 ⟨[(0, (V.sl 0 1 (List.map V.str a0))), (1, (V.sl 0 1 (List.map V.str a1))), (5, (I x4)), (11, (I x4)), (12, (V.sl 0 1 (List.map V.str a0)))], [], 26⟩ rfl rfl rfl ?_
  refine Eq.trans (reg_pure (x := some ()) (w := fun _ => (I (a0.length : Int))) rfl rfl rfl rfl (p_len (e := V.str) rfl rfl rfl rfl rfl rfl Go.Proofs.Try.underlying26)) ?_
  refine Eq.trans some_bind ?_
  exact bind_end rfl
theorem f13r6 (k : Nat) (a0 : (List Str)) (a1 : (List Str)) (x4 : Int) : RE k f13a6 f13o6 true ⟨[(0, (V.sl 0 1 (List.map V.str a0))), (1, (V.sl 0 1 (List.map V.str a1))), (5, (I x4)), (14, (V.bool true))], [], 26⟩ = (((idx a0 x4).bind fun v5 => ((idx a1 x4).bind fun v6 => (some ((!(v5 == v6))))))).map (fun (o : Bool) => (⟨[(0, (V.sl 0 1 (List.map V.str a0))), (1, (V.sl 0 1 (List.map V.str a1))), (5, (I x4)), (25, (V.bool o))], [], 26⟩ : St)) := by
  refine Eq.trans (regionE_regp (p := 9) (dk := true) (t := [(0, (V.sl 0 1 (List.map V.str a0))), (1, (V.sl 0 1 (List.map V.str a1))), (5, (I x4)), (14, (V.bool true))]) (σ := []) (n := 26) (by decide) (by decide) rfl) ?_
  refine Eq.trans (regp_adv (m := 2) (j := 2) (t' := [(0, (V.sl 0 1 (List.map V.str a0))), (1, (V.sl 0 1 (List.map V.str a1))), (5, (I x4)), (14, (V.bool true)), (17, (V.sl 0 1 (List.map V.str a0))), (18, (I x4))]) rfl rfl rfl) ?_
  refine Eq.trans (regp_pure (x := (idx a0 x4)) (w := fun v5 => (V.pro (V.str v5))) rfl rfl rfl rfl rfl (p_index (e := V.str) rfl rfl rfl Go.Proofs.Try.underlying26 rfl (by decide))) ?_
  refine bindE (fun v5 => ?_)
  refine Eq.trans (putp_adv (m := 3) (j := 6) (t' := [(0, (V.sl 0 1 (List.map V.str a0))), (1, (V.sl 0 1 (List.map V.str a1))), (5, (I x4)), (14, (V.bool true)), (17, (V.sl 0 1 (List.map V.str a0))), (18, (I x4)), (19, (V.pro (V.str v5))), (20, (V.str v5)), (21, (V.sl 0 1 (List.map V.str a1))), (22, (I x4))]) rfl rfl rfl) ?_
  refine Eq.trans (regp_pure (x := (idx a1 x4)) (w := fun v6 => (V.pro (V.str v6))) rfl rfl rfl rfl rfl (p_index (e := V.str) rfl rfl rfl Go.Proofs.Try.underlying26 rfl (by decide))) ?_
  refine bindE (fun v6 => ?_)
  exact regp_end rfl
theorem f13r7 (k : Nat) (a0 : (List Str)) (a1 : (List Str)) (x4 : Int) : RE k f13a7 f13o7 false ⟨[(0, (V.sl 0 1 (List.map V.str a0))), (1, (V.sl 0 1 (List.map V.str a1))), (5, (I x4)), (25, (V.bool true))], [], 26⟩ = some ⟨[(4, (V.bool false))], [], 26⟩ :=
  rE rfl
theorem f13r5 (k : Nat) (a0 : (List Str)) (a1 : (List Str)) (x4 : Int) : RE k f13a5 f13o5 false ⟨[(0, (V.sl 0 1 (List.map V.str a0))), (1, (V.sl 0 1 (List.map V.str a1))), (5, (I x4)), (25, (V.bool false))], [], 26⟩ = some ⟨[(0, (V.sl 0 1 (List.map V.str a0))), (1, (V.sl 0 1 (List.map V.str a1))), (5, (I (Go.IntKind.wrap .i64 (x4 + 1))))], [], 26⟩ :=
  rE rfl
theorem ref01_SameTexts_L1_ok (k : Nat) (a0 : (List Str)) (a1 : (List Str))  (K0 : Int → Option Bool) (Kst : X × St → Option (V × List V)) (hK0 : ∀ (y0 : Int), Kst (X.exit 0, ⟨[(0, (V.sl 0 1 (List.map V.str a0))), (1, (V.sl 0 1 (List.map V.str a1))), (5, (I y0)), (14, (V.bool false))], [], 26⟩) = (K0 y0).map ref01_SameTexts_fin) (hret : ∀ s, Kst (X.ret, s) = endK prog 26 [(V.sl 0 1 (List.map V.str a0)), (V.sl 0 1 (List.map V.str a1))] [] [.tmp 4] (X.ret, s)) :
    ∀ (m : Nat) (x4 : Int), (iter (exec prog (EV k) f13n k f13b0) m ⟨[(0, (V.sl 0 1 (List.map V.str a0))), (1, (V.sl 0 1 (List.map V.str a1))), (5, (I x4))], [], 26⟩).bind Kst = (ref01_SameTexts_L1 a0 a1 K0 m x4).map ref01_SameTexts_fin := by
  intro m
  induction m with
  | zero => intros; rfl
  | succ m ih =>
    intro x4
    unfold ref01_SameTexts_L1
    refine Eq.trans k_round ?_
    refine Eq.trans k_assoc ?_
    refine Eq.trans (k_region0 rfl (f13r4 k a0 a1 x4)) ?_
    refine Eq.trans (k_cond (t := (decide (x4 < (a0.length : Int)))) rfl rfl) ?_
    refine bifE2 (fun hc => ?_) fun hc => ?_
    · rw [hc]
      refine Eq.trans k_skip ?_
      refine Eq.trans (k_block rfl) ?_
      refine Eq.trans (k_region rfl (f13r6 k a0 a1 x4)) ?_
      refine bindE (fun o7 => ?_)
      refine Eq.trans (k_lcond (t := o7) rfl rfl) ?_
      refine bifE2 (fun hc => ?_) fun hc => ?_
      · rw [hc]
        refine Eq.trans (k_region0 rfl (f13r7 k a0 a1 x4)) ?_
        refine Eq.trans k_lret ?_
        refine Eq.trans blk_ret ?_
        refine Eq.trans loop_ret ?_
        refine Eq.trans (hret _) ?_
        rfl
      · rw [hc]
        refine Eq.trans k_lskip ?_
        refine Eq.trans blk_normal ?_
        refine Eq.trans (k_lregion0 rfl (f13r5 k a0 a1 x4)) ?_
        refine Eq.trans loop_normal ?_
        exact ih (Go.IntKind.wrap .i64 (x4 + 1))
    · rw [hc]
      refine Eq.trans k_exit ?_
      refine Eq.trans loop_exit ?_
      exact hK0 x4
theorem f13r8 (k : Nat) (a0 : (List Str)) (a1 : (List Str)) (y8 : Int) : RE k f13a8 f13o8 false ⟨[(0, (V.sl 0 1 (List.map V.str a0))), (1, (V.sl 0 1 (List.map V.str a1))), (5, (I y8)), (14, (V.bool false))], [], 26⟩ = some ⟨[(4, (V.bool true))], [], 26⟩ :=
  rE rfl
theorem ref01_SameTexts_ok (k : Nat) (a0 : (List Str)) (a1 : (List Str)) : EV k 13 [(V.sl 0 1 (List.map V.str a0)), (V.sl 0 1 (List.map V.str a1))] = (ref01_SameTexts k a0 a1).map ref01_SameTexts_fin := by
  cases k with
  | zero => rfl
  | succ k =>
    unfold ref01_SameTexts
    refine Eq.trans (evF_succ (c := f13c) (N := 26) (regs := f13n) rfl Go.Proofs.Try.func13 rfl (by decide) rfl rfl rfl) ?_
    refine Eq.trans (k_region0 rfl (f13r0 k a0 a1)) ?_
    refine Eq.trans k_assoc ?_
    refine Eq.trans (k_region0 rfl (f13r1 k a0 a1)) ?_
    refine Eq.trans (k_cond (t := ((a0.length : Int) != (a1.length : Int))) rfl rfl) ?_
    refine bifE2 (fun hc => ?_) fun hc => ?_
    · rw [hc]
      refine Eq.trans k_assoc ?_
      refine Eq.trans (k_region0 rfl (f13r2 k a0 a1)) ?_
      refine Eq.trans k_ret ?_
      rfl
    · rw [hc]
      refine Eq.trans k_skip ?_
      refine Eq.trans k_assoc ?_
      refine Eq.trans (k_region0 rfl (f13r3 k a0 a1)) ?_
      refine Eq.trans (k_block rfl) ?_
      refine Eq.trans k_loop ?_
      refine ref01_SameTexts_L1_ok k a0 a1 _ _ ?h_ref01_SameTexts_L1_0 ?hr_ref01_SameTexts_L1 k 0
      · intro y8
        refine Eq.trans blk_exit ?_
        refine Eq.trans (k_region0 rfl (f13r8 k a0 a1 y8)) ?_
        refine Eq.trans k_lret ?_
        rfl
      · intro s; exact rfl
def law24_Awake_fin : Bool → V × List V := fun r => ((V.bool r), [])
theorem f10r0 (k : Nat)  : RE k f10a0 f10o0 false ⟨[], [], 45⟩ = some ⟨[], [], 45⟩ :=
  rE rfl
theorem f10r1 (k : Nat)  : RE k f10a1 f10o1 false ⟨[], [], 45⟩ = some ⟨[(1, (V.ptr 1 0 0))], [(1, ⟨false, 4, [(enc_T_api_Form ({ fRows := 2, fColumns := 20, fMarks := ([({ fRow := 0, fColumn := 0, fText := ([78, 65, 77, 69, 58] : Str) } : T_api_Mark)] : List T_api_Mark), fFields := ([({ fName := ([65] : Str), fRow := 0, fColumn := 6, fBytes := 5, fIn := 0, fOut := 0, fFill := 95 } : T_api_Slot)] : List T_api_Slot) } : T_api_Form))]⟩)], 45⟩ :=
  rE rfl
theorem f10r2 (k : Nat)  : RE k f10a2 f10o2 false ⟨[(1, (V.ptr 1 0 0))], [(1, ⟨false, 4, [(enc_T_api_Form ({ fRows := 2, fColumns := 20, fMarks := ([({ fRow := 0, fColumn := 0, fText := ([78, 65, 77, 69, 58] : Str) } : T_api_Mark)] : List T_api_Mark), fFields := ([({ fName := ([65] : Str), fRow := 0, fColumn := 6, fBytes := 5, fIn := 0, fOut := 0, fFill := 95 } : T_api_Slot)] : List T_api_Slot) } : T_api_Form))]⟩)], 45⟩ = (((screen_Show k ({ fRows := 2, fColumns := 20, fMarks := ([({ fRow := 0, fColumn := 0, fText := ([78, 65, 77, 69, 58] : Str) } : T_api_Mark)] : List T_api_Mark), fFields := ([({ fName := ([65] : Str), fRow := 0, fColumn := 6, fBytes := 5, fIn := 0, fOut := 0, fFill := 95 } : T_api_Slot)] : List T_api_Slot) } : T_api_Form) ([([65, 66] : Str)] : List Str)).bind fun v1 => (some (v1.1, v1.2)))).map (fun (o : (List Str) × Int) => (⟨[(1, (V.ptr 1 0 0)), (2, (V.sl 0 1 (List.map V.str o.1))), (3, (I o.2))], [(1, ⟨false, 4, [(enc_T_api_Form ({ fRows := 2, fColumns := 20, fMarks := ([({ fRow := 0, fColumn := 0, fText := ([78, 65, 77, 69, 58] : Str) } : T_api_Mark)] : List T_api_Mark), fFields := ([({ fName := ([65] : Str), fRow := 0, fColumn := 6, fBytes := 5, fIn := 0, fOut := 0, fFill := 95 } : T_api_Slot)] : List T_api_Slot) } : T_api_Form))]⟩)], 45⟩ : St)) := by
  refine rg ?_
  refine ra 2 2 ⟨[(1, (V.ptr 1 0 0)), (12, (enc_T_api_Form ({ fRows := 2, fColumns := 20, fMarks := ([({ fRow := 0, fColumn := 0, fText := ([78, 65, 77, 69, 58] : Str) } : T_api_Mark)] : List T_api_Mark), fFields := ([({ fName := ([65] : Str), fRow := 0, fColumn := 6, fBytes := 5, fIn := 0, fOut := 0, fFill := 95 } : T_api_Slot)] : List T_api_Slot) } : T_api_Form))), (13, (V.sl 0 1 (List.map V.str ([([65, 66] : Str)] : List Str))))], [(1, ⟨false, 4, [(enc_T_api_Form ({ fRows := 2, fColumns := 20, fMarks := ([({ fRow := 0, fColumn := 0, fText := ([78, 65, 77, 69, 58] : Str) } : T_api_Mark)] : List T_api_Mark), fFields := ([({ fName := ([65] : Str), fRow := 0, fColumn := 6, fBytes := 5, fIn := 0, fOut := 0, fFill := 95 } : T_api_Slot)] : List T_api_Slot) } : T_api_Form))]⟩)], 45⟩ rfl rfl rfl ?_
  refine Eq.trans (reg_pure (x := (screen_Show k ({ fRows := 2, fColumns := 20, fMarks := ([({ fRow := 0, fColumn := 0, fText := ([78, 65, 77, 69, 58] : Str) } : T_api_Mark)] : List T_api_Mark), fFields := ([({ fName := ([65] : Str), fRow := 0, fColumn := 6, fBytes := 5, fIn := 0, fOut := 0, fFill := 95 } : T_api_Slot)] : List T_api_Slot) } : T_api_Form) ([([65, 66] : Str)] : List Str))) (w := fun v1 => (V.tup [(V.sl 0 1 (List.map V.str v1.1)), (I v1.2)])) rfl rfl rfl rfl (p_call rfl rfl rfl rfl rfl (screen_Show_ok k ({ fRows := 2, fColumns := 20, fMarks := ([({ fRow := 0, fColumn := 0, fText := ([78, 65, 77, 69, 58] : Str) } : T_api_Mark)] : List T_api_Mark), fFields := ([({ fName := ([65] : Str), fRow := 0, fColumn := 6, fBytes := 5, fIn := 0, fOut := 0, fFill := 95 } : T_api_Slot)] : List T_api_Slot) } : T_api_Form) ([([65, 66] : Str)] : List Str)) (.inl rfl))) ?_
  refine bindE (fun v1 => ?_)
  exact bind_end rfl
theorem f10r3 (k : Nat) (o2 : (List Str) × Int) : RE k f10a3 f10o3 false ⟨[(1, (V.ptr 1 0 0)), (2, (V.sl 0 1 (List.map V.str o2.1))), (3, (I o2.2))], [(1, ⟨false, 4, [(enc_T_api_Form ({ fRows := 2, fColumns := 20, fMarks := ([({ fRow := 0, fColumn := 0, fText := ([78, 65, 77, 69, 58] : Str) } : T_api_Mark)] : List T_api_Mark), fFields := ([({ fName := ([65] : Str), fRow := 0, fColumn := 6, fBytes := 5, fIn := 0, fOut := 0, fFill := 95 } : T_api_Slot)] : List T_api_Slot) } : T_api_Form))]⟩)], 45⟩ = (((screen_Take k ({ fRows := 2, fColumns := 20, fMarks := ([({ fRow := 0, fColumn := 0, fText := ([78, 65, 77, 69, 58] : Str) } : T_api_Mark)] : List T_api_Mark), fFields := ([({ fName := ([65] : Str), fRow := 0, fColumn := 6, fBytes := 5, fIn := 0, fOut := 0, fFill := 95 } : T_api_Slot)] : List T_api_Slot) } : T_api_Form) o2.1).bind fun v3 => (some (v3.1, v3.2)))).map (fun (o : (List Str) × Int) => (⟨[(2, (V.sl 0 1 (List.map V.str o2.1))), (3, (I o2.2)), (4, (V.sl 0 1 (List.map V.str o.1))), (5, (I o.2))], [], 45⟩ : St)) := by
  refine rg ?_
  refine ra 2 2 ⟨[(1, (V.ptr 1 0 0)), (2, (V.sl 0 1 (List.map V.str o2.1))), (3, (I o2.2)), (18, (enc_T_api_Form ({ fRows := 2, fColumns := 20, fMarks := ([({ fRow := 0, fColumn := 0, fText := ([78, 65, 77, 69, 58] : Str) } : T_api_Mark)] : List T_api_Mark), fFields := ([({ fName := ([65] : Str), fRow := 0, fColumn := 6, fBytes := 5, fIn := 0, fOut := 0, fFill := 95 } : T_api_Slot)] : List T_api_Slot) } : T_api_Form))), (19, (V.sl 0 1 (List.map V.str o2.1)))], [(1, ⟨false, 4, [(enc_T_api_Form ({ fRows := 2, fColumns := 20, fMarks := ([({ fRow := 0, fColumn := 0, fText := ([78, 65, 77, 69, 58] : Str) } : T_api_Mark)] : List T_api_Mark), fFields := ([({ fName := ([65] : Str), fRow := 0, fColumn := 6, fBytes := 5, fIn := 0, fOut := 0, fFill := 95 } : T_api_Slot)] : List T_api_Slot) } : T_api_Form))]⟩)], 45⟩ rfl rfl rfl ?_
  refine Eq.trans (reg_pure (x := (screen_Take k ({ fRows := 2, fColumns := 20, fMarks := ([({ fRow := 0, fColumn := 0, fText := ([78, 65, 77, 69, 58] : Str) } : T_api_Mark)] : List T_api_Mark), fFields := ([({ fName := ([65] : Str), fRow := 0, fColumn := 6, fBytes := 5, fIn := 0, fOut := 0, fFill := 95 } : T_api_Slot)] : List T_api_Slot) } : T_api_Form) o2.1)) (w := fun v3 => (V.tup [(V.sl 0 1 (List.map V.str v3.1)), (I v3.2)])) rfl rfl rfl rfl (p_call rfl rfl rfl rfl rfl (screen_Take_ok k ({ fRows := 2, fColumns := 20, fMarks := ([({ fRow := 0, fColumn := 0, fText := ([78, 65, 77, 69, 58] : Str) } : T_api_Mark)] : List T_api_Mark), fFields := ([({ fName := ([65] : Str), fRow := 0, fColumn := 6, fBytes := 5, fIn := 0, fOut := 0, fFill := 95 } : T_api_Slot)] : List T_api_Slot) } : T_api_Form) o2.1) (.inl rfl))) ?_
  refine bindE (fun v3 => ?_)
  exact bind_end rfl
theorem f10r4 (k : Nat) (o2 : (List Str) × Int) (o4 : (List Str) × Int) : RE k f10a4 f10o4 false ⟨[(2, (V.sl 0 1 (List.map V.str o2.1))), (3, (I o2.2)), (4, (V.sl 0 1 (List.map V.str o4.1))), (5, (I o4.2))], [], 45⟩ = ((bif (o2.2 == 0) then (bif (o4.2 == 0) then (bif ((o2.1.length : Int) == 2) then ((idx o2.1 0).bind fun v5 => (bif (v5 == ([78, 65, 77, 69, 58, 32, 65, 66, 95, 95, 95, 32, 32, 32, 32, 32, 32, 32, 32, 32] : Str)) then (ref01_SameTexts k o4.1 ([([65, 66] : Str)] : List Str)) else (some (false)))) else (some (false))) else (some (false))) else (some (false)))).map (fun (o : Bool) => (⟨[(0, (V.bool o))], [], 45⟩ : St)) := by
  refine rg ?_
  refine ra 3 3 ⟨[(2, (V.sl 0 1 (List.map V.str o2.1))), (3, (I o2.2)), (4, (V.sl 0 1 (List.map V.str o4.1))), (5, (I o4.2)), (23, (I o2.2)), (24, (V.bool (o2.2 == 0))), (25, (V.bool (o2.2 == 0)))], [], 45⟩ rfl rfl rfl ?_
  refine bifE (c := (o2.2 == 0)) (fun hc => ?_) fun hc => ?_
  · rw [hc]
    refine ra 4 7 ⟨[(2, (V.sl 0 1 (List.map V.str o2.1))), (3, (I o2.2)), (4, (V.sl 0 1 (List.map V.str o4.1))), (5, (I o4.2)), (23, (I o2.2)), (24, (V.bool true)), (25, (V.bool true)), (26, (I o4.2)), (27, (V.bool (o4.2 == 0))), (28, (V.bool (o4.2 == 0))), (29, (V.bool (o4.2 == 0)))], [], 45⟩ rfl rfl rfl ?_
    refine bifE (c := (o4.2 == 0)) (fun hc => ?_) fun hc => ?_
    · rw [hc]
      refine ra 1 8 ⟨[(2, (V.sl 0 1 (List.map V.str o2.1))), (3, (I o2.2)), (4, (V.sl 0 1 (List.map V.str o4.1))), (5, (I o4.2)), (23, (I o2.2)), (24, (V.bool true)), (25, (V.bool true)), (26, (I o4.2)), (27, (V.bool true)), (28, (V.bool true)), (29, (V.bool true)), (30, (V.sl 0 1 (List.map V.str o2.1)))], [], 45⟩ rfl rfl rfl ?_
      refine Eq.trans (reg_pure (x := some ()) (w := fun _ => (I (o2.1.length : Int))) rfl rfl rfl rfl (p_len (e := V.str) rfl rfl rfl rfl rfl rfl Go.Proofs.Try.underlying26)) ?_
      refine Eq.trans some_bind ?_
      refine ba 3 12 ⟨[(2, (V.sl 0 1 (List.map V.str o2.1))), (3, (I o2.2)), (4, (V.sl 0 1 (List.map V.str o4.1))), (5, (I o4.2)), (23, (I o2.2)), (24, (V.bool true)), (25, (V.bool true)), (26, (I o4.2)), (27, (V.bool true)), (28, (V.bool true)), (29, (V.bool true)), (30, (V.sl 0 1 (List.map V.str o2.1))), (31, (I (o2.1.length : Int))), (32, (V.bool ((o2.1.length : Int) == 2))), (33, (V.bool ((o2.1.length : Int) == 2))), (34, (V.bool ((o2.1.length : Int) == 2)))], [], 45⟩ rfl rfl rfl ?_
      refine bifE (c := ((o2.1.length : Int) == 2)) (fun hc => ?_) fun hc => ?_
      · rw [hc]
        refine ra 1 13 ⟨[(2, (V.sl 0 1 (List.map V.str o2.1))), (3, (I o2.2)), (4, (V.sl 0 1 (List.map V.str o4.1))), (5, (I o4.2)), (23, (I o2.2)), (24, (V.bool true)), (25, (V.bool true)), (26, (I o4.2)), (27, (V.bool true)), (28, (V.bool true)), (29, (V.bool true)), (30, (V.sl 0 1 (List.map V.str o2.1))), (31, (I (o2.1.length : Int))), (32, (V.bool true)), (33, (V.bool true)), (34, (V.bool true)), (35, (V.sl 0 1 (List.map V.str o2.1)))], [], 45⟩ rfl rfl rfl ?_
        refine Eq.trans (reg_pure (x := (idx o2.1 0)) (w := fun v5 => (V.pro (V.str v5))) rfl rfl rfl rfl (p_index (e := V.str) rfl rfl rfl Go.Proofs.Try.underlying26 rfl (by decide))) ?_
        refine bindE (fun v5 => ?_)
        refine ba 4 18 ⟨[(2, (V.sl 0 1 (List.map V.str o2.1))), (3, (I o2.2)), (4, (V.sl 0 1 (List.map V.str o4.1))), (5, (I o4.2)), (23, (I o2.2)), (24, (V.bool true)), (25, (V.bool true)), (26, (I o4.2)), (27, (V.bool true)), (28, (V.bool true)), (29, (V.bool true)), (30, (V.sl 0 1 (List.map V.str o2.1))), (31, (I (o2.1.length : Int))), (32, (V.bool true)), (33, (V.bool true)), (34, (V.bool true)), (35, (V.sl 0 1 (List.map V.str o2.1))), (36, (V.pro (V.str v5))), (37, (V.str v5)), (38, (V.bool (v5 == ([78, 65, 77, 69, 58, 32, 65, 66, 95, 95, 95, 32, 32, 32, 32, 32, 32, 32, 32, 32] : Str)))), (39, (V.bool (v5 == ([78, 65, 77, 69, 58, 32, 65, 66, 95, 95, 95, 32, 32, 32, 32, 32, 32, 32, 32, 32] : Str)))), (40, (V.bool (v5 == ([78, 65, 77, 69, 58, 32, 65, 66, 95, 95, 95, 32, 32, 32, 32, 32, 32, 32, 32, 32] : Str))))], [], 45⟩ rfl rfl rfl ?_
        refine bifE (c := (v5 == ([78, 65, 77, 69, 58, 32, 65, 66, 95, 95, 95, 32, 32, 32, 32, 32, 32, 32, 32, 32] : Str))) (fun hc => ?_) fun hc => ?_
        · rw [hc]
          refine ra 2 20 ⟨[(2, (V.sl 0 1 (List.map V.str o2.1))), (3, (I o2.2)), (4, (V.sl 0 1 (List.map V.str o4.1))), (5, (I o4.2)), (23, (I o2.2)), (24, (V.bool true)), (25, (V.bool true)), (26, (I o4.2)), (27, (V.bool true)), (28, (V.bool true)), (29, (V.bool true)), (30, (V.sl 0 1 (List.map V.str o2.1))), (31, (I (o2.1.length : Int))), (32, (V.bool true)), (33, (V.bool true)), (34, (V.bool true)), (35, (V.sl 0 1 (List.map V.str o2.1))), (36, (V.pro (V.str v5))), (37, (V.str v5)), (38, (V.bool true)), (39, (V.bool true)), (40, (V.bool true)), (41, (V.sl 0 1 (List.map V.str o4.1))), (42, (V.sl 0 1 (List.map V.str ([([65, 66] : Str)] : List Str))))], [], 45⟩ rfl rfl rfl ?_
          refine Eq.trans (reg_pure (x := (ref01_SameTexts k o4.1 ([([65, 66] : Str)] : List Str))) (w := fun v6 => (V.bool v6)) rfl rfl rfl rfl (p_call rfl rfl rfl rfl rfl (ref01_SameTexts_ok k o4.1 ([([65, 66] : Str)] : List Str)) (.inl rfl))) ?_
          refine bind_self (fun v6 => ?_)
          exact bind_end rfl
        · rw [hc]
          exact reg_end rfl
      · rw [hc]
        exact reg_end rfl
    · rw [hc]
      exact reg_end rfl
  · rw [hc]
    exact reg_end rfl
theorem law24_Awake_ok (k : Nat)  : EV k 10 [] = (law24_Awake k).map law24_Awake_fin := by
  cases k with
  | zero => rfl
  | succ k =>
    unfold law24_Awake
    refine Eq.trans (evF_succ (c := f10c) (N := 45) (regs := f10n) rfl Go.Proofs.Try.func10 rfl (by decide) rfl rfl rfl) ?_
    refine Eq.trans (k_region0 rfl (f10r0 k)) ?_
    refine Eq.trans (k_region0 rfl (f10r1 k)) ?_
    refine Eq.trans (k_region rfl (f10r2 k)) ?_
    refine bindE (fun o2 => ?_)
    refine Eq.trans (k_region rfl (f10r3 k o2)) ?_
    refine bindE (fun o4 => ?_)
    refine Eq.trans (k_region rfl (f10r4 k o2 o4)) ?_
    refine bindE (fun o7 => ?_)
    refine Eq.trans k_lret ?_
    rfl
def screen_Lengths_fin : (Int × Int × Int) → V × List V := fun r => (.tup [(I r.1), (I r.2.1), (I r.2.2)], [])
theorem f28r0 (k : Nat) (a0 : T_api_Form) : RE k f28a0 f28o0 false ⟨[(0, (enc_T_api_Form a0))], [], 15⟩ = some ⟨[(1, (V.ptr 1 0 0))], [(1, ⟨false, 4, [(enc_T_api_Form a0)]⟩)], 15⟩ :=
  rE rfl
theorem f28r1 (k : Nat) (a0 : T_api_Form) : RE k f28a1 f28o1 false ⟨[(1, (V.ptr 1 0 0))], [(1, ⟨false, 4, [(enc_T_api_Form a0)]⟩)], 15⟩ = (((screen_Valid k a0).bind fun v1 => (some ((!v1))))).map (fun (o : Bool) => (⟨[(1, (V.ptr 1 0 0)), (7, (V.bool o))], [(1, ⟨false, 4, [(enc_T_api_Form a0)]⟩)], 15⟩ : St)) := by
  refine rg ?_
  refine ra 1 1 ⟨[(1, (V.ptr 1 0 0)), (5, (enc_T_api_Form a0))], [(1, ⟨false, 4, [(enc_T_api_Form a0)]⟩)], 15⟩ rfl rfl rfl ?_
  refine Eq.trans (reg_pure (x := (screen_Valid k a0)) (w := fun v1 => (V.bool v1)) rfl rfl rfl rfl (p_call rfl rfl rfl rfl rfl (screen_Valid_ok k a0) (.inl rfl))) ?_
  refine bindE (fun v1 => ?_)
  exact bind_end rfl
theorem f28r2 (k : Nat) (a0 : T_api_Form) : RE k f28a2 f28o2 false ⟨[(1, (V.ptr 1 0 0)), (7, (V.bool true))], [(1, ⟨false, 4, [(enc_T_api_Form a0)]⟩)], 15⟩ = some ⟨[(2, (I 0)), (3, (I 0)), (4, (I 220))], [], 15⟩ :=
  rE rfl
theorem f28r3 (k : Nat) (a0 : T_api_Form) : RE k f28a3 f28o3 false ⟨[(1, (V.ptr 1 0 0)), (7, (V.bool false))], [(1, ⟨false, 4, [(enc_T_api_Form a0)]⟩)], 15⟩ = (((screen_lengths k a0).bind fun v3 => (some (v3.1, v3.2)))).map (fun (o : Int × Int) => (⟨[(2, (I o.1)), (3, (I o.2))], [], 15⟩ : St)) := by
  refine rg ?_
  refine ra 1 1 ⟨[(1, (V.ptr 1 0 0)), (7, (V.bool false)), (9, (enc_T_api_Form a0))], [(1, ⟨false, 4, [(enc_T_api_Form a0)]⟩)], 15⟩ rfl rfl rfl ?_
  refine Eq.trans (reg_pure (x := (screen_lengths k a0)) (w := fun v3 => (V.tup [(I v3.1), (I v3.2)])) rfl rfl rfl rfl (p_call rfl rfl rfl rfl rfl (screen_lengths_ok k a0) (.inl rfl))) ?_
  refine bindE (fun v3 => ?_)
  exact bind_end rfl
theorem f28r4 (k : Nat) (o4 : Int × Int) : RE k f28a4 f28o4 false ⟨[(2, (I o4.1)), (3, (I o4.2))], [], 15⟩ = some ⟨[(2, (I o4.1)), (3, (I o4.2)), (4, (I 0))], [], 15⟩ :=
  rE rfl
theorem screen_Lengths_ok (k : Nat) (a0 : T_api_Form) : EV k 28 [(enc_T_api_Form a0)] = (screen_Lengths k a0).map screen_Lengths_fin := by
  cases k with
  | zero => rfl
  | succ k =>
    unfold screen_Lengths
    refine Eq.trans (evF_succ (c := f28c) (N := 15) (regs := f28n) rfl Go.Proofs.Try.func28 rfl (by decide) rfl rfl rfl) ?_
    refine Eq.trans (k_region0 rfl (f28r0 k a0)) ?_
    refine Eq.trans k_assoc ?_
    refine Eq.trans (k_region rfl (f28r1 k a0)) ?_
    refine bindE (fun o2 => ?_)
    refine Eq.trans (k_cond (t := o2) rfl rfl) ?_
    refine bifE2 (fun hc => ?_) fun hc => ?_
    · rw [hc]
      refine Eq.trans k_assoc ?_
      refine Eq.trans (k_region0 rfl (f28r2 k a0)) ?_
      refine Eq.trans k_ret ?_
      rfl
    · rw [hc]
      refine Eq.trans k_skip ?_
      refine Eq.trans (k_region rfl (f28r3 k a0)) ?_
      refine bindE (fun o4 => ?_)
      refine Eq.trans (k_region0 rfl (f28r4 k o4)) ?_
      refine Eq.trans k_lret ?_
      rfl
def screen_Blank_fin : ((List Str) × Int) → V × List V := fun r => (.tup [(V.sl 0 1 (List.map V.str r.1)), (I r.2)], [])
theorem f22r0 (k : Nat) (a0 : T_api_Form) : RE k f22a0 f22o0 false ⟨[(0, (enc_T_api_Form a0))], [], 18⟩ = some ⟨[(1, (V.ptr 1 0 0))], [(1, ⟨false, 4, [(enc_T_api_Form a0)]⟩)], 18⟩ :=
  rE rfl
theorem f22r1 (k : Nat) (a0 : T_api_Form) : RE k f22a1 f22o1 false ⟨[(1, (V.ptr 1 0 0))], [(1, ⟨false, 4, [(enc_T_api_Form a0)]⟩)], 18⟩ = (((screen_Valid k a0).bind fun v1 => (some ((!v1))))).map (fun (o : Bool) => (⟨[(1, (V.ptr 1 0 0)), (8, (V.bool o))], [(1, ⟨false, 4, [(enc_T_api_Form a0)]⟩)], 18⟩ : St)) := by
  refine rg ?_
  refine ra 1 1 ⟨[(1, (V.ptr 1 0 0)), (6, (enc_T_api_Form a0))], [(1, ⟨false, 4, [(enc_T_api_Form a0)]⟩)], 18⟩ rfl rfl rfl ?_
  refine Eq.trans (reg_pure (x := (screen_Valid k a0)) (w := fun v1 => (V.bool v1)) rfl rfl rfl rfl (p_call rfl rfl rfl rfl rfl (screen_Valid_ok k a0) (.inl rfl))) ?_
  refine bindE (fun v1 => ?_)
  exact bind_end rfl
theorem f22r2 (k : Nat) (a0 : T_api_Form) : RE k f22a2 f22o2 false ⟨[(1, (V.ptr 1 0 0)), (8, (V.bool true))], [(1, ⟨false, 4, [(enc_T_api_Form a0)]⟩)], 18⟩ = some ⟨[(2, (V.sl 0 1 (List.map V.str ([] : List Str)))), (3, (I 220))], [], 18⟩ :=
  rE rfl
theorem f22r3 (k : Nat) (a0 : T_api_Form) : RE k f22a3 f22o3 false ⟨[(1, (V.ptr 1 0 0)), (8, (V.bool false))], [(1, ⟨false, 4, [(enc_T_api_Form a0)]⟩)], 18⟩ = (((screen_lengths k a0).bind fun v3 => (some (v3.2)))).map (fun (o : Int) => (⟨[(1, (V.ptr 1 0 0)), (5, (I o))], [(1, ⟨false, 4, [(enc_T_api_Form a0)]⟩)], 18⟩ : St)) := by
  refine rg ?_
  refine ra 1 1 ⟨[(1, (V.ptr 1 0 0)), (8, (V.bool false)), (10, (enc_T_api_Form a0))], [(1, ⟨false, 4, [(enc_T_api_Form a0)]⟩)], 18⟩ rfl rfl rfl ?_
  refine Eq.trans (reg_pure (x := (screen_lengths k a0)) (w := fun v3 => (V.tup [(I v3.1), (I v3.2)])) rfl rfl rfl rfl (p_call rfl rfl rfl rfl rfl (screen_lengths_ok k a0) (.inl rfl))) ?_
  refine bindE (fun v3 => ?_)
  exact bind_end rfl
theorem f22r4 (k : Nat) (a0 : T_api_Form) (o4 : Int) : RE k f22a4 f22o4 true ⟨[(1, (V.ptr 1 0 0)), (5, (I o4))], [(1, ⟨false, 4, [(enc_T_api_Form a0)]⟩)], 18⟩ = (((mkN [] o4).bind fun v5 => ((screen_show k a0 v5).bind fun v6 => (some (v6, 0))))).map (fun (o : (List Str) × Int) => (⟨[(2, (V.sl 0 1 (List.map V.str o.1))), (3, (I o.2))], [], 18⟩ : St)) := by
  refine Eq.trans (regionE_regp (p := 6) (dk := true) (t := [(1, (V.ptr 1 0 0)), (5, (I o4))]) (σ := [(1, ⟨false, 4, [(enc_T_api_Form a0)]⟩)]) (n := 18) (by decide) (by decide) rfl) ?_
  refine Eq.trans (regp_adv (m := 2) (j := 2) (t' := [(1, (V.ptr 1 0 0)), (5, (I o4)), (14, (enc_T_api_Form a0)), (15, (I o4))]) rfl rfl rfl) ?_
  refine Eq.trans (regp_pure (x := (mkN [] o4)) (w := fun v5 => (V.sl 2 1 (List.map V.str v5))) rfl rfl rfl rfl rfl (p_make (e := V.str) (z := []) rfl rfl rfl Go.Proofs.Try.underlying26 (of_decide_eq_true rfl) rfl rfl rfl rfl)) ?_
  refine bindE (fun v5 => ?_)
  refine Eq.trans (putp_adv (m := 0) (j := 3) (t' := [(1, (V.ptr 1 0 0)), (5, (I o4)), (14, (enc_T_api_Form a0)), (15, (I o4)), (16, (V.sl 0 1 (List.map V.str v5)))]) rfl rfl rfl) ?_
  refine Eq.trans (regp_pure (x := (screen_show k a0 v5)) (w := fun v6 => (V.sl 0 1 (List.map V.str v6))) rfl rfl rfl rfl rfl (p_call rfl rfl rfl rfl rfl (screen_show_ok k a0 v5) (.inl rfl))) ?_
  refine bindE (fun v6 => ?_)
  exact regp_end rfl
theorem screen_Blank_ok (k : Nat) (a0 : T_api_Form) : EV k 22 [(enc_T_api_Form a0)] = (screen_Blank k a0).map screen_Blank_fin := by
  cases k with
  | zero => rfl
  | succ k =>
    unfold screen_Blank
    refine Eq.trans (evF_succ (c := f22c) (N := 18) (regs := f22n) rfl Go.Proofs.Try.func22 rfl (by decide) rfl rfl rfl) ?_
    refine Eq.trans (k_region0 rfl (f22r0 k a0)) ?_
    refine Eq.trans k_assoc ?_
    refine Eq.trans (k_region rfl (f22r1 k a0)) ?_
    refine bindE (fun o2 => ?_)
    refine Eq.trans (k_cond (t := o2) rfl rfl) ?_
    refine bifE2 (fun hc => ?_) fun hc => ?_
    · rw [hc]
      refine Eq.trans k_assoc ?_
      refine Eq.trans (k_region0 rfl (f22r2 k a0)) ?_
      refine Eq.trans k_ret ?_
      rfl
    · rw [hc]
      refine Eq.trans k_skip ?_
      refine Eq.trans (k_region rfl (f22r3 k a0)) ?_
      refine bindE (fun o4 => ?_)
      refine Eq.trans (k_region rfl (f22r4 k a0 o4)) ?_
      refine bindE (fun o7 => ?_)
      refine Eq.trans k_lret ?_
      rfl
def screen_slot_1_fin : Bool → V × List V := fun r => ((V.bool r), [])
theorem f70r0 (k : Nat) (a0 : T_api_Slot) (a1 : Str) : RE k f70a0 f70o0 false ⟨[(0, (enc_T_api_Slot a0)), (1, (V.pro (V.str a1)))], [], 8⟩ = some ⟨[(1, (V.pro (V.str a1))), (2, (V.ptr 2 0 0))], [(2, ⟨false, 7, [(enc_T_api_Slot a0)]⟩)], 8⟩ :=
  rE rfl
theorem f70r1 (k : Nat) (a0 : T_api_Slot) (a1 : Str) : RE k f70a1 f70o1 false ⟨[(1, (V.pro (V.str a1))), (2, (V.ptr 2 0 0))], [(2, ⟨false, 7, [(enc_T_api_Slot a0)]⟩)], 8⟩ = some ⟨[(3, (V.bool (a0.fName == a1)))], [], 8⟩ :=
  rE rfl
theorem screen_slot_1_ok (k : Nat) (a0 : T_api_Slot) (a1 : Str) : EV k 70 [(enc_T_api_Slot a0), (V.pro (V.str a1))] = (screen_slot_1 k a0 a1).map screen_slot_1_fin := by
  cases k with
  | zero => rfl
  | succ k =>
    unfold screen_slot_1
    refine Eq.trans (evF_succ (c := f70c) (N := 8) (regs := f70n) rfl Go.Proofs.Try.func70 rfl (by decide) rfl rfl rfl) ?_
    refine Eq.trans (k_region0 rfl (f70r0 k a0 a1)) ?_
    refine Eq.trans (k_region0 rfl (f70r1 k a0 a1)) ?_
    refine Eq.trans k_lret ?_
    rfl
def screen_slot_fin : Int → V × List V := fun r => ((I r), [])
theorem f47r0 (k : Nat) (a0 : T_api_Form) (a1 : Str) : RE k f47a0 f47o0 false ⟨[(0, (enc_T_api_Form a0)), (1, (V.str a1))], [], 9⟩ = some ⟨[(2, (V.ptr 2 0 0)), (3, (V.ptr 3 0 0))], [(2, ⟨false, 4, [(enc_T_api_Form a0)]⟩), (3, ⟨false, 1, [(V.str a1)]⟩)], 9⟩ :=
  rE rfl
theorem f47r1 (k : Nat) (a0 : T_api_Form) (a1 : Str) : RE k f47a1 f47o1 false ⟨[(2, (V.ptr 2 0 0)), (3, (V.ptr 3 0 0))], [(2, ⟨false, 4, [(enc_T_api_Form a0)]⟩), (3, ⟨false, 1, [(V.str a1)]⟩)], 9⟩ = ((slices_IndexFunc_Slot k a0.fFields (fun j x0 => (screen_slot_1 j x0 a1)))).map (fun (o : Int) => (⟨[(4, (I o))], [], 9⟩ : St)) := by
  refine rg ?_
  refine ra 3 3 ⟨[(2, (V.ptr 2 0 0)), (3, (V.ptr 3 0 0)), (5, (V.ptr 2 0 3)), (6, (sSlot (a0.fFields))), (7, (V.fn 70 [] [(V.ptr 3 0 0)]))], [(2, ⟨false, 4, [(enc_T_api_Form a0)]⟩), (3, ⟨false, 1, [(V.str a1)]⟩)], 9⟩ rfl rfl rfl ?_
  refine Eq.trans (reg_pure (x := (slices_IndexFunc_Slot k a0.fFields (fun j x0 => (screen_slot_1 j x0 a1)))) (w := fun v1 => (I v1)) rfl rfl rfl rfl (p_call rfl rfl rfl rfl rfl (slices_IndexFunc_Slot_ok k a0.fFields (fun j x0 => (screen_slot_1 j x0 a1)) 70 (V.str a1) (fun j x0 => (screen_slot_1_ok j x0 a1))) (.inr (fun _ => rfl)))) ?_
  refine bind_self (fun v1 => ?_)
  exact bind_end rfl
theorem screen_slot_ok (k : Nat) (a0 : T_api_Form) (a1 : Str) : EV k 47 [(enc_T_api_Form a0), (V.str a1)] = (screen_slot k a0 a1).map screen_slot_fin := by
  cases k with
  | zero => rfl
  | succ k =>
    unfold screen_slot
    refine Eq.trans (evF_succ (c := f47c) (N := 9) (regs := f47n) rfl Go.Proofs.Try.func47 rfl (by decide) rfl rfl rfl) ?_
    refine Eq.trans (k_region0 rfl (f47r0 k a0 a1)) ?_
    refine Eq.trans (k_region rfl (f47r1 k a0 a1)) ?_
    refine bindE (fun o2 => ?_)
    refine Eq.trans k_lret ?_
    rfl
def screen_Type_fin : ((List Str) × Int) → V × List V := fun r => (.tup [(V.sl 0 1 (List.map V.str r.1)), (I r.2)], [])
theorem f20r0 (k : Nat) (a0 : T_api_Form) (a1 : (List Str)) (a2 : Str) (a3 : Str) : RE k f20a0 f20o0 false ⟨[(0, (enc_T_api_Form a0)), (1, (V.sl 0 1 (List.map V.str a1))), (2, (V.str a2)), (3, (V.str a3))], [], 46⟩ = some ⟨[(1, (V.sl 0 1 (List.map V.str a1))), (2, (V.str a2)), (3, (V.str a3)), (4, (V.ptr 4 0 0))], [(4, ⟨false, 4, [(enc_T_api_Form a0)]⟩)], 46⟩ :=
  rE rfl
theorem f20r1 (k : Nat) (a0 : T_api_Form) (a1 : (List Str)) (a2 : Str) (a3 : Str) : RE k f20a1 f20o1 false ⟨[(1, (V.sl 0 1 (List.map V.str a1))), (2, (V.str a2)), (3, (V.str a3)), (4, (V.ptr 4 0 0))], [(4, ⟨false, 4, [(enc_T_api_Form a0)]⟩)], 46⟩ = ((screen_pictured k a0 a1)).map (fun (o : Int) => (⟨[(1, (V.sl 0 1 (List.map V.str a1))), (2, (V.str a2)), (3, (V.str a3)), (4, (V.ptr 4 0 0)), (10, (I o))], [(4, ⟨false, 4, [(enc_T_api_Form a0)]⟩)], 46⟩ : St)) := by
  refine rg ?_
  refine ra 2 2 ⟨[(1, (V.sl 0 1 (List.map V.str a1))), (2, (V.str a2)), (3, (V.str a3)), (4, (V.ptr 4 0 0)), (13, (enc_T_api_Form a0)), (14, (V.sl 0 1 (List.map V.str a1)))], [(4, ⟨false, 4, [(enc_T_api_Form a0)]⟩)], 46⟩ rfl rfl rfl ?_
  refine Eq.trans (reg_pure (x := (screen_pictured k a0 a1)) (w := fun v1 => (I v1)) rfl rfl rfl rfl (p_call rfl rfl rfl rfl rfl (screen_pictured_ok k a0 a1) (.inl rfl))) ?_
  refine bind_self (fun v1 => ?_)
  exact bind_end rfl
theorem f20r2 (k : Nat) (a0 : T_api_Form) (a1 : (List Str)) (a2 : Str) (a3 : Str) (o2 : Int) : RE k f20a2 f20o2 false ⟨[(1, (V.sl 0 1 (List.map V.str a1))), (2, (V.str a2)), (3, (V.str a3)), (4, (V.ptr 4 0 0)), (10, (I o2))], [(4, ⟨false, 4, [(enc_T_api_Form a0)]⟩)], 46⟩ = some ⟨[(1, (V.sl 0 1 (List.map V.str a1))), (2, (V.str a2)), (3, (V.str a3)), (4, (V.ptr 4 0 0)), (10, (I o2)), (17, (V.bool (o2 != 0)))], [(4, ⟨false, 4, [(enc_T_api_Form a0)]⟩)], 46⟩ :=
  rE rfl
theorem f20r3 (k : Nat) (a0 : T_api_Form) (a1 : (List Str)) (a2 : Str) (a3 : Str) (o2 : Int) : RE k f20a3 f20o3 false ⟨[(1, (V.sl 0 1 (List.map V.str a1))), (2, (V.str a2)), (3, (V.str a3)), (4, (V.ptr 4 0 0)), (10, (I o2)), (17, (V.bool true))], [(4, ⟨false, 4, [(enc_T_api_Form a0)]⟩)], 46⟩ = some ⟨[(8, (V.sl 0 1 (List.map V.str ([] : List Str)))), (9, (I o2))], [], 46⟩ :=
  rE rfl
theorem f20r4 (k : Nat) (a0 : T_api_Form) (a1 : (List Str)) (a2 : Str) (a3 : Str) (o2 : Int) : RE k f20a4 f20o4 false ⟨[(1, (V.sl 0 1 (List.map V.str a1))), (2, (V.str a2)), (3, (V.str a3)), (4, (V.ptr 4 0 0)), (10, (I o2)), (17, (V.bool false))], [(4, ⟨false, 4, [(enc_T_api_Form a0)]⟩)], 46⟩ = (((screen_isText k a3).bind fun v3 => (some ((!v3))))).map (fun (o : Bool) => (⟨[(1, (V.sl 0 1 (List.map V.str a1))), (2, (V.str a2)), (3, (V.str a3)), (4, (V.ptr 4 0 0)), (21, (V.bool o))], [(4, ⟨false, 4, [(enc_T_api_Form a0)]⟩)], 46⟩ : St)) := by
  refine rg ?_
  refine ra 1 1 ⟨[(1, (V.sl 0 1 (List.map V.str a1))), (2, (V.str a2)), (3, (V.str a3)), (4, (V.ptr 4 0 0)), (10, (I o2)), (17, (V.bool false)), (19, (V.str a3))], [(4, ⟨false, 4, [(enc_T_api_Form a0)]⟩)], 46⟩ rfl rfl rfl ?_
  refine Eq.trans (reg_pure (x := (screen_isText k a3)) (w := fun v3 => (V.bool v3)) rfl rfl rfl rfl (p_call rfl rfl rfl rfl rfl (screen_isText_ok k a3) (.inl rfl))) ?_
  refine bindE (fun v3 => ?_)
  exact bind_end rfl
theorem f20r5 (k : Nat) (a0 : T_api_Form) (a1 : (List Str)) (a2 : Str) (a3 : Str) : RE k f20a5 f20o5 false ⟨[(1, (V.sl 0 1 (List.map V.str a1))), (2, (V.str a2)), (3, (V.str a3)), (4, (V.ptr 4 0 0)), (21, (V.bool true))], [(4, ⟨false, 4, [(enc_T_api_Form a0)]⟩)], 46⟩ = some ⟨[(8, (V.sl 0 1 (List.map V.str ([] : List Str)))), (9, (I 2))], [], 46⟩ :=
  rE rfl
theorem f20r6 (k : Nat) (a0 : T_api_Form) (a1 : (List Str)) (a2 : Str) (a3 : Str) : RE k f20a6 f20o6 false ⟨[(1, (V.sl 0 1 (List.map V.str a1))), (2, (V.str a2)), (3, (V.str a3)), (4, (V.ptr 4 0 0)), (21, (V.bool false))], [(4, ⟨false, 4, [(enc_T_api_Form a0)]⟩)], 46⟩ = ((screen_slot k a0 a2)).map (fun (o : Int) => (⟨[(1, (V.sl 0 1 (List.map V.str a1))), (3, (V.str a3)), (4, (V.ptr 4 0 0)), (11, (I o))], [(4, ⟨false, 4, [(enc_T_api_Form a0)]⟩)], 46⟩ : St)) := by
  refine rg ?_
  refine ra 2 2 ⟨[(1, (V.sl 0 1 (List.map V.str a1))), (2, (V.str a2)), (3, (V.str a3)), (4, (V.ptr 4 0 0)), (21, (V.bool false)), (22, (enc_T_api_Form a0)), (23, (V.str a2))], [(4, ⟨false, 4, [(enc_T_api_Form a0)]⟩)], 46⟩ rfl rfl rfl ?_
  refine Eq.trans (reg_pure (x := (screen_slot k a0 a2)) (w := fun v5 => (I v5)) rfl rfl rfl rfl (p_call rfl rfl rfl rfl rfl (screen_slot_ok k a0 a2) (.inl rfl))) ?_
  refine bind_self (fun v5 => ?_)
  exact bind_end rfl
theorem f20r7 (k : Nat) (a0 : T_api_Form) (a1 : (List Str)) (a3 : Str) (o6 : Int) : RE k f20a7 f20o7 false ⟨[(1, (V.sl 0 1 (List.map V.str a1))), (3, (V.str a3)), (4, (V.ptr 4 0 0)), (11, (I o6))], [(4, ⟨false, 4, [(enc_T_api_Form a0)]⟩)], 46⟩ = some ⟨[(1, (V.sl 0 1 (List.map V.str a1))), (3, (V.str a3)), (4, (V.ptr 4 0 0)), (11, (I o6)), (26, (V.bool (decide (o6 < 0))))], [(4, ⟨false, 4, [(enc_T_api_Form a0)]⟩)], 46⟩ :=
  rE rfl
theorem f20r8 (k : Nat) (a0 : T_api_Form) (a1 : (List Str)) (a3 : Str) (o6 : Int) : RE k f20a8 f20o8 false ⟨[(1, (V.sl 0 1 (List.map V.str a1))), (3, (V.str a3)), (4, (V.ptr 4 0 0)), (11, (I o6)), (26, (V.bool true))], [(4, ⟨false, 4, [(enc_T_api_Form a0)]⟩)], 46⟩ = some ⟨[(8, (V.sl 0 1 (List.map V.str ([] : List Str)))), (9, (I 5))], [], 46⟩ :=
  rE rfl
theorem f20r9 (k : Nat) (a0 : T_api_Form) (a1 : (List Str)) (a3 : Str) (o6 : Int) : RE k f20a9 f20o9 false ⟨[(1, (V.sl 0 1 (List.map V.str a1))), (3, (V.str a3)), (4, (V.ptr 4 0 0)), (11, (I o6)), (26, (V.bool false))], [(4, ⟨false, 4, [(enc_T_api_Form a0)]⟩)], 46⟩ = ((idx a0.fFields o6)).map (fun (o : T_api_Slot) => (⟨[(1, (V.sl 0 1 (List.map V.str a1))), (3, (V.str a3)), (12, (V.ptr 12 0 0))], [(12, ⟨false, 7, [(enc_T_api_Slot o)]⟩)], 46⟩ : St)) := by
  refine rg ?_
  refine ra 3 3 ⟨[(1, (V.sl 0 1 (List.map V.str a1))), (3, (V.str a3)), (4, (V.ptr 4 0 0)), (11, (I o6)), (26, (V.bool false)), (27, (V.ptr 4 0 3)), (28, (sSlot (a0.fFields))), (29, (I o6))], [(4, ⟨false, 4, [(enc_T_api_Form a0)]⟩)], 46⟩ rfl rfl rfl ?_
  refine Eq.trans (reg_pure (x := (idx a0.fFields o6)) (w := fun v7 => (V.pro (enc_T_api_Slot v7))) rfl rfl rfl rfl (p_index (e := enc_T_api_Slot) rfl rfl rfl Go.Proofs.Try.underlying23 rfl (by decide))) ?_
  refine bind_self (fun v7 => ?_)
  exact bind_end rfl
theorem f20r10 (k : Nat) (a1 : (List Str)) (a3 : Str) (o8 : T_api_Slot) : RE k f20a10 f20o10 false ⟨[(1, (V.sl 0 1 (List.map V.str a1))), (3, (V.str a3)), (12, (V.ptr 12 0 0))], [(12, ⟨false, 7, [(enc_T_api_Slot o8)]⟩)], 46⟩ = some ⟨[(1, (V.sl 0 1 (List.map V.str a1))), (3, (V.str a3)), (12, (V.ptr 12 0 0)), (36, (V.bool (decide ((a3.length : Int) > o8.fBytes))))], [(12, ⟨false, 7, [(enc_T_api_Slot o8)]⟩)], 46⟩ :=
  rE rfl
theorem f20r11 (k : Nat) (a1 : (List Str)) (a3 : Str) (o8 : T_api_Slot) : RE k f20a11 f20o11 false ⟨[(1, (V.sl 0 1 (List.map V.str a1))), (3, (V.str a3)), (12, (V.ptr 12 0 0)), (36, (V.bool true))], [(12, ⟨false, 7, [(enc_T_api_Slot o8)]⟩)], 46⟩ = some ⟨[(8, (V.sl 0 1 (List.map V.str ([] : List Str)))), (9, (I 2))], [], 46⟩ :=
  rE rfl
theorem f20r12 (k : Nat) (a1 : (List Str)) (a3 : Str) (o8 : T_api_Slot) : RE k f20a12 f20o12 true ⟨[(1, (V.sl 0 1 (List.map V.str a1))), (3, (V.str a3)), (12, (V.ptr 12 0 0)), (36, (V.bool false))], [(12, ⟨false, 7, [(enc_T_api_Slot o8)]⟩)], 46⟩ = (((screen_filled k o8 a3).bind fun v9 => ((screen_laid k a1 o8.fRow o8.fColumn v9).bind fun v10 => (some (v10, 0))))).map (fun (o : (List Str) × Int) => (⟨[(8, (V.sl 0 1 (List.map V.str o.1))), (9, (I o.2))], [], 46⟩ : St)) := by
  refine Eq.trans (regionE_regp (p := 11) (dk := true) (t := [(1, (V.sl 0 1 (List.map V.str a1))), (3, (V.str a3)), (12, (V.ptr 12 0 0)), (36, (V.bool false))]) (σ := [(12, ⟨false, 7, [(enc_T_api_Slot o8)]⟩)]) (n := 46) (by decide) (by decide) rfl) ?_
  refine Eq.trans (regp_adv (m := 7) (j := 7) (t' := [(1, (V.sl 0 1 (List.map V.str a1))), (3, (V.str a3)), (12, (V.ptr 12 0 0)), (36, (V.bool false)), (37, (V.sl 0 1 (List.map V.str a1))), (38, (V.ptr 12 0 1)), (39, (I o8.fRow)), (40, (V.ptr 12 0 2)), (41, (I o8.fColumn)), (42, (enc_T_api_Slot o8)), (43, (V.str a3))]) rfl rfl rfl) ?_
  refine Eq.trans (regp_pure (x := (screen_filled k o8 a3)) (w := fun v9 => (V.str v9)) rfl rfl rfl rfl rfl (p_call rfl rfl rfl rfl rfl (screen_filled_ok k o8 a3) (.inl rfl))) ?_
  refine bindE (fun v9 => ?_)
  refine Eq.trans (putp_adv (m := 0) (j := 8) (t' := [(1, (V.sl 0 1 (List.map V.str a1))), (3, (V.str a3)), (12, (V.ptr 12 0 0)), (36, (V.bool false)), (37, (V.sl 0 1 (List.map V.str a1))), (38, (V.ptr 12 0 1)), (39, (I o8.fRow)), (40, (V.ptr 12 0 2)), (41, (I o8.fColumn)), (42, (enc_T_api_Slot o8)), (43, (V.str a3)), (44, (V.str v9))]) rfl rfl rfl) ?_
  refine Eq.trans (regp_pure (x := (screen_laid k a1 o8.fRow o8.fColumn v9)) (w := fun v10 => (V.sl 0 1 (List.map V.str v10))) rfl rfl rfl rfl rfl (p_call rfl rfl rfl rfl rfl (screen_laid_ok k a1 o8.fRow o8.fColumn v9) (.inl rfl))) ?_
  refine bindE (fun v10 => ?_)
  exact regp_end rfl
theorem screen_Type_ok (k : Nat) (a0 : T_api_Form) (a1 : (List Str)) (a2 : Str) (a3 : Str) : EV k 20 [(enc_T_api_Form a0), (V.sl 0 1 (List.map V.str a1)), (V.str a2), (V.str a3)] = (screen_Type k a0 a1 a2 a3).map screen_Type_fin := by
  cases k with
  | zero => rfl
  | succ k =>
    unfold screen_Type
    refine Eq.trans (evF_succ (c := f20c) (N := 46) (regs := f20n) rfl Go.Proofs.Try.func20 rfl (by decide) rfl rfl rfl) ?_
    refine Eq.trans (k_region0 rfl (f20r0 k a0 a1 a2 a3)) ?_
    refine Eq.trans k_assoc ?_
    refine Eq.trans (k_region rfl (f20r1 k a0 a1 a2 a3)) ?_
    refine bindE (fun o2 => ?_)
    refine Eq.trans k_assoc ?_
    refine Eq.trans (k_region0 rfl (f20r2 k a0 a1 a2 a3 o2)) ?_
    refine Eq.trans (k_cond (t := (o2 != 0)) rfl rfl) ?_
    refine bifE2 (fun hc => ?_) fun hc => ?_
    · rw [hc]
      refine Eq.trans k_assoc ?_
      refine Eq.trans (k_region0 rfl (f20r3 k a0 a1 a2 a3 o2)) ?_
      refine Eq.trans k_ret ?_
      rfl
    · rw [hc]
      refine Eq.trans k_skip ?_
      refine Eq.trans k_assoc ?_
      refine Eq.trans (k_region rfl (f20r4 k a0 a1 a2 a3 o2)) ?_
      refine bindE (fun o4 => ?_)
      refine Eq.trans (k_cond (t := o4) rfl rfl) ?_
      refine bifE2 (fun hc => ?_) fun hc => ?_
      · rw [hc]
        refine Eq.trans k_assoc ?_
        refine Eq.trans (k_region0 rfl (f20r5 k a0 a1 a2 a3)) ?_
        refine Eq.trans k_ret ?_
        rfl
      · rw [hc]
        refine Eq.trans k_skip ?_
        refine Eq.trans (k_region rfl (f20r6 k a0 a1 a2 a3)) ?_
        refine bindE (fun o6 => ?_)
        refine Eq.trans k_assoc ?_
        refine Eq.trans (k_region0 rfl (f20r7 k a0 a1 a3 o6)) ?_
        refine Eq.trans (k_cond (t := (decide (o6 < 0))) rfl rfl) ?_
        refine bifE2 (fun hc => ?_) fun hc => ?_
        · rw [hc]
          refine Eq.trans k_assoc ?_
          refine Eq.trans (k_region0 rfl (f20r8 k a0 a1 a3 o6)) ?_
          refine Eq.trans k_ret ?_
          rfl
        · rw [hc]
          refine Eq.trans k_skip ?_
          refine Eq.trans (k_region rfl (f20r9 k a0 a1 a3 o6)) ?_
          refine bindE (fun o8 => ?_)
          refine Eq.trans k_assoc ?_
          refine Eq.trans (k_region0 rfl (f20r10 k a1 a3 o8)) ?_
          refine Eq.trans (k_cond (t := (decide ((a3.length : Int) > o8.fBytes))) rfl rfl) ?_
          refine bifE2 (fun hc => ?_) fun hc => ?_
          · rw [hc]
            refine Eq.trans k_assoc ?_
            refine Eq.trans (k_region0 rfl (f20r11 k a1 a3 o8)) ?_
            refine Eq.trans k_ret ?_
            rfl
          · rw [hc]
            refine Eq.trans k_skip ?_
            refine Eq.trans (k_region rfl (f20r12 k a1 a3 o8)) ?_
            refine bindE (fun o11 => ?_)
            refine Eq.trans k_lret ?_
            rfl
def screen_Slot_fin : (Int × Int) → V × List V := fun r => (.tup [(I r.1), (I r.2)], [])
theorem f18r0 (k : Nat) (a0 : T_api_Form) (a1 : Str) : RE k f18a0 f18o0 false ⟨[(0, (enc_T_api_Form a0)), (1, (V.str a1))], [], 16⟩ = some ⟨[(1, (V.str a1)), (2, (V.ptr 2 0 0))], [(2, ⟨false, 4, [(enc_T_api_Form a0)]⟩)], 16⟩ :=
  rE rfl
theorem f18r1 (k : Nat) (a0 : T_api_Form) (a1 : Str) : RE k f18a1 f18o1 false ⟨[(1, (V.str a1)), (2, (V.ptr 2 0 0))], [(2, ⟨false, 4, [(enc_T_api_Form a0)]⟩)], 16⟩ = (((screen_Valid k a0).bind fun v1 => (some ((!v1))))).map (fun (o : Bool) => (⟨[(1, (V.str a1)), (2, (V.ptr 2 0 0)), (9, (V.bool o))], [(2, ⟨false, 4, [(enc_T_api_Form a0)]⟩)], 16⟩ : St)) := by
  refine rg ?_
  refine ra 1 1 ⟨[(1, (V.str a1)), (2, (V.ptr 2 0 0)), (7, (enc_T_api_Form a0))], [(2, ⟨false, 4, [(enc_T_api_Form a0)]⟩)], 16⟩ rfl rfl rfl ?_
  refine Eq.trans (reg_pure (x := (screen_Valid k a0)) (w := fun v1 => (V.bool v1)) rfl rfl rfl rfl (p_call rfl rfl rfl rfl rfl (screen_Valid_ok k a0) (.inl rfl))) ?_
  refine bindE (fun v1 => ?_)
  exact bind_end rfl
theorem f18r2 (k : Nat) (a0 : T_api_Form) (a1 : Str) : RE k f18a2 f18o2 false ⟨[(1, (V.str a1)), (2, (V.ptr 2 0 0)), (9, (V.bool true))], [(2, ⟨false, 4, [(enc_T_api_Form a0)]⟩)], 16⟩ = some ⟨[(4, (I 0)), (5, (I 220))], [], 16⟩ :=
  rE rfl
theorem f18r3 (k : Nat) (a0 : T_api_Form) (a1 : Str) : RE k f18a3 f18o3 false ⟨[(1, (V.str a1)), (2, (V.ptr 2 0 0)), (9, (V.bool false))], [(2, ⟨false, 4, [(enc_T_api_Form a0)]⟩)], 16⟩ = ((screen_slot k a0 a1)).map (fun (o : Int) => (⟨[(6, (I o))], [], 16⟩ : St)) := by
  refine rg ?_
  refine ra 2 2 ⟨[(1, (V.str a1)), (2, (V.ptr 2 0 0)), (9, (V.bool false)), (10, (enc_T_api_Form a0)), (11, (V.str a1))], [(2, ⟨false, 4, [(enc_T_api_Form a0)]⟩)], 16⟩ rfl rfl rfl ?_
  refine Eq.trans (reg_pure (x := (screen_slot k a0 a1)) (w := fun v3 => (I v3)) rfl rfl rfl rfl (p_call rfl rfl rfl rfl rfl (screen_slot_ok k a0 a1) (.inl rfl))) ?_
  refine bind_self (fun v3 => ?_)
  exact bind_end rfl
theorem f18r4 (k : Nat) (o4 : Int) : RE k f18a4 f18o4 false ⟨[(6, (I o4))], [], 16⟩ = some ⟨[(6, (I o4)), (14, (V.bool (decide (o4 < 0))))], [], 16⟩ :=
  rE rfl
theorem f18r5 (k : Nat) (o4 : Int) : RE k f18a5 f18o5 false ⟨[(6, (I o4)), (14, (V.bool true))], [], 16⟩ = some ⟨[(4, (I 0)), (5, (I 5))], [], 16⟩ :=
  rE rfl
theorem f18r6 (k : Nat) (o4 : Int) : RE k f18a6 f18o6 false ⟨[(6, (I o4)), (14, (V.bool false))], [], 16⟩ = some ⟨[(4, (I o4)), (5, (I 0))], [], 16⟩ :=
  rE rfl
theorem screen_Slot_ok (k : Nat) (a0 : T_api_Form) (a1 : Str) : EV k 18 [(enc_T_api_Form a0), (V.str a1)] = (screen_Slot k a0 a1).map screen_Slot_fin := by
  cases k with
  | zero => rfl
  | succ k =>
    unfold screen_Slot
    refine Eq.trans (evF_succ (c := f18c) (N := 16) (regs := f18n) rfl Go.Proofs.Try.func18 rfl (by decide) rfl rfl rfl) ?_
    refine Eq.trans (k_region0 rfl (f18r0 k a0 a1)) ?_
    refine Eq.trans k_assoc ?_
    refine Eq.trans (k_region rfl (f18r1 k a0 a1)) ?_
    refine bindE (fun o2 => ?_)
    refine Eq.trans (k_cond (t := o2) rfl rfl) ?_
    refine bifE2 (fun hc => ?_) fun hc => ?_
    · rw [hc]
      refine Eq.trans k_assoc ?_
      refine Eq.trans (k_region0 rfl (f18r2 k a0 a1)) ?_
      refine Eq.trans k_ret ?_
      rfl
    · rw [hc]
      refine Eq.trans k_skip ?_
      refine Eq.trans (k_region rfl (f18r3 k a0 a1)) ?_
      refine bindE (fun o4 => ?_)
      refine Eq.trans k_assoc ?_
      refine Eq.trans (k_region0 rfl (f18r4 k o4)) ?_
      refine Eq.trans (k_cond (t := (decide (o4 < 0))) rfl rfl) ?_
      refine bifE2 (fun hc => ?_) fun hc => ?_
      · rw [hc]
        refine Eq.trans k_assoc ?_
        refine Eq.trans (k_region0 rfl (f18r5 k o4)) ?_
        refine Eq.trans k_ret ?_
        rfl
      · rw [hc]
        refine Eq.trans k_skip ?_
        refine Eq.trans (k_region0 rfl (f18r6 k o4)) ?_
        refine Eq.trans k_lret ?_
        rfl
def slices_IndexFunc_Slot_v12_fin : Int → V × List V := fun r => ((I r), [])
theorem f61v12r0 (k : Nat) (a0 : (List T_api_Slot)) (a1 : Nat → T_api_Slot → Option Bool) (a1_fid : Go.FuncId) (a1_c0 : V) (a1_c1 : V) (a1_hok : ∀ j x0, EV j a1_fid [(enc_T_api_Slot x0), V.pro a1_c0, V.pro a1_c1] = (a1 j x0).map fun b => ((V.bool b), [])) : RE k f61v12a0 f61v12o0 false ⟨[(0, (sSlot a0)), (1, (V.fn a1_fid [] [V.pro a1_c0, V.pro a1_c1]))], [], 19⟩ = some ⟨[(0, (sSlot a0)), (1, (V.fn a1_fid [] [V.pro a1_c0, V.pro a1_c1]))], [], 19⟩ :=
  rE rfl
theorem f61v12r1 (k : Nat) (a0 : (List T_api_Slot)) (a1 : Nat → T_api_Slot → Option Bool) (a1_fid : Go.FuncId) (a1_c0 : V) (a1_c1 : V) (a1_hok : ∀ j x0, EV j a1_fid [(enc_T_api_Slot x0), V.pro a1_c0, V.pro a1_c1] = (a1 j x0).map fun b => ((V.bool b), [])) : RE k f61v12a1 f61v12o1 false ⟨[(0, (sSlot a0)), (1, (V.fn a1_fid [] [V.pro a1_c0, V.pro a1_c1]))], [], 19⟩ = some ⟨[(0, (sSlot a0)), (1, (V.fn a1_fid [] [V.pro a1_c0, V.pro a1_c1])), (7, (I (a0.length : Int))), (8, (I 0))], [], 19⟩ := by
  refine rg ?_
  refine ra 1 1 ⟨[(0, (sSlot a0)), (1, (V.fn a1_fid [] [V.pro a1_c0, V.pro a1_c1])), (6, (sSlot a0))], [], 19⟩ rfl rfl rfl ?_
  refine Eq.trans (reg_pure (x := some ()) (w := fun _ => (I (a0.length : Int))) rfl rfl rfl rfl (p_len (e := enc_T_api_Slot) rfl rfl rfl rfl rfl rfl Go.Proofs.Try.underlying23)) ?_
  refine Eq.trans some_bind ?_
  exact bind_end rfl
theorem f61v12r2 (k : Nat) (a0 : (List T_api_Slot)) (x4 : Int) (a1 : Nat → T_api_Slot → Option Bool) (a1_fid : Go.FuncId) (a1_c0 : V) (a1_c1 : V) (a1_hok : ∀ j x0, EV j a1_fid [(enc_T_api_Slot x0), V.pro a1_c0, V.pro a1_c1] = (a1 j x0).map fun b => ((V.bool b), [])) : RE k f61v12a2 f61v12o2 false ⟨[(0, (sSlot a0)), (1, (V.fn a1_fid [] [V.pro a1_c0, V.pro a1_c1])), (7, (I (a0.length : Int))), (8, (I x4))], [], 19⟩ = some ⟨[(0, (sSlot a0)), (1, (V.fn a1_fid [] [V.pro a1_c0, V.pro a1_c1])), (7, (I (a0.length : Int))), (8, (I x4)), (9, (V.bool (decide (x4 < (a0.length : Int)))))], [], 19⟩ :=
  rE rfl
theorem f61v12r3 (k : Nat) (a0 : (List T_api_Slot)) (x4 : Int) (a1 : Nat → T_api_Slot → Option Bool) (a1_fid : Go.FuncId) (a1_c0 : V) (a1_c1 : V) (a1_hok : ∀ j x0, EV j a1_fid [(enc_T_api_Slot x0), V.pro a1_c0, V.pro a1_c1] = (a1 j x0).map fun b => ((V.bool b), [])) : RE k f61v12a3 f61v12o3 false ⟨[(0, (sSlot a0)), (1, (V.fn a1_fid [] [V.pro a1_c0, V.pro a1_c1])), (7, (I (a0.length : Int))), (8, (I x4)), (9, (V.bool true))], [], 19⟩ = some ⟨[(0, (sSlot a0)), (1, (V.fn a1_fid [] [V.pro a1_c0, V.pro a1_c1])), (5, (I x4)), (7, (I (a0.length : Int))), (8, (I x4))], [], 19⟩ :=
  rE rfl
theorem f61v12r4 (k : Nat) (a0 : (List T_api_Slot)) (x4 : Int) (a1 : Nat → T_api_Slot → Option Bool) (a1_fid : Go.FuncId) (a1_c0 : V) (a1_c1 : V) (a1_hok : ∀ j x0, EV j a1_fid [(enc_T_api_Slot x0), V.pro a1_c0, V.pro a1_c1] = (a1 j x0).map fun b => ((V.bool b), [])) : RE k f61v12a4 f61v12o4 false ⟨[(0, (sSlot a0)), (1, (V.fn a1_fid [] [V.pro a1_c0, V.pro a1_c1])), (5, (I x4)), (7, (I (a0.length : Int))), (8, (I x4))], [], 19⟩ = (((idx a0 x4).bind fun v5 => (a1 k v5))).map (fun (o : Bool) => (⟨[(0, (sSlot a0)), (1, (V.fn a1_fid [] [V.pro a1_c0, V.pro a1_c1])), (5, (I x4)), (7, (I (a0.length : Int))), (8, (I x4)), (16, (V.bool o))], [], 19⟩ : St)) := by
  refine rg ?_
  refine ra 3 3 ⟨[(0, (sSlot a0)), (1, (V.fn a1_fid [] [V.pro a1_c0, V.pro a1_c1])), (5, (I x4)), (7, (I (a0.length : Int))), (8, (I x4)), (11, (V.fn a1_fid [] [V.pro a1_c0, V.pro a1_c1])), (12, (sSlot a0)), (13, (I x4))], [], 19⟩ rfl rfl rfl ?_
  refine Eq.trans (reg_pure (x := (idx a0 x4)) (w := fun v5 => (V.pro (enc_T_api_Slot v5))) rfl rfl rfl rfl (p_index (e := enc_T_api_Slot) rfl rfl rfl Go.Proofs.Try.underlying23 rfl (by decide))) ?_
  refine bindE (fun v5 => ?_)
  refine ba 1 5 ⟨[(0, (sSlot a0)), (1, (V.fn a1_fid [] [V.pro a1_c0, V.pro a1_c1])), (5, (I x4)), (7, (I (a0.length : Int))), (8, (I x4)), (11, (V.fn a1_fid [] [V.pro a1_c0, V.pro a1_c1])), (12, (sSlot a0)), (13, (I x4)), (14, (V.pro (enc_T_api_Slot v5))), (15, (enc_T_api_Slot v5))], [], 19⟩ rfl rfl rfl ?_
  refine Eq.trans (reg_pure (x := (a1 k v5)) (w := fun v6 => (V.bool v6)) rfl rfl rfl rfl (p_call rfl rfl rfl rfl rfl (a1_hok k v5) (.inl rfl))) ?_
  refine bind_self (fun v6 => ?_)
  exact bind_end rfl
theorem f61v12r5 (k : Nat) (a0 : (List T_api_Slot)) (x4 : Int) (a1 : Nat → T_api_Slot → Option Bool) (a1_fid : Go.FuncId) (a1_c0 : V) (a1_c1 : V) (a1_hok : ∀ j x0, EV j a1_fid [(enc_T_api_Slot x0), V.pro a1_c0, V.pro a1_c1] = (a1 j x0).map fun b => ((V.bool b), [])) : RE k f61v12a5 f61v12o5 false ⟨[(0, (sSlot a0)), (1, (V.fn a1_fid [] [V.pro a1_c0, V.pro a1_c1])), (5, (I x4)), (7, (I (a0.length : Int))), (8, (I x4)), (16, (V.bool true))], [], 19⟩ = some ⟨[(4, (I x4))], [], 19⟩ :=
  rE rfl
theorem f61v12r6 (k : Nat) (a0 : (List T_api_Slot)) (x4 : Int) (a1 : Nat → T_api_Slot → Option Bool) (a1_fid : Go.FuncId) (a1_c0 : V) (a1_c1 : V) (a1_hok : ∀ j x0, EV j a1_fid [(enc_T_api_Slot x0), V.pro a1_c0, V.pro a1_c1] = (a1 j x0).map fun b => ((V.bool b), [])) : RE k f61v12a6 f61v12o6 false ⟨[(0, (sSlot a0)), (1, (V.fn a1_fid [] [V.pro a1_c0, V.pro a1_c1])), (5, (I x4)), (7, (I (a0.length : Int))), (8, (I x4)), (16, (V.bool false))], [], 19⟩ = some ⟨[(0, (sSlot a0)), (1, (V.fn a1_fid [] [V.pro a1_c0, V.pro a1_c1])), (7, (I (a0.length : Int))), (8, (I (Go.IntKind.wrap .i64 (x4 + 1))))], [], 19⟩ :=
  rE rfl
theorem slices_IndexFunc_Slot_v12_L1_ok (k : Nat) (a0 : (List T_api_Slot)) (a1 : Nat → T_api_Slot → Option Bool) (a1_fid : Go.FuncId) (a1_c0 : V) (a1_c1 : V) (a1_hok : ∀ j x0, EV j a1_fid [(enc_T_api_Slot x0), V.pro a1_c0, V.pro a1_c1] = (a1 j x0).map fun b => ((V.bool b), [])) (K0 : Int → Option Int) (Kst : X × St → Option (V × List V)) (hK0 : ∀ (y0 : Int), Kst (X.exit 0, ⟨[(0, (sSlot a0)), (1, (V.fn a1_fid [] [V.pro a1_c0, V.pro a1_c1])), (7, (I (a0.length : Int))), (8, (I y0)), (9, (V.bool false))], [], 19⟩) = (K0 y0).map slices_IndexFunc_Slot_v12_fin) (hret : ∀ s, Kst (X.ret, s) = endK prog 19 [(sSlot a0), (V.fn a1_fid [] [V.pro a1_c0, V.pro a1_c1])] [] [.tmp 4] (X.ret, s)) :
    ∀ (m : Nat) (x4 : Int), (iter (exec prog (EV k) f61v12n k f61v12b0) m ⟨[(0, (sSlot a0)), (1, (V.fn a1_fid [] [V.pro a1_c0, V.pro a1_c1])), (7, (I (a0.length : Int))), (8, (I x4))], [], 19⟩).bind Kst = (slices_IndexFunc_Slot_v12_L1 k a0 a1 K0 m x4).map slices_IndexFunc_Slot_v12_fin := by
  intro m
  induction m with
  | zero => intros; rfl
  | succ m ih =>
    intro x4
    unfold slices_IndexFunc_Slot_v12_L1
    refine Eq.trans k_round ?_
    refine Eq.trans (k_region0 rfl (f61v12r2 k a0 x4 a1 a1_fid a1_c0 a1_c1 a1_hok)) ?_
    refine Eq.trans (k_cond (t := (decide (x4 < (a0.length : Int)))) rfl rfl) ?_
    refine bifE2 (fun hc => ?_) fun hc => ?_
    · rw [hc]
      refine Eq.trans k_skip ?_
      refine Eq.trans (k_block rfl) ?_
      refine Eq.trans (k_region0 rfl (f61v12r3 k a0 x4 a1 a1_fid a1_c0 a1_c1 a1_hok)) ?_
      refine Eq.trans (k_region rfl (f61v12r4 k a0 x4 a1 a1_fid a1_c0 a1_c1 a1_hok)) ?_
      refine bindE (fun o7 => ?_)
      refine Eq.trans (k_lcond (t := o7) rfl rfl) ?_
      refine bifE2 (fun hc => ?_) fun hc => ?_
      · rw [hc]
        refine Eq.trans (k_region0 rfl (f61v12r5 k a0 x4 a1 a1_fid a1_c0 a1_c1 a1_hok)) ?_
        refine Eq.trans k_lret ?_
        refine Eq.trans blk_ret ?_
        refine Eq.trans loop_ret ?_
        refine Eq.trans (hret _) ?_
        rfl
      · rw [hc]
        refine Eq.trans k_lskip ?_
        refine Eq.trans blk_normal ?_
        refine Eq.trans (k_lregion0 rfl (f61v12r6 k a0 x4 a1 a1_fid a1_c0 a1_c1 a1_hok)) ?_
        refine Eq.trans loop_normal ?_
        exact ih (Go.IntKind.wrap .i64 (x4 + 1))
    · rw [hc]
      refine Eq.trans k_exit ?_
      refine Eq.trans loop_exit ?_
      exact hK0 x4
theorem f61v12r7 (k : Nat) (a0 : (List T_api_Slot)) (y8 : Int) (a1 : Nat → T_api_Slot → Option Bool) (a1_fid : Go.FuncId) (a1_c0 : V) (a1_c1 : V) (a1_hok : ∀ j x0, EV j a1_fid [(enc_T_api_Slot x0), V.pro a1_c0, V.pro a1_c1] = (a1 j x0).map fun b => ((V.bool b), [])) : RE k f61v12a7 f61v12o7 false ⟨[(0, (sSlot a0)), (1, (V.fn a1_fid [] [V.pro a1_c0, V.pro a1_c1])), (7, (I (a0.length : Int))), (8, (I y8)), (9, (V.bool false))], [], 19⟩ = some ⟨[(4, (I (-1)))], [], 19⟩ :=
  rE rfl
theorem slices_IndexFunc_Slot_v12_ok (k : Nat) (a0 : (List T_api_Slot)) (a1 : Nat → T_api_Slot → Option Bool) (a1_fid : Go.FuncId) (a1_c0 : V) (a1_c1 : V) (a1_hok : ∀ j x0, EV j a1_fid [(enc_T_api_Slot x0), V.pro a1_c0, V.pro a1_c1] = (a1 j x0).map fun b => ((V.bool b), [])) : EV k 61 [(sSlot a0), (V.fn a1_fid [] [V.pro a1_c0, V.pro a1_c1])] = (slices_IndexFunc_Slot_v12 k a0 a1).map slices_IndexFunc_Slot_v12_fin := by
  cases k with
  | zero => rfl
  | succ k =>
    unfold slices_IndexFunc_Slot_v12
    refine Eq.trans (evF_succ (c := f61v12c) (N := 19) (regs := f61v12n) rfl Go.Proofs.Try.func61 rfl (by decide) rfl rfl rfl) ?_
    refine Eq.trans (k_region0 rfl (f61v12r0 k a0 a1 a1_fid a1_c0 a1_c1 a1_hok)) ?_
    refine Eq.trans k_assoc ?_
    refine Eq.trans (k_region0 rfl (f61v12r1 k a0 a1 a1_fid a1_c0 a1_c1 a1_hok)) ?_
    refine Eq.trans (k_block rfl) ?_
    refine Eq.trans k_loop ?_
    refine slices_IndexFunc_Slot_v12_L1_ok k a0 a1 a1_fid a1_c0 a1_c1 a1_hok _ _ ?h_slices_IndexFunc_Slot_v12_L1_0 ?hr_slices_IndexFunc_Slot_v12_L1 k 0
    · intro y8
      refine Eq.trans blk_exit ?_
      refine Eq.trans (k_region0 rfl (f61v12r7 k a0 y8 a1 a1_fid a1_c0 a1_c1 a1_hok)) ?_
      refine Eq.trans k_lret ?_
      rfl
    · intro s; exact rfl
def screen_At_1_fin : Bool → V × List V := fun r => ((V.bool r), [])
theorem f62r0 (k : Nat) (a0 : T_api_Slot) (a1 : Int) (a2 : Int) : RE k f62a0 f62o0 false ⟨[(0, (enc_T_api_Slot a0)), (1, (V.pro (I a1))), (2, (V.pro (I a2)))], [], 16⟩ = some ⟨[(1, (V.pro (I a1))), (2, (V.pro (I a2))), (3, (V.ptr 3 0 0))], [(3, ⟨false, 7, [(enc_T_api_Slot a0)]⟩)], 16⟩ :=
  rE rfl
theorem f62r1 (k : Nat) (a0 : T_api_Slot) (a1 : Int) (a2 : Int) : RE k f62a1 f62o1 false ⟨[(1, (V.pro (I a1))), (2, (V.pro (I a2))), (3, (V.ptr 3 0 0))], [(3, ⟨false, 7, [(enc_T_api_Slot a0)]⟩)], 16⟩ = ((screen_part_meets k ({ frow := a0.fRow, fcolumn := a0.fColumn, fn := a0.fBytes } : T_screen_part) ({ frow := a1, fcolumn := a2, fn := 1 } : T_screen_part))).map (fun (o : Bool) => (⟨[(4, (V.bool o))], [], 16⟩ : St)) := by
  refine rg ?_
  refine ra 10 10 ⟨[(1, (V.pro (I a1))), (2, (V.pro (I a2))), (3, (V.ptr 3 0 0)), (5, (V.ptr 3 0 1)), (6, (I a0.fRow)), (7, (V.ptr 3 0 2)), (8, (I a0.fColumn)), (9, (V.ptr 3 0 3)), (10, (I a0.fBytes)), (11, (enc_T_screen_part ({ frow := a0.fRow, fcolumn := a0.fColumn, fn := a0.fBytes } : T_screen_part))), (12, (I a1)), (13, (I a2)), (14, (enc_T_screen_part ({ frow := a1, fcolumn := a2, fn := 1 } : T_screen_part)))], [(3, ⟨false, 7, [(enc_T_api_Slot a0)]⟩)], 16⟩ rfl rfl rfl ?_
  refine Eq.trans (reg_pure (x := (screen_part_meets k ({ frow := a0.fRow, fcolumn := a0.fColumn, fn := a0.fBytes } : T_screen_part) ({ frow := a1, fcolumn := a2, fn := 1 } : T_screen_part))) (w := fun v1 => (V.bool v1)) rfl rfl rfl rfl (p_call rfl rfl rfl rfl rfl (screen_part_meets_ok k ({ frow := a0.fRow, fcolumn := a0.fColumn, fn := a0.fBytes } : T_screen_part) ({ frow := a1, fcolumn := a2, fn := 1 } : T_screen_part)) (.inl rfl))) ?_
  refine bind_self (fun v1 => ?_)
  exact bind_end rfl
theorem screen_At_1_ok (k : Nat) (a0 : T_api_Slot) (a1 : Int) (a2 : Int) : EV k 62 [(enc_T_api_Slot a0), (V.pro (I a1)), (V.pro (I a2))] = (screen_At_1 k a0 a1 a2).map screen_At_1_fin := by
  cases k with
  | zero => rfl
  | succ k =>
    unfold screen_At_1
    refine Eq.trans (evF_succ (c := f62c) (N := 16) (regs := f62n) rfl Go.Proofs.Try.func62 rfl (by decide) rfl rfl rfl) ?_
    refine Eq.trans (k_region0 rfl (f62r0 k a0 a1 a2)) ?_
    refine Eq.trans (k_region rfl (f62r1 k a0 a1 a2)) ?_
    refine bindE (fun o2 => ?_)
    refine Eq.trans k_lret ?_
    rfl
def screen_At_fin : (Int × Int) → V × List V := fun r => (.tup [(I r.1), (I r.2)], [])
theorem f30r0 (k : Nat) (a0 : T_api_Form) (a1 : Int) (a2 : Int) : RE k f30a0 f30o0 false ⟨[(0, (enc_T_api_Form a0)), (1, (I a1)), (2, (I a2))], [], 22⟩ = some ⟨[(3, (V.ptr 3 0 0)), (4, (V.ptr 4 0 0)), (5, (V.ptr 5 0 0))], [(3, ⟨false, 4, [(enc_T_api_Form a0)]⟩), (4, ⟨false, 1, [(I a1)]⟩), (5, ⟨false, 1, [(I a2)]⟩)], 22⟩ :=
  rE rfl
theorem f30r1 (k : Nat) (a0 : T_api_Form) (a1 : Int) (a2 : Int) : RE k f30a1 f30o1 false ⟨[(3, (V.ptr 3 0 0)), (4, (V.ptr 4 0 0)), (5, (V.ptr 5 0 0))], [(3, ⟨false, 4, [(enc_T_api_Form a0)]⟩), (4, ⟨false, 1, [(I a1)]⟩), (5, ⟨false, 1, [(I a2)]⟩)], 22⟩ = (((screen_Valid k a0).bind fun v1 => (some ((!v1))))).map (fun (o : Bool) => (⟨[(3, (V.ptr 3 0 0)), (4, (V.ptr 4 0 0)), (5, (V.ptr 5 0 0)), (8, (V.bool o))], [(3, ⟨false, 4, [(enc_T_api_Form a0)]⟩), (4, ⟨false, 1, [(I a1)]⟩), (5, ⟨false, 1, [(I a2)]⟩)], 22⟩ : St)) := by
  refine rg ?_
  refine ra 1 1 ⟨[(3, (V.ptr 3 0 0)), (4, (V.ptr 4 0 0)), (5, (V.ptr 5 0 0)), (9, (enc_T_api_Form a0))], [(3, ⟨false, 4, [(enc_T_api_Form a0)]⟩), (4, ⟨false, 1, [(I a1)]⟩), (5, ⟨false, 1, [(I a2)]⟩)], 22⟩ rfl rfl rfl ?_
  refine Eq.trans (reg_pure (x := (screen_Valid k a0)) (w := fun v1 => (V.bool v1)) rfl rfl rfl rfl (p_call rfl rfl rfl rfl rfl (screen_Valid_ok k a0) (.inl rfl))) ?_
  refine bindE (fun v1 => ?_)
  exact bind_end rfl
theorem f30r2 (k : Nat) (a0 : T_api_Form) (a1 : Int) (a2 : Int) : RE k f30a2 f30o2 false ⟨[(3, (V.ptr 3 0 0)), (4, (V.ptr 4 0 0)), (5, (V.ptr 5 0 0)), (8, (V.bool true))], [(3, ⟨false, 4, [(enc_T_api_Form a0)]⟩), (4, ⟨false, 1, [(I a1)]⟩), (5, ⟨false, 1, [(I a2)]⟩)], 22⟩ = some ⟨[(6, (I 0)), (7, (I 220))], [], 22⟩ :=
  rE rfl
theorem f30r3 (k : Nat) (a0 : T_api_Form) (a1 : Int) (a2 : Int) : RE k f30a3 f30o3 false ⟨[(3, (V.ptr 3 0 0)), (4, (V.ptr 4 0 0)), (5, (V.ptr 5 0 0)), (8, (V.bool false))], [(3, ⟨false, 4, [(enc_T_api_Form a0)]⟩), (4, ⟨false, 1, [(I a1)]⟩), (5, ⟨false, 1, [(I a2)]⟩)], 22⟩ = (((screen_lies k a0 a1 a2 1).bind fun v3 => (some ((!v3))))).map (fun (o : Bool) => (⟨[(3, (V.ptr 3 0 0)), (4, (V.ptr 4 0 0)), (5, (V.ptr 5 0 0)), (12, (V.bool o))], [(3, ⟨false, 4, [(enc_T_api_Form a0)]⟩), (4, ⟨false, 1, [(I a1)]⟩), (5, ⟨false, 1, [(I a2)]⟩)], 22⟩ : St)) := by
  refine rg ?_
  refine ra 3 3 ⟨[(3, (V.ptr 3 0 0)), (4, (V.ptr 4 0 0)), (5, (V.ptr 5 0 0)), (8, (V.bool false)), (13, (enc_T_api_Form a0)), (14, (I a1)), (15, (I a2))], [(3, ⟨false, 4, [(enc_T_api_Form a0)]⟩), (4, ⟨false, 1, [(I a1)]⟩), (5, ⟨false, 1, [(I a2)]⟩)], 22⟩ rfl rfl rfl ?_
  refine Eq.trans (reg_pure (x := (screen_lies k a0 a1 a2 1)) (w := fun v3 => (V.bool v3)) rfl rfl rfl rfl (p_call rfl rfl rfl rfl rfl (screen_lies_ok k a0 a1 a2 1) (.inl rfl))) ?_
  refine bindE (fun v3 => ?_)
  exact bind_end rfl
theorem f30r4 (k : Nat) (a0 : T_api_Form) (a1 : Int) (a2 : Int) : RE k f30a4 f30o4 false ⟨[(3, (V.ptr 3 0 0)), (4, (V.ptr 4 0 0)), (5, (V.ptr 5 0 0)), (12, (V.bool true))], [(3, ⟨false, 4, [(enc_T_api_Form a0)]⟩), (4, ⟨false, 1, [(I a1)]⟩), (5, ⟨false, 1, [(I a2)]⟩)], 22⟩ = some ⟨[(6, (I 0)), (7, (I 2))], [], 22⟩ :=
  rE rfl
theorem f30r5 (k : Nat) (a0 : T_api_Form) (a1 : Int) (a2 : Int) : RE k f30a5 f30o5 false ⟨[(3, (V.ptr 3 0 0)), (4, (V.ptr 4 0 0)), (5, (V.ptr 5 0 0)), (12, (V.bool false))], [(3, ⟨false, 4, [(enc_T_api_Form a0)]⟩), (4, ⟨false, 1, [(I a1)]⟩), (5, ⟨false, 1, [(I a2)]⟩)], 22⟩ = (((slices_IndexFunc_Slot_v12 k a0.fFields (fun j x0 => (screen_At_1 j x0 a1 a2))).bind fun v5 => (some (v5, 0)))).map (fun (o : Int × Int) => (⟨[(6, (I o.1)), (7, (I o.2))], [], 22⟩ : St)) := by
  refine rg ?_
  refine ra 3 3 ⟨[(3, (V.ptr 3 0 0)), (4, (V.ptr 4 0 0)), (5, (V.ptr 5 0 0)), (12, (V.bool false)), (18, (V.ptr 3 0 3)), (19, (sSlot (a0.fFields))), (20, (V.fn 62 [] [(V.ptr 4 0 0), (V.ptr 5 0 0)]))], [(3, ⟨false, 4, [(enc_T_api_Form a0)]⟩), (4, ⟨false, 1, [(I a1)]⟩), (5, ⟨false, 1, [(I a2)]⟩)], 22⟩ rfl rfl rfl ?_
  refine Eq.trans (reg_pure (x := (slices_IndexFunc_Slot_v12 k a0.fFields (fun j x0 => (screen_At_1 j x0 a1 a2)))) (w := fun v5 => (I v5)) rfl rfl rfl rfl (p_call rfl rfl rfl rfl rfl (slices_IndexFunc_Slot_v12_ok k a0.fFields (fun j x0 => (screen_At_1 j x0 a1 a2)) 62 (I a1) (I a2) (fun j x0 => (screen_At_1_ok j x0 a1 a2))) (.inr (fun _ => rfl)))) ?_
  refine bindE (fun v5 => ?_)
  exact bind_end rfl
theorem screen_At_ok (k : Nat) (a0 : T_api_Form) (a1 : Int) (a2 : Int) : EV k 30 [(enc_T_api_Form a0), (I a1), (I a2)] = (screen_At k a0 a1 a2).map screen_At_fin := by
  cases k with
  | zero => rfl
  | succ k =>
    unfold screen_At
    refine Eq.trans (evF_succ (c := f30c) (N := 22) (regs := f30n) rfl Go.Proofs.Try.func30 rfl (by decide) rfl rfl rfl) ?_
    refine Eq.trans (k_region0 rfl (f30r0 k a0 a1 a2)) ?_
    refine Eq.trans (k_block rfl) ?_
    refine Eq.trans (k_region rfl (f30r1 k a0 a1 a2)) ?_
    refine bindE (fun o2 => ?_)
    refine Eq.trans (k_lcond (t := o2) rfl rfl) ?_
    refine bifE2 (fun hc => ?_) fun hc => ?_
    · rw [hc]
      refine Eq.trans (k_region0 rfl (f30r2 k a0 a1 a2)) ?_
      refine Eq.trans k_lret ?_
      refine Eq.trans blk_ret ?_
      rfl
    · rw [hc]
      refine Eq.trans (k_region rfl (f30r3 k a0 a1 a2)) ?_
      refine bindE (fun o4 => ?_)
      refine Eq.trans (k_lcond (t := o4) rfl rfl) ?_
      refine bifE2 (fun hc => ?_) fun hc => ?_
      · rw [hc]
        refine Eq.trans (k_region0 rfl (f30r4 k a0 a1 a2)) ?_
        refine Eq.trans k_lret ?_
        refine Eq.trans blk_ret ?_
        rfl
      · rw [hc]
        refine Eq.trans k_lskip ?_
        refine Eq.trans blk_normal ?_
        refine Eq.trans (k_region rfl (f30r5 k a0 a1 a2)) ?_
        refine bindE (fun o6 => ?_)
        refine Eq.trans k_lret ?_
        rfl
def law24_ScreenPlaces_fin : Bool → V × List V := fun r => ((V.bool r), [])
theorem f7r0 (k : Nat) (a0 : T_api_Form) (a1 : T_progenylaw24_Word) : RE k f7a0 f7o0 false ⟨[(0, (enc_T_api_Form a0)), (1, (enc_T_progenylaw24_Word a1))], [], 229⟩ = some ⟨[(2, (V.ptr 2 0 0)), (3, (V.ptr 3 0 0))], [(2, ⟨false, 4, [(enc_T_api_Form a0)]⟩), (3, ⟨false, 2, [(enc_T_progenylaw24_Word a1)]⟩)], 229⟩ :=
  rE rfl
theorem f7r1 (k : Nat) (a0 : T_api_Form) (a1 : T_progenylaw24_Word) : RE k f7a1 f7o1 false ⟨[(2, (V.ptr 2 0 0)), (3, (V.ptr 3 0 0))], [(2, ⟨false, 4, [(enc_T_api_Form a0)]⟩), (3, ⟨false, 2, [(enc_T_progenylaw24_Word a1)]⟩)], 229⟩ = (((law24_Large k a0).bind fun v1 => (bif v1 then (some (true)) else ((ref24_Valid k a0).bind fun v2 => (bif (!v2) then (some (true)) else (bif (decide ((a1.fText.length : Int) > 100)) then (some (true)) else (some ((decide ((a1.fName.length : Int) > 100)))))))))).map (fun (o : Bool) => (⟨[(2, (V.ptr 2 0 0)), (3, (V.ptr 3 0 0)), (39, (V.bool o))], [(2, ⟨false, 4, [(enc_T_api_Form a0)]⟩), (3, ⟨false, 2, [(enc_T_progenylaw24_Word a1)]⟩)], 229⟩ : St)) := by
  refine rg ?_
  refine ra 1 1 ⟨[(2, (V.ptr 2 0 0)), (3, (V.ptr 3 0 0)), (21, (enc_T_api_Form a0))], [(2, ⟨false, 4, [(enc_T_api_Form a0)]⟩), (3, ⟨false, 2, [(enc_T_progenylaw24_Word a1)]⟩)], 229⟩ rfl rfl rfl ?_
  refine Eq.trans (reg_pure (x := (law24_Large k a0)) (w := fun v1 => (V.bool v1)) rfl rfl rfl rfl (p_call rfl rfl rfl rfl rfl (law24_Large_ok k a0) (.inl rfl))) ?_
  refine bindE (fun v1 => ?_)
  refine ba 1 3 ⟨[(2, (V.ptr 2 0 0)), (3, (V.ptr 3 0 0)), (21, (enc_T_api_Form a0)), (22, (V.bool v1)), (23, (V.bool v1))], [(2, ⟨false, 4, [(enc_T_api_Form a0)]⟩), (3, ⟨false, 2, [(enc_T_progenylaw24_Word a1)]⟩)], 229⟩ rfl rfl rfl ?_
  refine bifE (c := v1) (fun hc => ?_) fun hc => ?_
  · rw [hc]
    exact reg_end rfl
  · rw [hc]
    refine ra 1 4 ⟨[(2, (V.ptr 2 0 0)), (3, (V.ptr 3 0 0)), (21, (enc_T_api_Form a0)), (22, (V.bool false)), (23, (V.bool false)), (24, (enc_T_api_Form a0))], [(2, ⟨false, 4, [(enc_T_api_Form a0)]⟩), (3, ⟨false, 2, [(enc_T_progenylaw24_Word a1)]⟩)], 229⟩ rfl rfl rfl ?_
    refine Eq.trans (reg_pure (x := (ref24_Valid k a0)) (w := fun v2 => (V.bool v2)) rfl rfl rfl rfl (p_call rfl rfl rfl rfl rfl (ref24_Valid_ok k a0) (.inl rfl))) ?_
    refine bindE (fun v2 => ?_)
    refine ba 3 8 ⟨[(2, (V.ptr 2 0 0)), (3, (V.ptr 3 0 0)), (21, (enc_T_api_Form a0)), (22, (V.bool false)), (23, (V.bool false)), (24, (enc_T_api_Form a0)), (25, (V.bool v2)), (26, (V.bool (!v2))), (27, (V.bool (!v2))), (28, (V.bool (!v2)))], [(2, ⟨false, 4, [(enc_T_api_Form a0)]⟩), (3, ⟨false, 2, [(enc_T_progenylaw24_Word a1)]⟩)], 229⟩ rfl rfl rfl ?_
    refine bifE (c := (!v2)) (fun hc => ?_) fun hc => ?_
    · rw [hc]
      exact reg_end rfl
    · rw [hc]
      refine ra 6 14 ⟨[(2, (V.ptr 2 0 0)), (3, (V.ptr 3 0 0)), (21, (enc_T_api_Form a0)), (22, (V.bool false)), (23, (V.bool false)), (24, (enc_T_api_Form a0)), (25, (V.bool v2)), (26, (V.bool false)), (27, (V.bool false)), (28, (V.bool false)), (29, (V.ptr 3 0 1)), (30, (V.str a1.fText)), (31, (I (a1.fText.length : Int))), (32, (V.bool (decide ((a1.fText.length : Int) > 100)))), (33, (V.bool (decide ((a1.fText.length : Int) > 100)))), (34, (V.bool (decide ((a1.fText.length : Int) > 100))))], [(2, ⟨false, 4, [(enc_T_api_Form a0)]⟩), (3, ⟨false, 2, [(enc_T_progenylaw24_Word a1)]⟩)], 229⟩ rfl rfl rfl ?_
      refine bifE (c := (decide ((a1.fText.length : Int) > 100))) (fun hc => ?_) fun hc => ?_
      · rw [hc]
        exact reg_end rfl
      · rw [hc]
        exact reg_end rfl
theorem f7r2 (k : Nat) (a0 : T_api_Form) (a1 : T_progenylaw24_Word) : RE k f7a2 f7o2 false ⟨[(2, (V.ptr 2 0 0)), (3, (V.ptr 3 0 0)), (39, (V.bool true))], [(2, ⟨false, 4, [(enc_T_api_Form a0)]⟩), (3, ⟨false, 2, [(enc_T_progenylaw24_Word a1)]⟩)], 229⟩ = ((law24_Awake k)).map (fun (o : Bool) => (⟨[(4, (V.bool o))], [], 229⟩ : St)) := by
  refine rg ?_
  refine Eq.trans (reg_pure (x := (law24_Awake k)) (w := fun v4 => (V.bool v4)) rfl rfl rfl rfl (p_call rfl rfl rfl rfl rfl (law24_Awake_ok k) (.inl rfl))) ?_
  refine bind_self (fun v4 => ?_)
  exact bind_end rfl
theorem f7r3 (k : Nat) (a0 : T_api_Form) (a1 : T_progenylaw24_Word) : RE k f7a3 f7o3 false ⟨[(2, (V.ptr 2 0 0)), (3, (V.ptr 3 0 0)), (39, (V.bool false))], [(2, ⟨false, 4, [(enc_T_api_Form a0)]⟩), (3, ⟨false, 2, [(enc_T_progenylaw24_Word a1)]⟩)], 229⟩ = (((screen_Lengths k a0).bind fun v6 => (some (v6.2.1, v6.2.2)))).map (fun (o : Int × Int) => (⟨[(2, (V.ptr 2 0 0)), (3, (V.ptr 3 0 0)), (6, (I o.1)), (7, (I o.2))], [(2, ⟨false, 4, [(enc_T_api_Form a0)]⟩), (3, ⟨false, 2, [(enc_T_progenylaw24_Word a1)]⟩)], 229⟩ : St)) := by
  refine rg ?_
  refine ra 1 1 ⟨[(2, (V.ptr 2 0 0)), (3, (V.ptr 3 0 0)), (39, (V.bool false)), (42, (enc_T_api_Form a0))], [(2, ⟨false, 4, [(enc_T_api_Form a0)]⟩), (3, ⟨false, 2, [(enc_T_progenylaw24_Word a1)]⟩)], 229⟩ rfl rfl rfl ?_
  refine Eq.trans (reg_pure (x := (screen_Lengths k a0)) (w := fun v6 => (V.tup [(I v6.1), (I v6.2.1), (I v6.2.2)])) rfl rfl rfl rfl (p_call rfl rfl rfl rfl rfl (screen_Lengths_ok k a0) (.inl rfl))) ?_
  refine bindE (fun v6 => ?_)
  exact bind_end rfl
theorem f7r4 (k : Nat) (a0 : T_api_Form) (a1 : T_progenylaw24_Word) (o7 : Int × Int) : RE k f7a4 f7o4 false ⟨[(2, (V.ptr 2 0 0)), (3, (V.ptr 3 0 0)), (6, (I o7.1)), (7, (I o7.2))], [(2, ⟨false, 4, [(enc_T_api_Form a0)]⟩), (3, ⟨false, 2, [(enc_T_progenylaw24_Word a1)]⟩)], 229⟩ = ((bif (o7.2 != 0) then (some (true)) else (bif (decide (o7.1 < 0)) then (some (true)) else (some ((decide (o7.1 > 4))))))).map (fun (o : Bool) => (⟨[(2, (V.ptr 2 0 0)), (3, (V.ptr 3 0 0)), (6, (I o7.1)), (56, (V.bool o))], [(2, ⟨false, 4, [(enc_T_api_Form a0)]⟩), (3, ⟨false, 2, [(enc_T_progenylaw24_Word a1)]⟩)], 229⟩ : St)) := by
  refine rg ?_
  refine ra 3 3 ⟨[(2, (V.ptr 2 0 0)), (3, (V.ptr 3 0 0)), (6, (I o7.1)), (7, (I o7.2)), (47, (I o7.2)), (48, (V.bool (o7.2 != 0))), (49, (V.bool (o7.2 != 0)))], [(2, ⟨false, 4, [(enc_T_api_Form a0)]⟩), (3, ⟨false, 2, [(enc_T_progenylaw24_Word a1)]⟩)], 229⟩ rfl rfl rfl ?_
  refine bifE (c := (o7.2 != 0)) (fun hc => ?_) fun hc => ?_
  · rw [hc]
    exact reg_end rfl
  · rw [hc]
    refine ra 4 7 ⟨[(2, (V.ptr 2 0 0)), (3, (V.ptr 3 0 0)), (6, (I o7.1)), (7, (I o7.2)), (47, (I o7.2)), (48, (V.bool false)), (49, (V.bool false)), (50, (I o7.1)), (51, (V.bool (decide (o7.1 < 0)))), (52, (V.bool (decide (o7.1 < 0)))), (53, (V.bool (decide (o7.1 < 0))))], [(2, ⟨false, 4, [(enc_T_api_Form a0)]⟩), (3, ⟨false, 2, [(enc_T_progenylaw24_Word a1)]⟩)], 229⟩ rfl rfl rfl ?_
    refine bifE (c := (decide (o7.1 < 0))) (fun hc => ?_) fun hc => ?_
    · rw [hc]
      exact reg_end rfl
    · rw [hc]
      exact reg_end rfl
theorem f7r5 (k : Nat) (a0 : T_api_Form) (a1 : T_progenylaw24_Word) (o7 : Int × Int) : RE k f7a5 f7o5 false ⟨[(2, (V.ptr 2 0 0)), (3, (V.ptr 3 0 0)), (6, (I o7.1)), (56, (V.bool true))], [(2, ⟨false, 4, [(enc_T_api_Form a0)]⟩), (3, ⟨false, 2, [(enc_T_progenylaw24_Word a1)]⟩)], 229⟩ = some ⟨[(4, (V.bool false))], [], 229⟩ :=
  rE rfl
theorem f7r6 (k : Nat) (a0 : T_api_Form) (a1 : T_progenylaw24_Word) (o7 : Int × Int) : RE k f7a6 f7o6 false ⟨[(2, (V.ptr 2 0 0)), (3, (V.ptr 3 0 0)), (6, (I o7.1)), (56, (V.bool false))], [(2, ⟨false, 4, [(enc_T_api_Form a0)]⟩), (3, ⟨false, 2, [(enc_T_progenylaw24_Word a1)]⟩)], 229⟩ = (((screen_Blank k a0).bind fun v9 => (some (v9.2, v9.1)))).map (fun (o : Int × (List Str)) => (⟨[(2, (V.ptr 2 0 0)), (3, (V.ptr 3 0 0)), (6, (I o7.1)), (7, (I o.1)), (8, (V.sl 0 1 (List.map V.str o.2)))], [(2, ⟨false, 4, [(enc_T_api_Form a0)]⟩), (3, ⟨false, 2, [(enc_T_progenylaw24_Word a1)]⟩)], 229⟩ : St)) := by
  refine rg ?_
  refine ra 1 1 ⟨[(2, (V.ptr 2 0 0)), (3, (V.ptr 3 0 0)), (6, (I o7.1)), (56, (V.bool false)), (58, (enc_T_api_Form a0))], [(2, ⟨false, 4, [(enc_T_api_Form a0)]⟩), (3, ⟨false, 2, [(enc_T_progenylaw24_Word a1)]⟩)], 229⟩ rfl rfl rfl ?_
  refine Eq.trans (reg_pure (x := (screen_Blank k a0)) (w := fun v9 => (V.tup [(V.sl 0 1 (List.map V.str v9.1)), (I v9.2)])) rfl rfl rfl rfl (p_call rfl rfl rfl rfl rfl (screen_Blank_ok k a0) (.inl rfl))) ?_
  refine bindE (fun v9 => ?_)
  exact bind_end rfl
theorem f7r7 (k : Nat) (a0 : T_api_Form) (a1 : T_progenylaw24_Word) (o7 : Int × Int) (o10 : Int × (List Str)) : RE k f7a7 f7o7 true ⟨[(2, (V.ptr 2 0 0)), (3, (V.ptr 3 0 0)), (6, (I o7.1)), (7, (I o10.1)), (8, (V.sl 0 1 (List.map V.str o10.2)))], [(2, ⟨false, 4, [(enc_T_api_Form a0)]⟩), (3, ⟨false, 2, [(enc_T_progenylaw24_Word a1)]⟩)], 229⟩ = (((mkN [] o7.1).bind fun v11 => ((screen_Show k a0 v11).bind fun v12 => (some (v12.1, v12.2))))).map (fun (o : (List Str) × Int) => (⟨[(2, (V.ptr 2 0 0)), (3, (V.ptr 3 0 0)), (7, (I o10.1)), (8, (V.sl 0 1 (List.map V.str o10.2))), (9, (V.sl 0 1 (List.map V.str o.1))), (10, (I o.2))], [(2, ⟨false, 4, [(enc_T_api_Form a0)]⟩), (3, ⟨false, 2, [(enc_T_progenylaw24_Word a1)]⟩)], 229⟩ : St)) := by
  refine Eq.trans (regionE_regp (p := 9) (dk := true) (t := [(2, (V.ptr 2 0 0)), (3, (V.ptr 3 0 0)), (6, (I o7.1)), (7, (I o10.1)), (8, (V.sl 0 1 (List.map V.str o10.2)))]) (σ := [(2, ⟨false, 4, [(enc_T_api_Form a0)]⟩), (3, ⟨false, 2, [(enc_T_progenylaw24_Word a1)]⟩)]) (n := 229) (by decide) (by decide) rfl) ?_
  refine Eq.trans (regp_adv (m := 2) (j := 2) (t' := [(2, (V.ptr 2 0 0)), (3, (V.ptr 3 0 0)), (6, (I o7.1)), (7, (I o10.1)), (8, (V.sl 0 1 (List.map V.str o10.2))), (63, (enc_T_api_Form a0)), (64, (I o7.1))]) rfl rfl rfl) ?_
  refine Eq.trans (regp_pure (x := (mkN [] o7.1)) (w := fun v11 => (V.sl 2 1 (List.map V.str v11))) rfl rfl rfl rfl rfl (p_make (e := V.str) (z := []) rfl rfl rfl Go.Proofs.Try.underlying26 (of_decide_eq_true rfl) rfl rfl rfl rfl)) ?_
  refine bindE (fun v11 => ?_)
  refine Eq.trans (putp_adv (m := 0) (j := 3) (t' := [(2, (V.ptr 2 0 0)), (3, (V.ptr 3 0 0)), (6, (I o7.1)), (7, (I o10.1)), (8, (V.sl 0 1 (List.map V.str o10.2))), (63, (enc_T_api_Form a0)), (64, (I o7.1)), (65, (V.sl 0 1 (List.map V.str v11)))]) rfl rfl rfl) ?_
  refine Eq.trans (regp_pure (x := (screen_Show k a0 v11)) (w := fun v12 => (V.tup [(V.sl 0 1 (List.map V.str v12.1)), (I v12.2)])) rfl rfl rfl rfl rfl (p_call rfl rfl rfl rfl rfl (screen_Show_ok k a0 v11) (.inl rfl))) ?_
  refine bindE (fun v12 => ?_)
  exact regp_end rfl
theorem f7r8 (k : Nat) (a0 : T_api_Form) (a1 : T_progenylaw24_Word) (o10 : Int × (List Str)) (o13 : (List Str) × Int) : RE k f7a8 f7o8 false ⟨[(2, (V.ptr 2 0 0)), (3, (V.ptr 3 0 0)), (7, (I o10.1)), (8, (V.sl 0 1 (List.map V.str o10.2))), (9, (V.sl 0 1 (List.map V.str o13.1))), (10, (I o13.2))], [(2, ⟨false, 4, [(enc_T_api_Form a0)]⟩), (3, ⟨false, 2, [(enc_T_progenylaw24_Word a1)]⟩)], 229⟩ = ((bif (o10.1 != 0) then (some (true)) else (bif (o13.2 != 0) then (some (true)) else (bif ((o10.2.length : Int) != a0.fRows) then (some (true)) else (some (((o13.1.length : Int) != a0.fRows))))))).map (fun (o : Bool) => (⟨[(2, (V.ptr 2 0 0)), (3, (V.ptr 3 0 0)), (8, (V.sl 0 1 (List.map V.str o10.2))), (9, (V.sl 0 1 (List.map V.str o13.1))), (88, (V.bool o))], [(2, ⟨false, 4, [(enc_T_api_Form a0)]⟩), (3, ⟨false, 2, [(enc_T_progenylaw24_Word a1)]⟩)], 229⟩ : St)) := by
  refine rg ?_
  refine ra 3 3 ⟨[(2, (V.ptr 2 0 0)), (3, (V.ptr 3 0 0)), (7, (I o10.1)), (8, (V.sl 0 1 (List.map V.str o10.2))), (9, (V.sl 0 1 (List.map V.str o13.1))), (10, (I o13.2)), (69, (I o10.1)), (70, (V.bool (o10.1 != 0))), (71, (V.bool (o10.1 != 0)))], [(2, ⟨false, 4, [(enc_T_api_Form a0)]⟩), (3, ⟨false, 2, [(enc_T_progenylaw24_Word a1)]⟩)], 229⟩ rfl rfl rfl ?_
  refine bifE (c := (o10.1 != 0)) (fun hc => ?_) fun hc => ?_
  · rw [hc]
    exact reg_end rfl
  · rw [hc]
    refine ra 4 7 ⟨[(2, (V.ptr 2 0 0)), (3, (V.ptr 3 0 0)), (7, (I o10.1)), (8, (V.sl 0 1 (List.map V.str o10.2))), (9, (V.sl 0 1 (List.map V.str o13.1))), (10, (I o13.2)), (69, (I o10.1)), (70, (V.bool false)), (71, (V.bool false)), (72, (I o13.2)), (73, (V.bool (o13.2 != 0))), (74, (V.bool (o13.2 != 0))), (75, (V.bool (o13.2 != 0)))], [(2, ⟨false, 4, [(enc_T_api_Form a0)]⟩), (3, ⟨false, 2, [(enc_T_progenylaw24_Word a1)]⟩)], 229⟩ rfl rfl rfl ?_
    refine bifE (c := (o13.2 != 0)) (fun hc => ?_) fun hc => ?_
    · rw [hc]
      exact reg_end rfl
    · rw [hc]
      refine ra 1 8 ⟨[(2, (V.ptr 2 0 0)), (3, (V.ptr 3 0 0)), (7, (I o10.1)), (8, (V.sl 0 1 (List.map V.str o10.2))), (9, (V.sl 0 1 (List.map V.str o13.1))), (10, (I o13.2)), (69, (I o10.1)), (70, (V.bool false)), (71, (V.bool false)), (72, (I o13.2)), (73, (V.bool false)), (74, (V.bool false)), (75, (V.bool false)), (76, (V.sl 0 1 (List.map V.str o10.2)))], [(2, ⟨false, 4, [(enc_T_api_Form a0)]⟩), (3, ⟨false, 2, [(enc_T_progenylaw24_Word a1)]⟩)], 229⟩ rfl rfl rfl ?_
      refine Eq.trans (reg_pure (x := some ()) (w := fun _ => (I (o10.2.length : Int))) rfl rfl rfl rfl (p_len (e := V.str) rfl rfl rfl rfl rfl rfl Go.Proofs.Try.underlying26)) ?_
      refine Eq.trans some_bind ?_
      refine ba 5 14 ⟨[(2, (V.ptr 2 0 0)), (3, (V.ptr 3 0 0)), (7, (I o10.1)), (8, (V.sl 0 1 (List.map V.str o10.2))), (9, (V.sl 0 1 (List.map V.str o13.1))), (10, (I o13.2)), (69, (I o10.1)), (70, (V.bool false)), (71, (V.bool false)), (72, (I o13.2)), (73, (V.bool false)), (74, (V.bool false)), (75, (V.bool false)), (76, (V.sl 0 1 (List.map V.str o10.2))), (77, (I (o10.2.length : Int))), (78, (V.ptr 2 0 0)), (79, (I a0.fRows)), (80, (V.bool ((o10.2.length : Int) != a0.fRows))), (81, (V.bool ((o10.2.length : Int) != a0.fRows))), (82, (V.bool ((o10.2.length : Int) != a0.fRows)))], [(2, ⟨false, 4, [(enc_T_api_Form a0)]⟩), (3, ⟨false, 2, [(enc_T_progenylaw24_Word a1)]⟩)], 229⟩ rfl rfl rfl ?_
      refine bifE (c := ((o10.2.length : Int) != a0.fRows)) (fun hc => ?_) fun hc => ?_
      · rw [hc]
        exact reg_end rfl
      · rw [hc]
        refine ra 1 15 ⟨[(2, (V.ptr 2 0 0)), (3, (V.ptr 3 0 0)), (7, (I o10.1)), (8, (V.sl 0 1 (List.map V.str o10.2))), (9, (V.sl 0 1 (List.map V.str o13.1))), (10, (I o13.2)), (69, (I o10.1)), (70, (V.bool false)), (71, (V.bool false)), (72, (I o13.2)), (73, (V.bool false)), (74, (V.bool false)), (75, (V.bool false)), (76, (V.sl 0 1 (List.map V.str o10.2))), (77, (I (o10.2.length : Int))), (78, (V.ptr 2 0 0)), (79, (I a0.fRows)), (80, (V.bool false)), (81, (V.bool false)), (82, (V.bool false)), (83, (V.sl 0 1 (List.map V.str o13.1)))], [(2, ⟨false, 4, [(enc_T_api_Form a0)]⟩), (3, ⟨false, 2, [(enc_T_progenylaw24_Word a1)]⟩)], 229⟩ rfl rfl rfl ?_
        refine Eq.trans (reg_pure (x := some ()) (w := fun _ => (I (o13.1.length : Int))) rfl rfl rfl rfl (p_len (e := V.str) rfl rfl rfl rfl rfl rfl Go.Proofs.Try.underlying26)) ?_
        refine Eq.trans some_bind ?_
        exact bind_end rfl
theorem f7r9 (k : Nat) (a0 : T_api_Form) (a1 : T_progenylaw24_Word) (o10 : Int × (List Str)) (o13 : (List Str) × Int) : RE k f7a9 f7o9 false ⟨[(2, (V.ptr 2 0 0)), (3, (V.ptr 3 0 0)), (8, (V.sl 0 1 (List.map V.str o10.2))), (9, (V.sl 0 1 (List.map V.str o13.1))), (88, (V.bool true))], [(2, ⟨false, 4, [(enc_T_api_Form a0)]⟩), (3, ⟨false, 2, [(enc_T_progenylaw24_Word a1)]⟩)], 229⟩ = some ⟨[(4, (V.bool false))], [], 229⟩ :=
  rE rfl
theorem f7r10 (k : Nat) (a0 : T_api_Form) (a1 : T_progenylaw24_Word) (o10 : Int × (List Str)) (o13 : (List Str) × Int) : RE k f7a10 f7o10 false ⟨[(2, (V.ptr 2 0 0)), (3, (V.ptr 3 0 0)), (8, (V.sl 0 1 (List.map V.str o10.2))), (9, (V.sl 0 1 (List.map V.str o13.1))), (88, (V.bool false))], [(2, ⟨false, 4, [(enc_T_api_Form a0)]⟩), (3, ⟨false, 2, [(enc_T_progenylaw24_Word a1)]⟩)], 229⟩ = (((screen_Type k a0 o10.2 a1.fName a1.fText).bind fun v15 => (some (v15.1, v15.2)))).map (fun (o : (List Str) × Int) => (⟨[(2, (V.ptr 2 0 0)), (3, (V.ptr 3 0 0)), (8, (V.sl 0 1 (List.map V.str o10.2))), (9, (V.sl 0 1 (List.map V.str o13.1))), (11, (V.sl 0 1 (List.map V.str o.1))), (12, (I o.2))], [(2, ⟨false, 4, [(enc_T_api_Form a0)]⟩), (3, ⟨false, 2, [(enc_T_progenylaw24_Word a1)]⟩)], 229⟩ : St)) := by
  refine rg ?_
  refine ra 6 6 ⟨[(2, (V.ptr 2 0 0)), (3, (V.ptr 3 0 0)), (8, (V.sl 0 1 (List.map V.str o10.2))), (9, (V.sl 0 1 (List.map V.str o13.1))), (88, (V.bool false)), (90, (enc_T_api_Form a0)), (91, (V.sl 0 1 (List.map V.str o10.2))), (92, (V.ptr 3 0 0)), (93, (V.str a1.fName)), (94, (V.ptr 3 0 1)), (95, (V.str a1.fText))], [(2, ⟨false, 4, [(enc_T_api_Form a0)]⟩), (3, ⟨false, 2, [(enc_T_progenylaw24_Word a1)]⟩)], 229⟩ rfl rfl rfl ?_
  refine Eq.trans (reg_pure (x := (screen_Type k a0 o10.2 a1.fName a1.fText)) (w := fun v15 => (V.tup [(V.sl 0 1 (List.map V.str v15.1)), (I v15.2)])) rfl rfl rfl rfl (p_call rfl rfl rfl rfl rfl (screen_Type_ok k a0 o10.2 a1.fName a1.fText) (.inl rfl))) ?_
  refine bindE (fun v15 => ?_)
  exact bind_end rfl
theorem f7r11 (k : Nat) (a0 : T_api_Form) (a1 : T_progenylaw24_Word) (o10 : Int × (List Str)) (o13 : (List Str) × Int) (o16 : (List Str) × Int) : RE k f7a11 f7o11 false ⟨[(2, (V.ptr 2 0 0)), (3, (V.ptr 3 0 0)), (8, (V.sl 0 1 (List.map V.str o10.2))), (9, (V.sl 0 1 (List.map V.str o13.1))), (11, (V.sl 0 1 (List.map V.str o16.1))), (12, (I o16.2))], [(2, ⟨false, 4, [(enc_T_api_Form a0)]⟩), (3, ⟨false, 2, [(enc_T_progenylaw24_Word a1)]⟩)], 229⟩ = (((screen_Slot k a0 a1.fName).bind fun v17 => (some (v17.1, v17.2)))).map (fun (o : Int × Int) => (⟨[(2, (V.ptr 2 0 0)), (8, (V.sl 0 1 (List.map V.str o10.2))), (9, (V.sl 0 1 (List.map V.str o13.1))), (11, (V.sl 0 1 (List.map V.str o16.1))), (12, (I o16.2)), (13, (I o.1)), (14, (I o.2))], [(2, ⟨false, 4, [(enc_T_api_Form a0)]⟩)], 229⟩ : St)) := by
  refine rg ?_
  refine ra 3 3 ⟨[(2, (V.ptr 2 0 0)), (3, (V.ptr 3 0 0)), (8, (V.sl 0 1 (List.map V.str o10.2))), (9, (V.sl 0 1 (List.map V.str o13.1))), (11, (V.sl 0 1 (List.map V.str o16.1))), (12, (I o16.2)), (100, (enc_T_api_Form a0)), (101, (V.ptr 3 0 0)), (102, (V.str a1.fName))], [(2, ⟨false, 4, [(enc_T_api_Form a0)]⟩), (3, ⟨false, 2, [(enc_T_progenylaw24_Word a1)]⟩)], 229⟩ rfl rfl rfl ?_
  refine Eq.trans (reg_pure (x := (screen_Slot k a0 a1.fName)) (w := fun v17 => (V.tup [(I v17.1), (I v17.2)])) rfl rfl rfl rfl (p_call rfl rfl rfl rfl rfl (screen_Slot_ok k a0 a1.fName) (.inl rfl))) ?_
  refine bindE (fun v17 => ?_)
  exact bind_end rfl
theorem f7r12 (k : Nat) (a0 : T_api_Form) (o10 : Int × (List Str)) (o13 : (List Str) × Int) (o16 : (List Str) × Int) (o18 : Int × Int) : RE k f7a12 f7o12 false ⟨[(2, (V.ptr 2 0 0)), (8, (V.sl 0 1 (List.map V.str o10.2))), (9, (V.sl 0 1 (List.map V.str o13.1))), (11, (V.sl 0 1 (List.map V.str o16.1))), (12, (I o16.2)), (13, (I o18.1)), (14, (I o18.2))], [(2, ⟨false, 4, [(enc_T_api_Form a0)]⟩)], 229⟩ = ((mkN 0 (a0.fFields.length : Int))).map (fun (o : (List Int)) => (⟨[(2, (V.ptr 2 0 0)), (8, (V.sl 0 1 (List.map V.str o10.2))), (9, (V.sl 0 1 (List.map V.str o13.1))), (11, (V.sl 0 1 (List.map V.str o16.1))), (12, (I o16.2)), (13, (I o18.1)), (14, (I o18.2)), (15, (V.aref 109 0 (List.map I o).length)), (109, (V.aref 109 0 (List.map I o).length))], [(2, ⟨false, 4, [(enc_T_api_Form a0)]⟩), (109, ⟨true, 1, List.map I o⟩)], 229⟩ : St)) := by
  refine rg ?_
  refine ra 2 2 ⟨[(2, (V.ptr 2 0 0)), (8, (V.sl 0 1 (List.map V.str o10.2))), (9, (V.sl 0 1 (List.map V.str o13.1))), (11, (V.sl 0 1 (List.map V.str o16.1))), (12, (I o16.2)), (13, (I o18.1)), (14, (I o18.2)), (106, (V.ptr 2 0 3)), (107, (sSlot (a0.fFields)))], [(2, ⟨false, 4, [(enc_T_api_Form a0)]⟩)], 229⟩ rfl rfl rfl ?_
  refine Eq.trans (reg_pure (x := some ()) (w := fun _ => (I (a0.fFields.length : Int))) rfl rfl rfl rfl (p_len (e := enc_T_api_Slot) rfl rfl rfl rfl rfl rfl Go.Proofs.Try.underlying23)) ?_
  refine Eq.trans some_bind ?_
  refine ba 0 3 ⟨[(2, (V.ptr 2 0 0)), (8, (V.sl 0 1 (List.map V.str o10.2))), (9, (V.sl 0 1 (List.map V.str o13.1))), (11, (V.sl 0 1 (List.map V.str o16.1))), (12, (I o16.2)), (13, (I o18.1)), (14, (I o18.2)), (106, (V.ptr 2 0 3)), (107, (sSlot (a0.fFields))), (108, (I (a0.fFields.length : Int)))], [(2, ⟨false, 4, [(enc_T_api_Form a0)]⟩)], 229⟩ rfl rfl rfl ?_
  refine Eq.trans (reg_eff (x := (mkN 0 (a0.fFields.length : Int))) (w := fun v19 => ((V.sl 2 1 (List.map I v19)), _)) rfl rfl rfl rfl (p_makeS (e := I) (z := 0) rfl rfl rfl rfl Go.Proofs.Try.underlying54 (of_decide_eq_true rfl) rfl rfl rfl rfl)) ?_
  refine bind_self (fun v19 => ?_)
  exact bind_end rfl
theorem f7r13 (k : Nat) (a0 : T_api_Form) (o10 : Int × (List Str)) (o13 : (List Str) × Int) (o16 : (List Str) × Int) (o18 : Int × Int) (o20 : (List Int)) : RE k f7a13 f7o13 false ⟨[(2, (V.ptr 2 0 0)), (8, (V.sl 0 1 (List.map V.str o10.2))), (9, (V.sl 0 1 (List.map V.str o13.1))), (11, (V.sl 0 1 (List.map V.str o16.1))), (12, (I o16.2)), (13, (I o18.1)), (14, (I o18.2)), (15, (V.aref 109 0 (List.map I o20).length)), (109, (V.aref 109 0 (List.map I o20).length))], [(2, ⟨false, 4, [(enc_T_api_Form a0)]⟩), (109, ⟨true, 1, List.map I o20⟩)], 229⟩ = some ⟨[(2, (V.ptr 2 0 0)), (8, (V.sl 0 1 (List.map V.str o10.2))), (9, (V.sl 0 1 (List.map V.str o13.1))), (11, (V.sl 0 1 (List.map V.str o16.1))), (12, (I o16.2)), (13, (I o18.1)), (14, (I o18.2)), (15, (V.aref 109 0 (List.map I o20).length)), (16, (I 0)), (109, (V.aref 109 0 (List.map I o20).length))], [(2, ⟨false, 4, [(enc_T_api_Form a0)]⟩), (109, ⟨true, 1, List.map I o20⟩)], 229⟩ :=
  rE rfl
theorem f7r14 (k : Nat) (a0 : T_api_Form) (o10 : Int × (List Str)) (o13 : (List Str) × Int) (o16 : (List Str) × Int) (o18 : Int × Int) (x89 : Int) (x90 : (List Int)) : RE k f7a14 f7o14 false ⟨[(2, (V.ptr 2 0 0)), (8, (V.sl 0 1 (List.map V.str o10.2))), (9, (V.sl 0 1 (List.map V.str o13.1))), (11, (V.sl 0 1 (List.map V.str o16.1))), (12, (I o16.2)), (13, (I o18.1)), (14, (I o18.2)), (15, (V.aref 109 0 (List.map I x90).length)), (16, (I x89)), (109, (V.aref 109 0 (List.map I x90).length))], [(2, ⟨false, 4, [(enc_T_api_Form a0)]⟩), (109, ⟨true, 1, List.map I x90⟩)], 229⟩ = some ⟨[(2, (V.ptr 2 0 0)), (8, (V.sl 0 1 (List.map V.str o10.2))), (9, (V.sl 0 1 (List.map V.str o13.1))), (11, (V.sl 0 1 (List.map V.str o16.1))), (12, (I o16.2)), (13, (I o18.1)), (14, (I o18.2)), (15, (V.aref 109 0 (List.map I x90).length)), (16, (I x89)), (109, (V.aref 109 0 (List.map I x90).length)), (113, (V.bool (decide (x89 < a0.fRows))))], [(2, ⟨false, 4, [(enc_T_api_Form a0)]⟩), (109, ⟨true, 1, List.map I x90⟩)], 229⟩ :=
  rE rfl
theorem f7r16 (k : Nat) (a0 : T_api_Form) (o10 : Int × (List Str)) (o13 : (List Str) × Int) (o16 : (List Str) × Int) (o18 : Int × Int) (x89 : Int) (x90 : (List Int)) : RE k f7a16 f7o16 true ⟨[(2, (V.ptr 2 0 0)), (8, (V.sl 0 1 (List.map V.str o10.2))), (9, (V.sl 0 1 (List.map V.str o13.1))), (11, (V.sl 0 1 (List.map V.str o16.1))), (12, (I o16.2)), (13, (I o18.1)), (14, (I o18.2)), (15, (V.aref 109 0 (List.map I x90).length)), (16, (I x89)), (109, (V.aref 109 0 (List.map I x90).length)), (113, (V.bool true))], [(2, ⟨false, 4, [(enc_T_api_Form a0)]⟩), (109, ⟨true, 1, List.map I x90⟩)], 229⟩ = (((idx o10.2 x89).bind fun v91 => ((idx o13.1 x89).bind fun v92 => (bif (!(v91 == v92)) then (some (true)) else ((idx o10.2 x89).bind fun v93 => (some (((v93.length : Int) != a0.fColumns)))))))).map (fun (o : Bool) => (⟨[(2, (V.ptr 2 0 0)), (8, (V.sl 0 1 (List.map V.str o10.2))), (9, (V.sl 0 1 (List.map V.str o13.1))), (11, (V.sl 0 1 (List.map V.str o16.1))), (12, (I o16.2)), (13, (I o18.1)), (14, (I o18.2)), (15, (V.aref 109 0 (List.map I x90).length)), (16, (I x89)), (109, (V.aref 109 0 (List.map I x90).length)), (134, (V.bool o))], [(2, ⟨false, 4, [(enc_T_api_Form a0)]⟩), (109, ⟨true, 1, List.map I x90⟩)], 229⟩ : St)) := by
  refine Eq.trans (regionE_regp (p := 19) (dk := true) (t := [(2, (V.ptr 2 0 0)), (8, (V.sl 0 1 (List.map V.str o10.2))), (9, (V.sl 0 1 (List.map V.str o13.1))), (11, (V.sl 0 1 (List.map V.str o16.1))), (12, (I o16.2)), (13, (I o18.1)), (14, (I o18.2)), (15, (V.aref 109 0 (List.map I x90).length)), (16, (I x89)), (109, (V.aref 109 0 (List.map I x90).length)), (113, (V.bool true))]) (σ := [(2, ⟨false, 4, [(enc_T_api_Form a0)]⟩), (109, ⟨true, 1, List.map I x90⟩)]) (n := 229) (by decide) (by decide) rfl) ?_
  refine Eq.trans (regp_adv (m := 2) (j := 2) (t' := [(2, (V.ptr 2 0 0)), (8, (V.sl 0 1 (List.map V.str o10.2))), (9, (V.sl 0 1 (List.map V.str o13.1))), (11, (V.sl 0 1 (List.map V.str o16.1))), (12, (I o16.2)), (13, (I o18.1)), (14, (I o18.2)), (15, (V.aref 109 0 (List.map I x90).length)), (16, (I x89)), (109, (V.aref 109 0 (List.map I x90).length)), (113, (V.bool true)), (116, (V.sl 0 1 (List.map V.str o10.2))), (117, (I x89))]) rfl rfl rfl) ?_
  refine Eq.trans (regp_pure (x := (idx o10.2 x89)) (w := fun v91 => (V.pro (V.str v91))) rfl rfl rfl rfl rfl (p_index (e := V.str) rfl rfl rfl Go.Proofs.Try.underlying26 rfl (by decide))) ?_
  refine bindE (fun v91 => ?_)
  refine Eq.trans (putp_adv (m := 3) (j := 6) (t' := [(2, (V.ptr 2 0 0)), (8, (V.sl 0 1 (List.map V.str o10.2))), (9, (V.sl 0 1 (List.map V.str o13.1))), (11, (V.sl 0 1 (List.map V.str o16.1))), (12, (I o16.2)), (13, (I o18.1)), (14, (I o18.2)), (15, (V.aref 109 0 (List.map I x90).length)), (16, (I x89)), (109, (V.aref 109 0 (List.map I x90).length)), (113, (V.bool true)), (116, (V.sl 0 1 (List.map V.str o10.2))), (117, (I x89)), (118, (V.pro (V.str v91))), (119, (V.str v91)), (120, (V.sl 0 1 (List.map V.str o13.1))), (121, (I x89))]) rfl rfl rfl) ?_
  refine Eq.trans (regp_pure (x := (idx o13.1 x89)) (w := fun v92 => (V.pro (V.str v92))) rfl rfl rfl rfl rfl (p_index (e := V.str) rfl rfl rfl Go.Proofs.Try.underlying26 rfl (by decide))) ?_
  refine bindE (fun v92 => ?_)
  refine Eq.trans (putp_adv (m := 3) (j := 10) (t' := [(2, (V.ptr 2 0 0)), (8, (V.sl 0 1 (List.map V.str o10.2))), (9, (V.sl 0 1 (List.map V.str o13.1))), (11, (V.sl 0 1 (List.map V.str o16.1))), (12, (I o16.2)), (13, (I o18.1)), (14, (I o18.2)), (15, (V.aref 109 0 (List.map I x90).length)), (16, (I x89)), (109, (V.aref 109 0 (List.map I x90).length)), (113, (V.bool true)), (116, (V.sl 0 1 (List.map V.str o10.2))), (117, (I x89)), (118, (V.pro (V.str v91))), (119, (V.str v91)), (120, (V.sl 0 1 (List.map V.str o13.1))), (121, (I x89)), (122, (V.pro (V.str v92))), (123, (V.str v92)), (124, (V.bool (!(v91 == v92)))), (125, (V.bool (!(v91 == v92))))]) rfl rfl rfl) ?_
  refine bifE (c := (!(v91 == v92))) (fun hc => ?_) fun hc => ?_
  · rw [hc]
    exact regp_end rfl
  · rw [hc]
    refine Eq.trans (regp_adv (m := 2) (j := 12) (t' := [(2, (V.ptr 2 0 0)), (8, (V.sl 0 1 (List.map V.str o10.2))), (9, (V.sl 0 1 (List.map V.str o13.1))), (11, (V.sl 0 1 (List.map V.str o16.1))), (12, (I o16.2)), (13, (I o18.1)), (14, (I o18.2)), (15, (V.aref 109 0 (List.map I x90).length)), (16, (I x89)), (109, (V.aref 109 0 (List.map I x90).length)), (113, (V.bool true)), (116, (V.sl 0 1 (List.map V.str o10.2))), (117, (I x89)), (118, (V.pro (V.str v91))), (119, (V.str v91)), (120, (V.sl 0 1 (List.map V.str o13.1))), (121, (I x89)), (122, (V.pro (V.str v92))), (123, (V.str v92)), (124, (V.bool false)), (125, (V.bool false)), (126, (V.sl 0 1 (List.map V.str o10.2))), (127, (I x89))]) rfl rfl rfl) ?_
    refine Eq.trans (regp_pure (x := (idx o10.2 x89)) (w := fun v93 => (V.pro (V.str v93))) rfl rfl rfl rfl rfl (p_index (e := V.str) rfl rfl rfl Go.Proofs.Try.underlying26 rfl (by decide))) ?_
    refine bindE (fun v93 => ?_)
    exact regp_end rfl
theorem f7r17 (k : Nat) (a0 : T_api_Form) (o10 : Int × (List Str)) (o13 : (List Str) × Int) (o16 : (List Str) × Int) (o18 : Int × Int) (x89 : Int) (x90 : (List Int)) : RE k f7a17 f7o17 false ⟨[(2, (V.ptr 2 0 0)), (8, (V.sl 0 1 (List.map V.str o10.2))), (9, (V.sl 0 1 (List.map V.str o13.1))), (11, (V.sl 0 1 (List.map V.str o16.1))), (12, (I o16.2)), (13, (I o18.1)), (14, (I o18.2)), (15, (V.aref 109 0 (List.map I x90).length)), (16, (I x89)), (109, (V.aref 109 0 (List.map I x90).length)), (134, (V.bool true))], [(2, ⟨false, 4, [(enc_T_api_Form a0)]⟩), (109, ⟨true, 1, List.map I x90⟩)], 229⟩ = some ⟨[(4, (V.bool false))], [], 229⟩ :=
  rE rfl
theorem f7r18 (k : Nat) (a0 : T_api_Form) (o10 : Int × (List Str)) (o13 : (List Str) × Int) (o16 : (List Str) × Int) (o18 : Int × Int) (x89 : Int) (x90 : (List Int)) : RE k f7a18 f7o18 false ⟨[(2, (V.ptr 2 0 0)), (8, (V.sl 0 1 (List.map V.str o10.2))), (9, (V.sl 0 1 (List.map V.str o13.1))), (11, (V.sl 0 1 (List.map V.str o16.1))), (12, (I o16.2)), (13, (I o18.1)), (14, (I o18.2)), (15, (V.aref 109 0 (List.map I x90).length)), (16, (I x89)), (109, (V.aref 109 0 (List.map I x90).length)), (134, (V.bool false))], [(2, ⟨false, 4, [(enc_T_api_Form a0)]⟩), (109, ⟨true, 1, List.map I x90⟩)], 229⟩ = some ⟨[(2, (V.ptr 2 0 0)), (8, (V.sl 0 1 (List.map V.str o10.2))), (9, (V.sl 0 1 (List.map V.str o13.1))), (11, (V.sl 0 1 (List.map V.str o16.1))), (12, (I o16.2)), (13, (I o18.1)), (14, (I o18.2)), (15, (V.aref 109 0 (List.map I x90).length)), (16, (I x89)), (17, (I 0)), (109, (V.aref 109 0 (List.map I x90).length))], [(2, ⟨false, 4, [(enc_T_api_Form a0)]⟩), (109, ⟨true, 1, List.map I x90⟩)], 229⟩ :=
  rE rfl
theorem f7r19 (k : Nat) (a0 : T_api_Form) (o10 : Int × (List Str)) (o13 : (List Str) × Int) (o16 : (List Str) × Int) (o18 : Int × Int) (x89 : Int) (x125 : Int) (x126 : (List Int)) : RE k f7a19 f7o19 false ⟨[(2, (V.ptr 2 0 0)), (8, (V.sl 0 1 (List.map V.str o10.2))), (9, (V.sl 0 1 (List.map V.str o13.1))), (11, (V.sl 0 1 (List.map V.str o16.1))), (12, (I o16.2)), (13, (I o18.1)), (14, (I o18.2)), (15, (V.aref 109 0 (List.map I x126).length)), (16, (I x89)), (17, (I x125)), (109, (V.aref 109 0 (List.map I x126).length))], [(2, ⟨false, 4, [(enc_T_api_Form a0)]⟩), (109, ⟨true, 1, List.map I x126⟩)], 229⟩ = some ⟨[(2, (V.ptr 2 0 0)), (8, (V.sl 0 1 (List.map V.str o10.2))), (9, (V.sl 0 1 (List.map V.str o13.1))), (11, (V.sl 0 1 (List.map V.str o16.1))), (12, (I o16.2)), (13, (I o18.1)), (14, (I o18.2)), (15, (V.aref 109 0 (List.map I x126).length)), (16, (I x89)), (17, (I x125)), (109, (V.aref 109 0 (List.map I x126).length)), (138, (V.bool (decide (x125 < a0.fColumns))))], [(2, ⟨false, 4, [(enc_T_api_Form a0)]⟩), (109, ⟨true, 1, List.map I x126⟩)], 229⟩ :=
  rE rfl
theorem f7r21 (k : Nat) (a0 : T_api_Form) (o10 : Int × (List Str)) (o13 : (List Str) × Int) (o16 : (List Str) × Int) (o18 : Int × Int) (x89 : Int) (x125 : Int) (x126 : (List Int)) : RE k f7a21 f7o21 false ⟨[(2, (V.ptr 2 0 0)), (8, (V.sl 0 1 (List.map V.str o10.2))), (9, (V.sl 0 1 (List.map V.str o13.1))), (11, (V.sl 0 1 (List.map V.str o16.1))), (12, (I o16.2)), (13, (I o18.1)), (14, (I o18.2)), (15, (V.aref 109 0 (List.map I x126).length)), (16, (I x89)), (17, (I x125)), (109, (V.aref 109 0 (List.map I x126).length)), (138, (V.bool true))], [(2, ⟨false, 4, [(enc_T_api_Form a0)]⟩), (109, ⟨true, 1, List.map I x126⟩)], 229⟩ = (((screen_At k a0 x89 x125).bind fun v127 => (some (v127.1, v127.2)))).map (fun (o : Int × Int) => (⟨[(2, (V.ptr 2 0 0)), (8, (V.sl 0 1 (List.map V.str o10.2))), (9, (V.sl 0 1 (List.map V.str o13.1))), (11, (V.sl 0 1 (List.map V.str o16.1))), (12, (I o16.2)), (13, (I o18.1)), (14, (I o18.2)), (15, (V.aref 109 0 (List.map I x126).length)), (16, (I x89)), (17, (I x125)), (18, (I o.1)), (19, (I o.2)), (109, (V.aref 109 0 (List.map I x126).length))], [(2, ⟨false, 4, [(enc_T_api_Form a0)]⟩), (109, ⟨true, 1, List.map I x126⟩)], 229⟩ : St)) := by
  refine rg ?_
  refine ra 3 3 ⟨[(2, (V.ptr 2 0 0)), (8, (V.sl 0 1 (List.map V.str o10.2))), (9, (V.sl 0 1 (List.map V.str o13.1))), (11, (V.sl 0 1 (List.map V.str o16.1))), (12, (I o16.2)), (13, (I o18.1)), (14, (I o18.2)), (15, (V.aref 109 0 (List.map I x126).length)), (16, (I x89)), (17, (I x125)), (109, (V.aref 109 0 (List.map I x126).length)), (138, (V.bool true)), (142, (enc_T_api_Form a0)), (143, (I x89)), (144, (I x125))], [(2, ⟨false, 4, [(enc_T_api_Form a0)]⟩), (109, ⟨true, 1, List.map I x126⟩)], 229⟩ rfl rfl rfl ?_
  refine Eq.trans (reg_pure (x := (screen_At k a0 x89 x125)) (w := fun v127 => (V.tup [(I v127.1), (I v127.2)])) rfl rfl rfl rfl (p_call rfl rfl rfl rfl rfl (screen_At_ok k a0 x89 x125) (.inl rfl))) ?_
  refine bindE (fun v127 => ?_)
  exact bind_end rfl
theorem f7r22 (k : Nat) (a0 : T_api_Form) (o10 : Int × (List Str)) (o13 : (List Str) × Int) (o16 : (List Str) × Int) (o18 : Int × Int) (x89 : Int) (x125 : Int) (x126 : (List Int)) (o128 : Int × Int) : RE k f7a22 f7o22 false ⟨[(2, (V.ptr 2 0 0)), (8, (V.sl 0 1 (List.map V.str o10.2))), (9, (V.sl 0 1 (List.map V.str o13.1))), (11, (V.sl 0 1 (List.map V.str o16.1))), (12, (I o16.2)), (13, (I o18.1)), (14, (I o18.2)), (15, (V.aref 109 0 (List.map I x126).length)), (16, (I x89)), (17, (I x125)), (18, (I o128.1)), (19, (I o128.2)), (109, (V.aref 109 0 (List.map I x126).length))], [(2, ⟨false, 4, [(enc_T_api_Form a0)]⟩), (109, ⟨true, 1, List.map I x126⟩)], 229⟩ = ((bif (o128.2 != 0) then (some (true)) else (bif (decide (o128.1 < (-1))) then (some (true)) else (some ((decide (o128.1 ≥ (x126.length : Int)))))))).map (fun (o : Bool) => (⟨[(2, (V.ptr 2 0 0)), (8, (V.sl 0 1 (List.map V.str o10.2))), (9, (V.sl 0 1 (List.map V.str o13.1))), (11, (V.sl 0 1 (List.map V.str o16.1))), (12, (I o16.2)), (13, (I o18.1)), (14, (I o18.2)), (15, (V.aref 109 0 (List.map I x126).length)), (16, (I x89)), (17, (I x125)), (18, (I o128.1)), (109, (V.aref 109 0 (List.map I x126).length)), (159, (V.bool o))], [(2, ⟨false, 4, [(enc_T_api_Form a0)]⟩), (109, ⟨true, 1, List.map I x126⟩)], 229⟩ : St)) := by
  refine rg ?_
  refine ra 3 3 ⟨[(2, (V.ptr 2 0 0)), (8, (V.sl 0 1 (List.map V.str o10.2))), (9, (V.sl 0 1 (List.map V.str o13.1))), (11, (V.sl 0 1 (List.map V.str o16.1))), (12, (I o16.2)), (13, (I o18.1)), (14, (I o18.2)), (15, (V.aref 109 0 (List.map I x126).length)), (16, (I x89)), (17, (I x125)), (18, (I o128.1)), (19, (I o128.2)), (109, (V.aref 109 0 (List.map I x126).length)), (148, (I o128.2)), (149, (V.bool (o128.2 != 0))), (150, (V.bool (o128.2 != 0)))], [(2, ⟨false, 4, [(enc_T_api_Form a0)]⟩), (109, ⟨true, 1, List.map I x126⟩)], 229⟩ rfl rfl rfl ?_
  refine bifE (c := (o128.2 != 0)) (fun hc => ?_) fun hc => ?_
  · rw [hc]
    exact reg_end rfl
  · rw [hc]
    refine ra 4 7 ⟨[(2, (V.ptr 2 0 0)), (8, (V.sl 0 1 (List.map V.str o10.2))), (9, (V.sl 0 1 (List.map V.str o13.1))), (11, (V.sl 0 1 (List.map V.str o16.1))), (12, (I o16.2)), (13, (I o18.1)), (14, (I o18.2)), (15, (V.aref 109 0 (List.map I x126).length)), (16, (I x89)), (17, (I x125)), (18, (I o128.1)), (19, (I o128.2)), (109, (V.aref 109 0 (List.map I x126).length)), (148, (I o128.2)), (149, (V.bool false)), (150, (V.bool false)), (151, (I o128.1)), (152, (V.bool (decide (o128.1 < (-1))))), (153, (V.bool (decide (o128.1 < (-1))))), (154, (V.bool (decide (o128.1 < (-1)))))], [(2, ⟨false, 4, [(enc_T_api_Form a0)]⟩), (109, ⟨true, 1, List.map I x126⟩)], 229⟩ rfl rfl rfl ?_
    refine bifE (c := (decide (o128.1 < (-1)))) (fun hc => ?_) fun hc => ?_
    · rw [hc]
      exact reg_end rfl
    · rw [hc]
      refine ra 2 9 ⟨[(2, (V.ptr 2 0 0)), (8, (V.sl 0 1 (List.map V.str o10.2))), (9, (V.sl 0 1 (List.map V.str o13.1))), (11, (V.sl 0 1 (List.map V.str o16.1))), (12, (I o16.2)), (13, (I o18.1)), (14, (I o18.2)), (15, (V.aref 109 0 (List.map I x126).length)), (16, (I x89)), (17, (I x125)), (18, (I o128.1)), (19, (I o128.2)), (109, (V.aref 109 0 (List.map I x126).length)), (148, (I o128.2)), (149, (V.bool false)), (150, (V.bool false)), (151, (I o128.1)), (152, (V.bool false)), (153, (V.bool false)), (154, (V.bool false)), (155, (I o128.1)), (156, (V.aref 109 0 (List.map I x126).length))], [(2, ⟨false, 4, [(enc_T_api_Form a0)]⟩), (109, ⟨true, 1, List.map I x126⟩)], 229⟩ rfl rfl rfl ?_
      refine Eq.trans (reg_pure (x := some ()) (w := fun _ => (I (x126.length : Int))) rfl rfl rfl rfl (p_lenA (e := I) rfl rfl rfl rfl rfl rfl Go.Proofs.Try.underlying54)) ?_
      refine Eq.trans some_bind ?_
      exact bind_end rfl
theorem f7r23 (k : Nat) (a0 : T_api_Form) (o10 : Int × (List Str)) (o13 : (List Str) × Int) (o16 : (List Str) × Int) (o18 : Int × Int) (x89 : Int) (x125 : Int) (x126 : (List Int)) (o128 : Int × Int) : RE k f7a23 f7o23 false ⟨[(2, (V.ptr 2 0 0)), (8, (V.sl 0 1 (List.map V.str o10.2))), (9, (V.sl 0 1 (List.map V.str o13.1))), (11, (V.sl 0 1 (List.map V.str o16.1))), (12, (I o16.2)), (13, (I o18.1)), (14, (I o18.2)), (15, (V.aref 109 0 (List.map I x126).length)), (16, (I x89)), (17, (I x125)), (18, (I o128.1)), (109, (V.aref 109 0 (List.map I x126).length)), (159, (V.bool true))], [(2, ⟨false, 4, [(enc_T_api_Form a0)]⟩), (109, ⟨true, 1, List.map I x126⟩)], 229⟩ = some ⟨[(4, (V.bool false))], [], 229⟩ :=
  rE rfl
theorem f7r24 (k : Nat) (a0 : T_api_Form) (o10 : Int × (List Str)) (o13 : (List Str) × Int) (o16 : (List Str) × Int) (o18 : Int × Int) (x89 : Int) (x125 : Int) (x126 : (List Int)) (o128 : Int × Int) : RE k f7a24 f7o24 false ⟨[(2, (V.ptr 2 0 0)), (8, (V.sl 0 1 (List.map V.str o10.2))), (9, (V.sl 0 1 (List.map V.str o13.1))), (11, (V.sl 0 1 (List.map V.str o16.1))), (12, (I o16.2)), (13, (I o18.1)), (14, (I o18.2)), (15, (V.aref 109 0 (List.map I x126).length)), (16, (I x89)), (17, (I x125)), (18, (I o128.1)), (109, (V.aref 109 0 (List.map I x126).length)), (159, (V.bool false))], [(2, ⟨false, 4, [(enc_T_api_Form a0)]⟩), (109, ⟨true, 1, List.map I x126⟩)], 229⟩ = some ⟨[(2, (V.ptr 2 0 0)), (8, (V.sl 0 1 (List.map V.str o10.2))), (9, (V.sl 0 1 (List.map V.str o13.1))), (11, (V.sl 0 1 (List.map V.str o16.1))), (12, (I o16.2)), (13, (I o18.1)), (14, (I o18.2)), (15, (V.aref 109 0 (List.map I x126).length)), (16, (I x89)), (17, (I x125)), (18, (I o128.1)), (109, (V.aref 109 0 (List.map I x126).length)), (161, (V.bool (decide (o128.1 ≥ 0))))], [(2, ⟨false, 4, [(enc_T_api_Form a0)]⟩), (109, ⟨true, 1, List.map I x126⟩)], 229⟩ :=
  rE rfl
theorem f7r25 (k : Nat) (a0 : T_api_Form) (o10 : Int × (List Str)) (o13 : (List Str) × Int) (o16 : (List Str) × Int) (o18 : Int × Int) (x89 : Int) (x125 : Int) (x126 : (List Int)) (o128 : Int × Int) : RE k f7a25 f7o25 false ⟨[(2, (V.ptr 2 0 0)), (8, (V.sl 0 1 (List.map V.str o10.2))), (9, (V.sl 0 1 (List.map V.str o13.1))), (11, (V.sl 0 1 (List.map V.str o16.1))), (12, (I o16.2)), (13, (I o18.1)), (14, (I o18.2)), (15, (V.aref 109 0 (List.map I x126).length)), (16, (I x89)), (17, (I x125)), (18, (I o128.1)), (109, (V.aref 109 0 (List.map I x126).length)), (161, (V.bool true))], [(2, ⟨false, 4, [(enc_T_api_Form a0)]⟩), (109, ⟨true, 1, List.map I x126⟩)], 229⟩ = (((inB x126.length o128.1).bind fun v130 => ((x126[0 + o128.1.toNat]?).bind fun v131 => ((inB x126.length o128.1).bind fun v132 => ((x126[0 + o128.1.toNat]?).bind fun v133 => (some ((x126.set (0 + o128.1.toNat) (Go.IntKind.wrap .i64 (v131 + 1)))))))))).map (fun (o : (List Int)) => (⟨[(2, (V.ptr 2 0 0)), (8, (V.sl 0 1 (List.map V.str o10.2))), (9, (V.sl 0 1 (List.map V.str o13.1))), (11, (V.sl 0 1 (List.map V.str o16.1))), (12, (I o16.2)), (13, (I o18.1)), (14, (I o18.2)), (15, (V.aref 109 0 (List.map I o).length)), (16, (I x89)), (17, (I x125)), (18, (I o128.1)), (109, (V.aref 109 0 (List.map I o).length))], [(2, ⟨false, 4, [(enc_T_api_Form a0)]⟩), (109, ⟨true, 1, List.map I o⟩)], 229⟩ : St)) := by
  refine rg ?_
  refine ra 2 2 ⟨[(2, (V.ptr 2 0 0)), (8, (V.sl 0 1 (List.map V.str o10.2))), (9, (V.sl 0 1 (List.map V.str o13.1))), (11, (V.sl 0 1 (List.map V.str o16.1))), (12, (I o16.2)), (13, (I o18.1)), (14, (I o18.2)), (15, (V.aref 109 0 (List.map I x126).length)), (16, (I x89)), (17, (I x125)), (18, (I o128.1)), (109, (V.aref 109 0 (List.map I x126).length)), (161, (V.bool true)), (162, (V.aref 109 0 (List.map I x126).length)), (163, (I o128.1))], [(2, ⟨false, 4, [(enc_T_api_Form a0)]⟩), (109, ⟨true, 1, List.map I x126⟩)], 229⟩ rfl rfl rfl ?_
  refine Eq.trans (reg_pure (x := (inB x126.length o128.1)) (w := fun v130 => (V.ptr 109 (0 + o128.1.toNat) 0)) rfl rfl rfl rfl (p_indexF (e := I) rfl rfl rfl Go.Proofs.Try.underlying54 rfl rfl (by decide))) ?_
  refine bindE (fun v130 => ?_)
  refine ba 0 3 ⟨[(2, (V.ptr 2 0 0)), (8, (V.sl 0 1 (List.map V.str o10.2))), (9, (V.sl 0 1 (List.map V.str o13.1))), (11, (V.sl 0 1 (List.map V.str o16.1))), (12, (I o16.2)), (13, (I o18.1)), (14, (I o18.2)), (15, (V.aref 109 0 (List.map I x126).length)), (16, (I x89)), (17, (I x125)), (18, (I o128.1)), (109, (V.aref 109 0 (List.map I x126).length)), (161, (V.bool true)), (162, (V.aref 109 0 (List.map I x126).length)), (163, (I o128.1)), (164, (V.ptr 109 (0 + o128.1.toNat) 0))], [(2, ⟨false, 4, [(enc_T_api_Form a0)]⟩), (109, ⟨true, 1, List.map I x126⟩)], 229⟩ rfl rfl rfl ?_
  refine Eq.trans (reg_pure (x := (x126[0 + o128.1.toNat]?)) (w := fun v131 => (I v131)) rfl rfl rfl rfl (p_loadA (e := I) rfl rfl rfl (fun _ => rfl) (fun _ => rfl))) ?_
  refine bindE (fun v131 => ?_)
  refine ba 1 5 ⟨[(2, (V.ptr 2 0 0)), (8, (V.sl 0 1 (List.map V.str o10.2))), (9, (V.sl 0 1 (List.map V.str o13.1))), (11, (V.sl 0 1 (List.map V.str o16.1))), (12, (I o16.2)), (13, (I o18.1)), (14, (I o18.2)), (15, (V.aref 109 0 (List.map I x126).length)), (16, (I x89)), (17, (I x125)), (18, (I o128.1)), (109, (V.aref 109 0 (List.map I x126).length)), (161, (V.bool true)), (162, (V.aref 109 0 (List.map I x126).length)), (163, (I o128.1)), (164, (V.ptr 109 (0 + o128.1.toNat) 0)), (165, (I v131)), (166, (I (Go.IntKind.wrap .i64 (v131 + 1))))], [(2, ⟨false, 4, [(enc_T_api_Form a0)]⟩), (109, ⟨true, 1, List.map I x126⟩)], 229⟩ rfl rfl rfl ?_
  refine Eq.trans (reg_pure (x := (inB x126.length o128.1)) (w := fun v132 => (V.ptr 109 (0 + o128.1.toNat) 0)) rfl rfl rfl rfl (p_indexF (e := I) rfl rfl rfl Go.Proofs.Try.underlying54 rfl rfl (by decide))) ?_
  refine bindE (fun v132 => ?_)
  refine ba 0 6 ⟨[(2, (V.ptr 2 0 0)), (8, (V.sl 0 1 (List.map V.str o10.2))), (9, (V.sl 0 1 (List.map V.str o13.1))), (11, (V.sl 0 1 (List.map V.str o16.1))), (12, (I o16.2)), (13, (I o18.1)), (14, (I o18.2)), (15, (V.aref 109 0 (List.map I x126).length)), (16, (I x89)), (17, (I x125)), (18, (I o128.1)), (109, (V.aref 109 0 (List.map I x126).length)), (161, (V.bool true)), (162, (V.aref 109 0 (List.map I x126).length)), (163, (I o128.1)), (164, (V.ptr 109 (0 + o128.1.toNat) 0)), (165, (I v131)), (166, (I (Go.IntKind.wrap .i64 (v131 + 1)))), (167, (V.ptr 109 (0 + o128.1.toNat) 0))], [(2, ⟨false, 4, [(enc_T_api_Form a0)]⟩), (109, ⟨true, 1, List.map I x126⟩)], 229⟩ rfl rfl rfl ?_
  refine Eq.trans (reg_eff (x := (x126[0 + o128.1.toNat]?)) (w := fun _ => (V.tup [], _)) rfl rfl rfl rfl (p_storeL (S := (fun n_ => ⟨[(2, (V.ptr 2 0 0)), (8, (V.sl 0 1 (List.map V.str o10.2))), (9, (V.sl 0 1 (List.map V.str o13.1))), (11, (V.sl 0 1 (List.map V.str o16.1))), (12, (I o16.2)), (13, (I o18.1)), (14, (I o18.2)), (15, (V.aref 109 0 n_)), (16, (I x89)), (17, (I x125)), (18, (I o128.1)), (109, (V.aref 109 0 n_)), (161, (V.bool true)), (162, (V.aref 109 0 n_)), (163, (I o128.1)), (164, (V.ptr 109 (0 + o128.1.toNat) 0)), (165, (I v131)), (166, (I (Go.IntKind.wrap .i64 (v131 + 1)))), (167, (V.ptr 109 (0 + o128.1.toNat) 0))], [(2, ⟨false, 4, [(enc_T_api_Form a0)]⟩), (109, ⟨true, 1, List.map I x126⟩)], 229⟩)) (e := I) (l := x126) (v := (Go.IntKind.wrap .i64 (v131 + 1))) rfl rfl rfl rfl rfl rfl rfl rfl rfl rfl (fun _ => rfl))) ?_
  refine bindE (fun v133 => ?_)
  exact bind_end rfl
theorem f7r26 (k : Nat) (a0 : T_api_Form) (o10 : Int × (List Str)) (o13 : (List Str) × Int) (o16 : (List Str) × Int) (o18 : Int × Int) (x89 : Int) (x125 : Int) (o128 : Int × Int) (o134 : (List Int)) : RE k f7a26 f7o26 true ⟨[(2, (V.ptr 2 0 0)), (8, (V.sl 0 1 (List.map V.str o10.2))), (9, (V.sl 0 1 (List.map V.str o13.1))), (11, (V.sl 0 1 (List.map V.str o16.1))), (12, (I o16.2)), (13, (I o18.1)), (14, (I o18.2)), (15, (V.aref 109 0 (List.map I o134).length)), (16, (I x89)), (17, (I x125)), (18, (I o128.1)), (109, (V.aref 109 0 (List.map I o134).length))], [(2, ⟨false, 4, [(enc_T_api_Form a0)]⟩), (109, ⟨true, 1, List.map I o134⟩)], 229⟩ = ((bif (o16.2 == 0) then (bif (o18.2 != 0) then (bif ((o16.1.length : Int) != a0.fRows) then (some (true)) else ((idx o16.1 x89).bind fun v135 => (bif ((v135.length : Int) != a0.fColumns) then (some (true)) else ((idx o16.1 x89).bind fun v136 => ((idxS v136 x125).bind fun v137 => ((idx o10.2 x89).bind fun v138 => ((idxS v138 x125).bind fun v139 => (some ((v137 != v139)))))))))) else (bif (o128.1 != o18.1) then (bif ((o16.1.length : Int) != a0.fRows) then (some (true)) else ((idx o16.1 x89).bind fun v140 => (bif ((v140.length : Int) != a0.fColumns) then (some (true)) else ((idx o16.1 x89).bind fun v141 => ((idxS v141 x125).bind fun v142 => ((idx o10.2 x89).bind fun v143 => ((idxS v143 x125).bind fun v144 => (some ((v142 != v144)))))))))) else (some (false)))) else (some (false)))).map (fun (o : Bool) => (⟨[(2, (V.ptr 2 0 0)), (8, (V.sl 0 1 (List.map V.str o10.2))), (9, (V.sl 0 1 (List.map V.str o13.1))), (11, (V.sl 0 1 (List.map V.str o16.1))), (12, (I o16.2)), (13, (I o18.1)), (14, (I o18.2)), (15, (V.aref 109 0 (List.map I o134).length)), (16, (I x89)), (17, (I x125)), (109, (V.aref 109 0 (List.map I o134).length)), (210, (V.bool o))], [(2, ⟨false, 4, [(enc_T_api_Form a0)]⟩), (109, ⟨true, 1, List.map I o134⟩)], 229⟩ : St)) := by
  refine Eq.trans (regionE_regp (p := 43) (dk := true) (t := [(2, (V.ptr 2 0 0)), (8, (V.sl 0 1 (List.map V.str o10.2))), (9, (V.sl 0 1 (List.map V.str o13.1))), (11, (V.sl 0 1 (List.map V.str o16.1))), (12, (I o16.2)), (13, (I o18.1)), (14, (I o18.2)), (15, (V.aref 109 0 (List.map I o134).length)), (16, (I x89)), (17, (I x125)), (18, (I o128.1)), (109, (V.aref 109 0 (List.map I o134).length))]) (σ := [(2, ⟨false, 4, [(enc_T_api_Form a0)]⟩), (109, ⟨true, 1, List.map I o134⟩)]) (n := 229) (by decide) (by decide) rfl) ?_
  refine Eq.trans (regp_adv (m := 3) (j := 3) (t' := [(2, (V.ptr 2 0 0)), (8, (V.sl 0 1 (List.map V.str o10.2))), (9, (V.sl 0 1 (List.map V.str o13.1))), (11, (V.sl 0 1 (List.map V.str o16.1))), (12, (I o16.2)), (13, (I o18.1)), (14, (I o18.2)), (15, (V.aref 109 0 (List.map I o134).length)), (16, (I x89)), (17, (I x125)), (18, (I o128.1)), (109, (V.aref 109 0 (List.map I o134).length)), (168, (I o16.2)), (169, (V.bool (o16.2 == 0))), (170, (V.bool (o16.2 == 0)))]) rfl rfl rfl) ?_
  refine bifE (c := (o16.2 == 0)) (fun hc => ?_) fun hc => ?_
  · rw [hc]
    refine Eq.trans (regp_adv (m := 3) (j := 6) (t' := [(2, (V.ptr 2 0 0)), (8, (V.sl 0 1 (List.map V.str o10.2))), (9, (V.sl 0 1 (List.map V.str o13.1))), (11, (V.sl 0 1 (List.map V.str o16.1))), (12, (I o16.2)), (13, (I o18.1)), (14, (I o18.2)), (15, (V.aref 109 0 (List.map I o134).length)), (16, (I x89)), (17, (I x125)), (18, (I o128.1)), (109, (V.aref 109 0 (List.map I o134).length)), (168, (I o16.2)), (169, (V.bool true)), (170, (V.bool true)), (171, (I o18.2)), (172, (V.bool (o18.2 != 0))), (173, (V.bool (o18.2 != 0)))]) rfl rfl rfl) ?_
    refine bifE (c := (o18.2 != 0)) (fun hc => ?_) fun hc => ?_
    · rw [hc]
      refine Eq.trans (regp_adv (m := 7) (j := 13) (t' := [(2, (V.ptr 2 0 0)), (8, (V.sl 0 1 (List.map V.str o10.2))), (9, (V.sl 0 1 (List.map V.str o13.1))), (11, (V.sl 0 1 (List.map V.str o16.1))), (12, (I o16.2)), (13, (I o18.1)), (14, (I o18.2)), (15, (V.aref 109 0 (List.map I o134).length)), (16, (I x89)), (17, (I x125)), (18, (I o128.1)), (109, (V.aref 109 0 (List.map I o134).length)), (168, (I o16.2)), (169, (V.bool true)), (170, (V.bool true)), (171, (I o18.2)), (172, (V.bool true)), (173, (V.bool true)), (174, (V.tup [])), (175, (V.tup [])), (176, (V.tup [])), (177, (V.bool true)), (178, (V.bool true)), (179, (V.bool true)), (180, (V.sl 0 1 (List.map V.str o16.1)))]) rfl rfl rfl) ?_
      refine Eq.trans (regp_pure (x := some ()) (w := fun _ => (I (o16.1.length : Int))) rfl rfl rfl rfl rfl (p_len (e := V.str) rfl rfl rfl rfl rfl rfl Go.Proofs.Try.underlying26)) ?_
      refine Eq.trans some_bind ?_
      refine Eq.trans (putp_adv (m := 4) (j := 18) (t' := [(2, (V.ptr 2 0 0)), (8, (V.sl 0 1 (List.map V.str o10.2))), (9, (V.sl 0 1 (List.map V.str o13.1))), (11, (V.sl 0 1 (List.map V.str o16.1))), (12, (I o16.2)), (13, (I o18.1)), (14, (I o18.2)), (15, (V.aref 109 0 (List.map I o134).length)), (16, (I x89)), (17, (I x125)), (18, (I o128.1)), (109, (V.aref 109 0 (List.map I o134).length)), (168, (I o16.2)), (169, (V.bool true)), (170, (V.bool true)), (171, (I o18.2)), (172, (V.bool true)), (173, (V.bool true)), (174, (V.tup [])), (175, (V.tup [])), (176, (V.tup [])), (177, (V.bool true)), (178, (V.bool true)), (179, (V.bool true)), (180, (V.sl 0 1 (List.map V.str o16.1))), (181, (I (o16.1.length : Int))), (182, (V.ptr 2 0 0)), (183, (I a0.fRows)), (184, (V.bool ((o16.1.length : Int) != a0.fRows))), (185, (V.bool ((o16.1.length : Int) != a0.fRows)))]) rfl rfl rfl) ?_
      refine bifE (c := ((o16.1.length : Int) != a0.fRows)) (fun hc => ?_) fun hc => ?_
      · rw [hc]
        exact regp_end rfl
      · rw [hc]
        refine Eq.trans (regp_adv (m := 2) (j := 20) (t' := [(2, (V.ptr 2 0 0)), (8, (V.sl 0 1 (List.map V.str o10.2))), (9, (V.sl 0 1 (List.map V.str o13.1))), (11, (V.sl 0 1 (List.map V.str o16.1))), (12, (I o16.2)), (13, (I o18.1)), (14, (I o18.2)), (15, (V.aref 109 0 (List.map I o134).length)), (16, (I x89)), (17, (I x125)), (18, (I o128.1)), (109, (V.aref 109 0 (List.map I o134).length)), (168, (I o16.2)), (169, (V.bool true)), (170, (V.bool true)), (171, (I o18.2)), (172, (V.bool true)), (173, (V.bool true)), (174, (V.tup [])), (175, (V.tup [])), (176, (V.tup [])), (177, (V.bool true)), (178, (V.bool true)), (179, (V.bool true)), (180, (V.sl 0 1 (List.map V.str o16.1))), (181, (I (o16.1.length : Int))), (182, (V.ptr 2 0 0)), (183, (I a0.fRows)), (184, (V.bool false)), (185, (V.bool false)), (186, (V.sl 0 1 (List.map V.str o16.1))), (187, (I x89))]) rfl rfl rfl) ?_
        refine Eq.trans (regp_pure (x := (idx o16.1 x89)) (w := fun v135 => (V.pro (V.str v135))) rfl rfl rfl rfl rfl (p_index (e := V.str) rfl rfl rfl Go.Proofs.Try.underlying26 rfl (by decide))) ?_
        refine bindE (fun v135 => ?_)
        refine Eq.trans (putp_adv (m := 7) (j := 28) (t' := [(2, (V.ptr 2 0 0)), (8, (V.sl 0 1 (List.map V.str o10.2))), (9, (V.sl 0 1 (List.map V.str o13.1))), (11, (V.sl 0 1 (List.map V.str o16.1))), (12, (I o16.2)), (13, (I o18.1)), (14, (I o18.2)), (15, (V.aref 109 0 (List.map I o134).length)), (16, (I x89)), (17, (I x125)), (18, (I o128.1)), (109, (V.aref 109 0 (List.map I o134).length)), (168, (I o16.2)), (169, (V.bool true)), (170, (V.bool true)), (171, (I o18.2)), (172, (V.bool true)), (173, (V.bool true)), (174, (V.tup [])), (175, (V.tup [])), (176, (V.tup [])), (177, (V.bool true)), (178, (V.bool true)), (179, (V.bool true)), (180, (V.sl 0 1 (List.map V.str o16.1))), (181, (I (o16.1.length : Int))), (182, (V.ptr 2 0 0)), (183, (I a0.fRows)), (184, (V.bool false)), (185, (V.bool false)), (186, (V.sl 0 1 (List.map V.str o16.1))), (187, (I x89)), (188, (V.pro (V.str v135))), (189, (V.str v135)), (190, (I (v135.length : Int))), (191, (V.ptr 2 0 1)), (192, (I a0.fColumns)), (193, (V.bool ((v135.length : Int) != a0.fColumns))), (194, (V.bool ((v135.length : Int) != a0.fColumns))), (195, (V.bool ((v135.length : Int) != a0.fColumns)))]) rfl rfl rfl) ?_
        refine bifE (c := ((v135.length : Int) != a0.fColumns)) (fun hc => ?_) fun hc => ?_
        · rw [hc]
          exact regp_end rfl
        · rw [hc]
          refine Eq.trans (regp_adv (m := 2) (j := 30) (t' := [(2, (V.ptr 2 0 0)), (8, (V.sl 0 1 (List.map V.str o10.2))), (9, (V.sl 0 1 (List.map V.str o13.1))), (11, (V.sl 0 1 (List.map V.str o16.1))), (12, (I o16.2)), (13, (I o18.1)), (14, (I o18.2)), (15, (V.aref 109 0 (List.map I o134).length)), (16, (I x89)), (17, (I x125)), (18, (I o128.1)), (109, (V.aref 109 0 (List.map I o134).length)), (168, (I o16.2)), (169, (V.bool true)), (170, (V.bool true)), (171, (I o18.2)), (172, (V.bool true)), (173, (V.bool true)), (174, (V.tup [])), (175, (V.tup [])), (176, (V.tup [])), (177, (V.bool true)), (178, (V.bool true)), (179, (V.bool true)), (180, (V.sl 0 1 (List.map V.str o16.1))), (181, (I (o16.1.length : Int))), (182, (V.ptr 2 0 0)), (183, (I a0.fRows)), (184, (V.bool false)), (185, (V.bool false)), (186, (V.sl 0 1 (List.map V.str o16.1))), (187, (I x89)), (188, (V.pro (V.str v135))), (189, (V.str v135)), (190, (I (v135.length : Int))), (191, (V.ptr 2 0 1)), (192, (I a0.fColumns)), (193, (V.bool false)), (194, (V.bool false)), (195, (V.bool false)), (196, (V.sl 0 1 (List.map V.str o16.1))), (197, (I x89))]) rfl rfl rfl) ?_
          refine Eq.trans (regp_pure (x := (idx o16.1 x89)) (w := fun v136 => (V.pro (V.str v136))) rfl rfl rfl rfl rfl (p_index (e := V.str) rfl rfl rfl Go.Proofs.Try.underlying26 rfl (by decide))) ?_
          refine bindE (fun v136 => ?_)
          refine Eq.trans (putp_adv (m := 2) (j := 33) (t' := [(2, (V.ptr 2 0 0)), (8, (V.sl 0 1 (List.map V.str o10.2))), (9, (V.sl 0 1 (List.map V.str o13.1))), (11, (V.sl 0 1 (List.map V.str o16.1))), (12, (I o16.2)), (13, (I o18.1)), (14, (I o18.2)), (15, (V.aref 109 0 (List.map I o134).length)), (16, (I x89)), (17, (I x125)), (18, (I o128.1)), (109, (V.aref 109 0 (List.map I o134).length)), (168, (I o16.2)), (169, (V.bool true)), (170, (V.bool true)), (171, (I o18.2)), (172, (V.bool true)), (173, (V.bool true)), (174, (V.tup [])), (175, (V.tup [])), (176, (V.tup [])), (177, (V.bool true)), (178, (V.bool true)), (179, (V.bool true)), (180, (V.sl 0 1 (List.map V.str o16.1))), (181, (I (o16.1.length : Int))), (182, (V.ptr 2 0 0)), (183, (I a0.fRows)), (184, (V.bool false)), (185, (V.bool false)), (186, (V.sl 0 1 (List.map V.str o16.1))), (187, (I x89)), (188, (V.pro (V.str v135))), (189, (V.str v135)), (190, (I (v135.length : Int))), (191, (V.ptr 2 0 1)), (192, (I a0.fColumns)), (193, (V.bool false)), (194, (V.bool false)), (195, (V.bool false)), (196, (V.sl 0 1 (List.map V.str o16.1))), (197, (I x89)), (198, (V.pro (V.str v136))), (199, (V.str v136)), (200, (I x125))]) rfl rfl rfl) ?_
          refine Eq.trans (regp_pure (x := (idxS v136 x125)) (w := fun v137 => (V.int .u8 v137)) rfl rfl rfl rfl rfl (p_indexS rfl rfl rfl Go.Proofs.Try.underlying9)) ?_
          refine bindE (fun v137 => ?_)
          refine Eq.trans (putp_adv (m := 2) (j := 36) (t' := [(2, (V.ptr 2 0 0)), (8, (V.sl 0 1 (List.map V.str o10.2))), (9, (V.sl 0 1 (List.map V.str o13.1))), (11, (V.sl 0 1 (List.map V.str o16.1))), (12, (I o16.2)), (13, (I o18.1)), (14, (I o18.2)), (15, (V.aref 109 0 (List.map I o134).length)), (16, (I x89)), (17, (I x125)), (18, (I o128.1)), (109, (V.aref 109 0 (List.map I o134).length)), (168, (I o16.2)), (169, (V.bool true)), (170, (V.bool true)), (171, (I o18.2)), (172, (V.bool true)), (173, (V.bool true)), (174, (V.tup [])), (175, (V.tup [])), (176, (V.tup [])), (177, (V.bool true)), (178, (V.bool true)), (179, (V.bool true)), (180, (V.sl 0 1 (List.map V.str o16.1))), (181, (I (o16.1.length : Int))), (182, (V.ptr 2 0 0)), (183, (I a0.fRows)), (184, (V.bool false)), (185, (V.bool false)), (186, (V.sl 0 1 (List.map V.str o16.1))), (187, (I x89)), (188, (V.pro (V.str v135))), (189, (V.str v135)), (190, (I (v135.length : Int))), (191, (V.ptr 2 0 1)), (192, (I a0.fColumns)), (193, (V.bool false)), (194, (V.bool false)), (195, (V.bool false)), (196, (V.sl 0 1 (List.map V.str o16.1))), (197, (I x89)), (198, (V.pro (V.str v136))), (199, (V.str v136)), (200, (I x125)), (201, (V.int .u8 v137)), (202, (V.sl 0 1 (List.map V.str o10.2))), (203, (I x89))]) rfl rfl rfl) ?_
          refine Eq.trans (regp_pure (x := (idx o10.2 x89)) (w := fun v138 => (V.pro (V.str v138))) rfl rfl rfl rfl rfl (p_index (e := V.str) rfl rfl rfl Go.Proofs.Try.underlying26 rfl (by decide))) ?_
          refine bindE (fun v138 => ?_)
          refine Eq.trans (putp_adv (m := 2) (j := 39) (t' := [(2, (V.ptr 2 0 0)), (8, (V.sl 0 1 (List.map V.str o10.2))), (9, (V.sl 0 1 (List.map V.str o13.1))), (11, (V.sl 0 1 (List.map V.str o16.1))), (12, (I o16.2)), (13, (I o18.1)), (14, (I o18.2)), (15, (V.aref 109 0 (List.map I o134).length)), (16, (I x89)), (17, (I x125)), (18, (I o128.1)), (109, (V.aref 109 0 (List.map I o134).length)), (168, (I o16.2)), (169, (V.bool true)), (170, (V.bool true)), (171, (I o18.2)), (172, (V.bool true)), (173, (V.bool true)), (174, (V.tup [])), (175, (V.tup [])), (176, (V.tup [])), (177, (V.bool true)), (178, (V.bool true)), (179, (V.bool true)), (180, (V.sl 0 1 (List.map V.str o16.1))), (181, (I (o16.1.length : Int))), (182, (V.ptr 2 0 0)), (183, (I a0.fRows)), (184, (V.bool false)), (185, (V.bool false)), (186, (V.sl 0 1 (List.map V.str o16.1))), (187, (I x89)), (188, (V.pro (V.str v135))), (189, (V.str v135)), (190, (I (v135.length : Int))), (191, (V.ptr 2 0 1)), (192, (I a0.fColumns)), (193, (V.bool false)), (194, (V.bool false)), (195, (V.bool false)), (196, (V.sl 0 1 (List.map V.str o16.1))), (197, (I x89)), (198, (V.pro (V.str v136))), (199, (V.str v136)), (200, (I x125)), (201, (V.int .u8 v137)), (202, (V.sl 0 1 (List.map V.str o10.2))), (203, (I x89)), (204, (V.pro (V.str v138))), (205, (V.str v138)), (206, (I x125))]) rfl rfl rfl) ?_
          refine Eq.trans (regp_pure (x := (idxS v138 x125)) (w := fun v139 => (V.int .u8 v139)) rfl rfl rfl rfl rfl (p_indexS rfl rfl rfl Go.Proofs.Try.underlying9)) ?_
          refine bindE (fun v139 => ?_)
          exact regp_end rfl
    · rw [hc]
      refine Eq.trans (regp_adv (m := 6) (j := 12) (t' := [(2, (V.ptr 2 0 0)), (8, (V.sl 0 1 (List.map V.str o10.2))), (9, (V.sl 0 1 (List.map V.str o13.1))), (11, (V.sl 0 1 (List.map V.str o16.1))), (12, (I o16.2)), (13, (I o18.1)), (14, (I o18.2)), (15, (V.aref 109 0 (List.map I o134).length)), (16, (I x89)), (17, (I x125)), (18, (I o128.1)), (109, (V.aref 109 0 (List.map I o134).length)), (168, (I o16.2)), (169, (V.bool true)), (170, (V.bool true)), (171, (I o18.2)), (172, (V.bool false)), (173, (V.bool false)), (174, (I o128.1)), (175, (I o18.1)), (176, (V.bool (o128.1 != o18.1))), (177, (V.bool (o128.1 != o18.1))), (178, (V.bool (o128.1 != o18.1))), (179, (V.bool (o128.1 != o18.1)))]) rfl rfl rfl) ?_
      refine bifE (c := (o128.1 != o18.1)) (fun hc => ?_) fun hc => ?_
      · rw [hc]
        refine Eq.trans (regp_adv (m := 1) (j := 13) (t' := [(2, (V.ptr 2 0 0)), (8, (V.sl 0 1 (List.map V.str o10.2))), (9, (V.sl 0 1 (List.map V.str o13.1))), (11, (V.sl 0 1 (List.map V.str o16.1))), (12, (I o16.2)), (13, (I o18.1)), (14, (I o18.2)), (15, (V.aref 109 0 (List.map I o134).length)), (16, (I x89)), (17, (I x125)), (18, (I o128.1)), (109, (V.aref 109 0 (List.map I o134).length)), (168, (I o16.2)), (169, (V.bool true)), (170, (V.bool true)), (171, (I o18.2)), (172, (V.bool false)), (173, (V.bool false)), (174, (I o128.1)), (175, (I o18.1)), (176, (V.bool true)), (177, (V.bool true)), (178, (V.bool true)), (179, (V.bool true)), (180, (V.sl 0 1 (List.map V.str o16.1)))]) rfl rfl rfl) ?_
        refine Eq.trans (regp_pure (x := some ()) (w := fun _ => (I (o16.1.length : Int))) rfl rfl rfl rfl rfl (p_len (e := V.str) rfl rfl rfl rfl rfl rfl Go.Proofs.Try.underlying26)) ?_
        refine Eq.trans some_bind ?_
        refine Eq.trans (putp_adv (m := 4) (j := 18) (t' := [(2, (V.ptr 2 0 0)), (8, (V.sl 0 1 (List.map V.str o10.2))), (9, (V.sl 0 1 (List.map V.str o13.1))), (11, (V.sl 0 1 (List.map V.str o16.1))), (12, (I o16.2)), (13, (I o18.1)), (14, (I o18.2)), (15, (V.aref 109 0 (List.map I o134).length)), (16, (I x89)), (17, (I x125)), (18, (I o128.1)), (109, (V.aref 109 0 (List.map I o134).length)), (168, (I o16.2)), (169, (V.bool true)), (170, (V.bool true)), (171, (I o18.2)), (172, (V.bool false)), (173, (V.bool false)), (174, (I o128.1)), (175, (I o18.1)), (176, (V.bool true)), (177, (V.bool true)), (178, (V.bool true)), (179, (V.bool true)), (180, (V.sl 0 1 (List.map V.str o16.1))), (181, (I (o16.1.length : Int))), (182, (V.ptr 2 0 0)), (183, (I a0.fRows)), (184, (V.bool ((o16.1.length : Int) != a0.fRows))), (185, (V.bool ((o16.1.length : Int) != a0.fRows)))]) rfl rfl rfl) ?_
        refine bifE (c := ((o16.1.length : Int) != a0.fRows)) (fun hc => ?_) fun hc => ?_
        · rw [hc]
          exact regp_end rfl
        · rw [hc]
          refine Eq.trans (regp_adv (m := 2) (j := 20) (t' := [(2, (V.ptr 2 0 0)), (8, (V.sl 0 1 (List.map V.str o10.2))), (9, (V.sl 0 1 (List.map V.str o13.1))), (11, (V.sl 0 1 (List.map V.str o16.1))), (12, (I o16.2)), (13, (I o18.1)), (14, (I o18.2)), (15, (V.aref 109 0 (List.map I o134).length)), (16, (I x89)), (17, (I x125)), (18, (I o128.1)), (109, (V.aref 109 0 (List.map I o134).length)), (168, (I o16.2)), (169, (V.bool true)), (170, (V.bool true)), (171, (I o18.2)), (172, (V.bool false)), (173, (V.bool false)), (174, (I o128.1)), (175, (I o18.1)), (176, (V.bool true)), (177, (V.bool true)), (178, (V.bool true)), (179, (V.bool true)), (180, (V.sl 0 1 (List.map V.str o16.1))), (181, (I (o16.1.length : Int))), (182, (V.ptr 2 0 0)), (183, (I a0.fRows)), (184, (V.bool false)), (185, (V.bool false)), (186, (V.sl 0 1 (List.map V.str o16.1))), (187, (I x89))]) rfl rfl rfl) ?_
          refine Eq.trans (regp_pure (x := (idx o16.1 x89)) (w := fun v140 => (V.pro (V.str v140))) rfl rfl rfl rfl rfl (p_index (e := V.str) rfl rfl rfl Go.Proofs.Try.underlying26 rfl (by decide))) ?_
          refine bindE (fun v140 => ?_)
          refine Eq.trans (putp_adv (m := 7) (j := 28) (t' := [(2, (V.ptr 2 0 0)), (8, (V.sl 0 1 (List.map V.str o10.2))), (9, (V.sl 0 1 (List.map V.str o13.1))), (11, (V.sl 0 1 (List.map V.str o16.1))), (12, (I o16.2)), (13, (I o18.1)), (14, (I o18.2)), (15, (V.aref 109 0 (List.map I o134).length)), (16, (I x89)), (17, (I x125)), (18, (I o128.1)), (109, (V.aref 109 0 (List.map I o134).length)), (168, (I o16.2)), (169, (V.bool true)), (170, (V.bool true)), (171, (I o18.2)), (172, (V.bool false)), (173, (V.bool false)), (174, (I o128.1)), (175, (I o18.1)), (176, (V.bool true)), (177, (V.bool true)), (178, (V.bool true)), (179, (V.bool true)), (180, (V.sl 0 1 (List.map V.str o16.1))), (181, (I (o16.1.length : Int))), (182, (V.ptr 2 0 0)), (183, (I a0.fRows)), (184, (V.bool false)), (185, (V.bool false)), (186, (V.sl 0 1 (List.map V.str o16.1))), (187, (I x89)), (188, (V.pro (V.str v140))), (189, (V.str v140)), (190, (I (v140.length : Int))), (191, (V.ptr 2 0 1)), (192, (I a0.fColumns)), (193, (V.bool ((v140.length : Int) != a0.fColumns))), (194, (V.bool ((v140.length : Int) != a0.fColumns))), (195, (V.bool ((v140.length : Int) != a0.fColumns)))]) rfl rfl rfl) ?_
          refine bifE (c := ((v140.length : Int) != a0.fColumns)) (fun hc => ?_) fun hc => ?_
          · rw [hc]
            exact regp_end rfl
          · rw [hc]
            refine Eq.trans (regp_adv (m := 2) (j := 30) (t' := [(2, (V.ptr 2 0 0)), (8, (V.sl 0 1 (List.map V.str o10.2))), (9, (V.sl 0 1 (List.map V.str o13.1))), (11, (V.sl 0 1 (List.map V.str o16.1))), (12, (I o16.2)), (13, (I o18.1)), (14, (I o18.2)), (15, (V.aref 109 0 (List.map I o134).length)), (16, (I x89)), (17, (I x125)), (18, (I o128.1)), (109, (V.aref 109 0 (List.map I o134).length)), (168, (I o16.2)), (169, (V.bool true)), (170, (V.bool true)), (171, (I o18.2)), (172, (V.bool false)), (173, (V.bool false)), (174, (I o128.1)), (175, (I o18.1)), (176, (V.bool true)), (177, (V.bool true)), (178, (V.bool true)), (179, (V.bool true)), (180, (V.sl 0 1 (List.map V.str o16.1))), (181, (I (o16.1.length : Int))), (182, (V.ptr 2 0 0)), (183, (I a0.fRows)), (184, (V.bool false)), (185, (V.bool false)), (186, (V.sl 0 1 (List.map V.str o16.1))), (187, (I x89)), (188, (V.pro (V.str v140))), (189, (V.str v140)), (190, (I (v140.length : Int))), (191, (V.ptr 2 0 1)), (192, (I a0.fColumns)), (193, (V.bool false)), (194, (V.bool false)), (195, (V.bool false)), (196, (V.sl 0 1 (List.map V.str o16.1))), (197, (I x89))]) rfl rfl rfl) ?_
            refine Eq.trans (regp_pure (x := (idx o16.1 x89)) (w := fun v141 => (V.pro (V.str v141))) rfl rfl rfl rfl rfl (p_index (e := V.str) rfl rfl rfl Go.Proofs.Try.underlying26 rfl (by decide))) ?_
            refine bindE (fun v141 => ?_)
            refine Eq.trans (putp_adv (m := 2) (j := 33) (t' := [(2, (V.ptr 2 0 0)), (8, (V.sl 0 1 (List.map V.str o10.2))), (9, (V.sl 0 1 (List.map V.str o13.1))), (11, (V.sl 0 1 (List.map V.str o16.1))), (12, (I o16.2)), (13, (I o18.1)), (14, (I o18.2)), (15, (V.aref 109 0 (List.map I o134).length)), (16, (I x89)), (17, (I x125)), (18, (I o128.1)), (109, (V.aref 109 0 (List.map I o134).length)), (168, (I o16.2)), (169, (V.bool true)), (170, (V.bool true)), (171, (I o18.2)), (172, (V.bool false)), (173, (V.bool false)), (174, (I o128.1)), (175, (I o18.1)), (176, (V.bool true)), (177, (V.bool true)), (178, (V.bool true)), (179, (V.bool true)), (180, (V.sl 0 1 (List.map V.str o16.1))), (181, (I (o16.1.length : Int))), (182, (V.ptr 2 0 0)), (183, (I a0.fRows)), (184, (V.bool false)), (185, (V.bool false)), (186, (V.sl 0 1 (List.map V.str o16.1))), (187, (I x89)), (188, (V.pro (V.str v140))), (189, (V.str v140)), (190, (I (v140.length : Int))), (191, (V.ptr 2 0 1)), (192, (I a0.fColumns)), (193, (V.bool false)), (194, (V.bool false)), (195, (V.bool false)), (196, (V.sl 0 1 (List.map V.str o16.1))), (197, (I x89)), (198, (V.pro (V.str v141))), (199, (V.str v141)), (200, (I x125))]) rfl rfl rfl) ?_
            refine Eq.trans (regp_pure (x := (idxS v141 x125)) (w := fun v142 => (V.int .u8 v142)) rfl rfl rfl rfl rfl (p_indexS rfl rfl rfl Go.Proofs.Try.underlying9)) ?_
            refine bindE (fun v142 => ?_)
            refine Eq.trans (putp_adv (m := 2) (j := 36) (t' := [(2, (V.ptr 2 0 0)), (8, (V.sl 0 1 (List.map V.str o10.2))), (9, (V.sl 0 1 (List.map V.str o13.1))), (11, (V.sl 0 1 (List.map V.str o16.1))), (12, (I o16.2)), (13, (I o18.1)), (14, (I o18.2)), (15, (V.aref 109 0 (List.map I o134).length)), (16, (I x89)), (17, (I x125)), (18, (I o128.1)), (109, (V.aref 109 0 (List.map I o134).length)), (168, (I o16.2)), (169, (V.bool true)), (170, (V.bool true)), (171, (I o18.2)), (172, (V.bool false)), (173, (V.bool false)), (174, (I o128.1)), (175, (I o18.1)), (176, (V.bool true)), (177, (V.bool true)), (178, (V.bool true)), (179, (V.bool true)), (180, (V.sl 0 1 (List.map V.str o16.1))), (181, (I (o16.1.length : Int))), (182, (V.ptr 2 0 0)), (183, (I a0.fRows)), (184, (V.bool false)), (185, (V.bool false)), (186, (V.sl 0 1 (List.map V.str o16.1))), (187, (I x89)), (188, (V.pro (V.str v140))), (189, (V.str v140)), (190, (I (v140.length : Int))), (191, (V.ptr 2 0 1)), (192, (I a0.fColumns)), (193, (V.bool false)), (194, (V.bool false)), (195, (V.bool false)), (196, (V.sl 0 1 (List.map V.str o16.1))), (197, (I x89)), (198, (V.pro (V.str v141))), (199, (V.str v141)), (200, (I x125)), (201, (V.int .u8 v142)), (202, (V.sl 0 1 (List.map V.str o10.2))), (203, (I x89))]) rfl rfl rfl) ?_
            refine Eq.trans (regp_pure (x := (idx o10.2 x89)) (w := fun v143 => (V.pro (V.str v143))) rfl rfl rfl rfl rfl (p_index (e := V.str) rfl rfl rfl Go.Proofs.Try.underlying26 rfl (by decide))) ?_
            refine bindE (fun v143 => ?_)
            refine Eq.trans (putp_adv (m := 2) (j := 39) (t' := [(2, (V.ptr 2 0 0)), (8, (V.sl 0 1 (List.map V.str o10.2))), (9, (V.sl 0 1 (List.map V.str o13.1))), (11, (V.sl 0 1 (List.map V.str o16.1))), (12, (I o16.2)), (13, (I o18.1)), (14, (I o18.2)), (15, (V.aref 109 0 (List.map I o134).length)), (16, (I x89)), (17, (I x125)), (18, (I o128.1)), (109, (V.aref 109 0 (List.map I o134).length)), (168, (I o16.2)), (169, (V.bool true)), (170, (V.bool true)), (171, (I o18.2)), (172, (V.bool false)), (173, (V.bool false)), (174, (I o128.1)), (175, (I o18.1)), (176, (V.bool true)), (177, (V.bool true)), (178, (V.bool true)), (179, (V.bool true)), (180, (V.sl 0 1 (List.map V.str o16.1))), (181, (I (o16.1.length : Int))), (182, (V.ptr 2 0 0)), (183, (I a0.fRows)), (184, (V.bool false)), (185, (V.bool false)), (186, (V.sl 0 1 (List.map V.str o16.1))), (187, (I x89)), (188, (V.pro (V.str v140))), (189, (V.str v140)), (190, (I (v140.length : Int))), (191, (V.ptr 2 0 1)), (192, (I a0.fColumns)), (193, (V.bool false)), (194, (V.bool false)), (195, (V.bool false)), (196, (V.sl 0 1 (List.map V.str o16.1))), (197, (I x89)), (198, (V.pro (V.str v141))), (199, (V.str v141)), (200, (I x125)), (201, (V.int .u8 v142)), (202, (V.sl 0 1 (List.map V.str o10.2))), (203, (I x89)), (204, (V.pro (V.str v143))), (205, (V.str v143)), (206, (I x125))]) rfl rfl rfl) ?_
            refine Eq.trans (regp_pure (x := (idxS v143 x125)) (w := fun v144 => (V.int .u8 v144)) rfl rfl rfl rfl rfl (p_indexS rfl rfl rfl Go.Proofs.Try.underlying9)) ?_
            refine bindE (fun v144 => ?_)
            exact regp_end rfl
      · rw [hc]
        exact regp_end rfl
  · rw [hc]
    exact regp_end rfl
theorem f7r27 (k : Nat) (a0 : T_api_Form) (o10 : Int × (List Str)) (o13 : (List Str) × Int) (o16 : (List Str) × Int) (o18 : Int × Int) (x89 : Int) (x125 : Int) (o134 : (List Int)) : RE k f7a27 f7o27 false ⟨[(2, (V.ptr 2 0 0)), (8, (V.sl 0 1 (List.map V.str o10.2))), (9, (V.sl 0 1 (List.map V.str o13.1))), (11, (V.sl 0 1 (List.map V.str o16.1))), (12, (I o16.2)), (13, (I o18.1)), (14, (I o18.2)), (15, (V.aref 109 0 (List.map I o134).length)), (16, (I x89)), (17, (I x125)), (109, (V.aref 109 0 (List.map I o134).length)), (210, (V.bool true))], [(2, ⟨false, 4, [(enc_T_api_Form a0)]⟩), (109, ⟨true, 1, List.map I o134⟩)], 229⟩ = some ⟨[(4, (V.bool false))], [], 229⟩ :=
  rE rfl
theorem f7r20 (k : Nat) (a0 : T_api_Form) (o10 : Int × (List Str)) (o13 : (List Str) × Int) (o16 : (List Str) × Int) (o18 : Int × Int) (x89 : Int) (x125 : Int) (o134 : (List Int)) : RE k f7a20 f7o20 false ⟨[(2, (V.ptr 2 0 0)), (8, (V.sl 0 1 (List.map V.str o10.2))), (9, (V.sl 0 1 (List.map V.str o13.1))), (11, (V.sl 0 1 (List.map V.str o16.1))), (12, (I o16.2)), (13, (I o18.1)), (14, (I o18.2)), (15, (V.aref 109 0 (List.map I o134).length)), (16, (I x89)), (17, (I x125)), (109, (V.aref 109 0 (List.map I o134).length)), (210, (V.bool false))], [(2, ⟨false, 4, [(enc_T_api_Form a0)]⟩), (109, ⟨true, 1, List.map I o134⟩)], 229⟩ = some ⟨[(2, (V.ptr 2 0 0)), (8, (V.sl 0 1 (List.map V.str o10.2))), (9, (V.sl 0 1 (List.map V.str o13.1))), (11, (V.sl 0 1 (List.map V.str o16.1))), (12, (I o16.2)), (13, (I o18.1)), (14, (I o18.2)), (15, (V.aref 109 0 (List.map I o134).length)), (16, (I x89)), (17, (I (Go.IntKind.wrap .i64 (x125 + 1)))), (109, (V.aref 109 0 (List.map I o134).length))], [(2, ⟨false, 4, [(enc_T_api_Form a0)]⟩), (109, ⟨true, 1, List.map I o134⟩)], 229⟩ :=
  rE rfl
end
end Go.AE
