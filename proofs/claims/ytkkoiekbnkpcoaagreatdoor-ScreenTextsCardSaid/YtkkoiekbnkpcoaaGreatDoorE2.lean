/- The program, function by function: the evaluator comes to the typed functions. Conditions: none. -/
import Derived.Test.YtkkoiekbnkpcoaaGreatDoorA3
import Derived.KernelRfl
import Derived.Test.YtkkoiekbnkpcoaaGreatDoorProg
import Derived.Test.YtkkoiekbnkpcoaaGreatDoorB1
import Derived.Test.YtkkoiekbnkpcoaaGreatDoorE1
namespace Go.AE
open Go.Proofs.Tryz Go.Sh
set_option linter.unusedSimpArgs false
set_option linter.unusedVariables false
set_option maxRecDepth 100000
set_option maxHeartbeats 4000000
noncomputable section
theorem screen_numbers_L1_ok (k : Nat) (a0 : (List Str))  (K0 : (List Int) → Bool → Int → Option ((List Int) × Bool)) (Kst : X × St → Option (V × List V)) (hK0 : ∀ (y0 : (List Int)) (y1 : Bool) (y2 : Int), Kst (X.exit 0, ⟨[(4, (V.sl 1 1 (List.map I y0))), (5, (Bo y1)), (10, (sS a0)), (11, (I (a0.length : Int))), (12, (I y2)), (13, (Bo false))], [], 32⟩) = (K0 y0 y1 y2).map screen_numbers_fin) (hret : ∀ s, Kst (X.ret, s) = endK prog 32 [(sS a0)] [] [.tmp 2, .tmp 3] (X.ret, s)) :
  ∀ (m : Nat) (x7 : (List Int)) (x8 : Bool) (x9 : Int), (iter (exec prog (EV k) f47n k f47b0) m ⟨[(4, (V.sl 1 1 (List.map I x7))), (5, (Bo x8)), (10, (sS a0)), (11, (I (a0.length : Int))), (12, (I x9))], [], 32⟩).bind Kst = (screen_numbers_L1 k a0 K0 m x7 x8 x9).map screen_numbers_fin := by
 intro m
 induction m with
 | zero => intros; rfl
 | succ m ih =>
  intro x7 x8 x9
  unfold screen_numbers_L1
  refine et k_round <| kra [(13, (Bo (decide (x9 < (a0.length : Int)))))] rfl <| kc rfl rfl (fun hc => ?_) fun hc => ?_
  ·rw [hc]
   refine et k_skip <| et (k_block rfl) <| kg f47a5 rfl (fun (o11 : Str) => ⟨[(4, (V.sl 1 1 (List.map I x7))), (5, (Bo x8)), (7, (Sr o11)), (10, (sS a0)), (11, (I (a0.length : Int))), (12, (I x9))], [], 32⟩) (rs rfl (p_index (e := V.str) rfl rfl rfl underlying39 rfl (by decide)) fun v10 => bind_end rfl) fun o11 => kg f47a6 rfl (fun (o13 : Int × Bool) => ⟨[(4, (V.sl 1 1 (List.map I x7))), (5, (Bo x8)), (8, (I o13.1)), (9, (Bo o13.2)), (10, (sS a0)), (11, (I (a0.length : Int))), (12, (I x9))], [], 32⟩) (rd 1 [(17, (Sr o11))] rfl rfl <| rp rfl (p_call rfl rfl rfl rfl rfl (screen_number_ok k o11) (.inl rfl)) fun v12 => bind_end rfl) fun o13 => kg f47a7 rfl (fun (o15 : (List Int)) => ⟨[(4, (V.sl 1 1 (List.map I o15))), (5, (Bo x8)), (9, (Bo o13.2)), (10, (sS a0)), (11, (I (a0.length : Int))), (12, (I x9))], [], 32⟩) (ra 3 3 ⟨[(4, (sI x7)), (5, (Bo x8)), (8, (I o13.1)), (9, (Bo o13.2)), (10, (sS a0)), (11, (I (a0.length : Int))), (12, (I x9)), (21, (V.sl 1 1 (List.map I x7))), (22, (I o13.1)), (23, (sI (([o13.1] : List Int))))], [], 32⟩ rfl rfl rfl <| et (reg_eff (x := (app x7 ([o13.1] : List Int))) (w := fun v14 => ((V.sl 1 1 (List.map I v14)), _)) rfl rfl rfl rfl (p_app (e := I) rfl rfl rfl rfl rfl rfl rfl rfl rfl rfl (by decide))) <| bind_self fun v14 => bind_end rfl) fun o15 => kgl f47a8 rfl (fun (o16 : Bool) => ⟨[(4, (V.sl 1 1 (List.map I o15))), (5, (Bo o16)), (10, (sS a0)), (11, (I (a0.length : Int))), (12, (I x9))], [], 32⟩) ?_ fun o16 => ?_
   ·refine rd 2 [(25, (Bo x8)), (26, (Bo x8))] rfl rfl <| bifE (fun hc => ?_) fun hc => ?_
    ·rw [hc]
     exact reg_end rfl
    ·rw [hc]
     exact reg_end rfl
   exact et blk_normal <| kl ⟨[(4, (V.sl 1 1 (List.map I o15))), (5, (Bo o16)), (10, (sS a0)), (11, (I (a0.length : Int))), (12, (I (Go.IntKind.wrap .i64 (x9 + 1))))], [], 32⟩ rfl <| et loop_normal <| ih o15 o16 (Go.IntKind.wrap .i64 (x9 + 1))
  ·rw [hc]
   exact et k_exit <| et loop_exit <| hK0 x7 x8 x9
theorem screen_numbers_ok (k : Nat) (a0 : (List Str)) : EV k 47 [(sS a0)] = (screen_numbers k a0).map screen_numbers_fin := by
 cases k with
 | zero => rfl
 | succ k =>
  unfold screen_numbers
  refine et (evF_succ (c := f47c) (N := 32) (regs := f47n) rfl func47 rfl (by decide) rfl rfl rfl) <| kra [] rfl <| kra [(4, (V.sl 1 1 (List.map I ([] : List Int))))] rfl <| kra [(5, (Bo true))] rfl <| et k_assoc <| krp f47a3 rfl ⟨[(4, (V.sl 1 1 (List.map I ([] : List Int)))), (5, (Bo true)), (10, (sS a0)), (11, (I (a0.length : Int))), (12, (I 0))], [], 32⟩ ?_ ?_
  ·exact rd 1 [(10, (sS a0))] rfl rfl <| rl rfl (p_len (e := V.str) rfl rfl rfl rfl rfl rfl underlying39) <| bind_end rfl
  refine et (k_block rfl) <| et k_loop ?_
  refine screen_numbers_L1_ok k a0 _ _ ?h_screen_numbers_L1_0 ?hr_screen_numbers_L1 k ([] : List Int) true 0
  ·intro y17 y18 y19
   refine et blk_exit <| kr ⟨[(2, (sI y17)), (3, (Bo y18))], [], 32⟩ rfl <| et k_lret ?_
   rfl
  ·intro s; exact rfl
def strings_SplitN_fin : (List Str) → V × List V := fun r => ((sS r), [])
theorem strings_SplitN_ok (k : Nat) (s : Str) (t : Str) (n : Int) : EV k 48 [(Sr s), (Sr t), (I n)] = (strings_SplitN k s t n).map strings_SplitN_fin := by
 cases k with
 | zero => rfl
 | succ k => exact (evF_ext (ext := ext) (f := 48) rfl).trans rfl
def screen_add_fin : (Bool × T_api_Form) → V × List V := fun r => ((Bo r.1), [(V.io (V.agg [(I r.2.fRows), (I r.2.fColumns), (V.sl 1 3 (List.map eMark r.2.fMarks)), (V.sl 1 7 (List.map eSlot r.2.fFields))]))])
theorem screen_add_ok (k : Nat) (a0 : T_api_Form) (a1 : Str) : EV k 26 [(V.io (V.agg [(I a0.fRows), (I a0.fColumns), (V.sl 1 3 (List.map eMark a0.fMarks)), (V.sl 1 7 (List.map eSlot a0.fFields))])), (Sr a1)] = (screen_add k a0 a1).map screen_add_fin := by
 cases k with
 | zero => rfl
 | succ k =>
  unfold screen_add
  refine et (evF_succ (c := f26c) (N := 148) (regs := f26n) rfl func26 rfl (by decide) rfl rfl rfl) <| kra [] rfl <| kg f26a1 rfl (fun (o2 : Str × Str) => ⟨[(0, (Pt 148)), (5, (Sr o2.1)), (6, (Sr o2.2))], [(148, ⟨false, 4, [(V.agg [(I a0.fRows), (I a0.fColumns), (V.sl 1 3 (List.map eMark a0.fMarks)), (V.sl 1 7 (List.map eSlot a0.fFields))])]⟩)], 148⟩) (rd 1 [(19, (Sr a1))] rfl rfl <| rp rfl (p_call rfl rfl rfl rfl rfl (strings_Cut_ok k a1 ([32] : Str)) (.inl rfl)) fun v1 => bind_end rfl) fun o2 => et k_assoc <| kr ⟨[(0, (Pt 148)), (6, (Sr o2.2)), (24, (Sr o2.1))], [(148, ⟨false, 4, [(V.agg [(I a0.fRows), (I a0.fColumns), (V.sl 1 3 (List.map eMark a0.fMarks)), (V.sl 1 7 (List.map eSlot a0.fFields))])]⟩)], 148⟩ rfl <| et (k_block rfl) <| kra [(25, (Bo (o2.1 == ([70, 79, 82, 77] : Str))))] rfl <| kcl rfl rfl (fun hc => ?_) fun hc => ?_
  ·rw [hc]
   refine kg f26a4 rfl (fun (o5 : (List Int) × Bool) => ⟨[(0, (Pt 148)), (8, (sI o5.1)), (9, (Bo o5.2))], [(148, ⟨false, 4, [(V.agg [(I a0.fRows), (I a0.fColumns), (V.sl 1 3 (List.map eMark a0.fMarks)), (V.sl 1 7 (List.map eSlot a0.fFields))])]⟩)], 148⟩) (rd 1 [(28, (Sr o2.2))] rfl rfl <| rp rfl (p_call rfl rfl rfl rfl rfl (strings_Split_ok k o2.2 ([32] : Str)) (.inl rfl)) fun v3 => bd 2 [(29, (sS v3))] rfl rfl <| rp rfl (p_call rfl rfl rfl rfl rfl (screen_numbers_ok k v3) (.inl rfl)) fun v4 => bind_end rfl) fun o5 => et k_assoc <| kg f26a5 rfl (fun (o6 : Bool) => ⟨[(0, (Pt 148)), (8, (sI o5.1)), (39, (Bo o6))], [(148, ⟨false, 4, [(V.agg [(I a0.fRows), (I a0.fColumns), (V.sl 1 3 (List.map eMark a0.fMarks)), (V.sl 1 7 (List.map eSlot a0.fFields))])]⟩)], 148⟩) ?_ fun o6 => ?_
   ·refine rd 3 [(33, (Bo o5.2)), (34, (Bo (!o5.2))), (35, (Bo (!o5.2)))] rfl rfl <| bifE (fun hc => ?_) fun hc => ?_
    ·rw [hc]
     exact reg_end rfl
    ·rw [hc]
     exact rd 4 [(36, (sI o5.1))] rfl rfl <| rl rfl (p_len (e := I) rfl rfl rfl rfl rfl rfl underlying60) <| bind_end rfl
   refine kc rfl rfl (fun hc => ?_) fun hc => ?_
   ·rw [hc]
    refine et k_assoc <| kr ⟨[(4, (Bo false))], [(148, ⟨false, 4, [(V.agg [(I a0.fRows), (I a0.fColumns), (V.sl 1 3 (List.map eMark a0.fMarks)), (V.sl 1 7 (List.map eSlot a0.fFields))])]⟩)], 148⟩ rfl <| et k_ret <| et blk_ret ?_
    rfl
   ·rw [hc]
    refine et k_skip <| kd f26a7 rfl (fun (o9 : Int × Int) => ⟨[], [(148, ⟨false, 4, [(V.agg [(I o9.1), (I o9.2), (V.sl 1 3 (List.map eMark a0.fMarks)), (V.sl 1 7 (List.map eSlot a0.fFields))])]⟩)], 148⟩) (et (regionE_regp (p := 10) (dk := false) (t := [(0, (Pt 148)), (8, (sI o5.1)), (39, (Bo false))]) (σ := [(148, ⟨false, 4, [(V.agg [(I a0.fRows), (I a0.fColumns), (V.sl 1 3 (List.map eMark a0.fMarks)), (V.sl 1 7 (List.map eSlot a0.fFields))])]⟩)]) (n := 148) rfl (by decide) (by decide) rfl) <| et (regp_adv (m := 3) (j := 3) (t' := [(0, (Pt 148)), (8, (sI o5.1)), (39, (Bo false)), (40, (Pt 148)), (41, (Pt 148)), (42, (sI o5.1))]) rfl rfl rfl) <| et (regp_pure (x := (idx o5.1 0)) (w := fun v7 => (Pr (I v7))) rfl rfl rfl rfl rfl (p_index (e := I) rfl rfl rfl underlying60 rfl (by decide))) <| bindE fun v7 => et (putp_adv (m := 2) (j := 6) (t' := [(0, (Pt 148)), (8, (sI o5.1)), (39, (Bo false)), (40, (Pt 148)), (41, (Pt 148)), (42, (sI o5.1)), (43, (Pr (I v7))), (44, (I v7)), (45, (sI o5.1))]) rfl rfl rfl) <| et (regp_pure (x := (idx o5.1 1)) (w := fun v8 => (Pr (I v8))) rfl rfl rfl rfl rfl (p_index (e := I) rfl rfl rfl underlying60 rfl (by decide))) <| bindE fun v8 => regp_end rfl) fun o9 => kra [(4, (Bo true))] rfl <| et k_lret <| et blk_ret ?_
    rfl
  ·rw [hc]
   refine kr ⟨[(0, (Pt 148)), (6, (Sr o2.2)), (24, (Sr o2.1)), (52, (Bo (o2.1 == ([77, 65, 82, 75] : Str))))], [(148, ⟨false, 4, [(V.agg [(I a0.fRows), (I a0.fColumns), (V.sl 1 3 (List.map eMark a0.fMarks)), (V.sl 1 7 (List.map eSlot a0.fFields))])]⟩)], 148⟩ rfl <| kcl rfl rfl (fun hc => ?_) fun hc => ?_
   ·rw [hc]
    refine kg f26a10 rfl (fun (o11 : (List Str)) => ⟨[(0, (Pt 148)), (10, (sS o11))], [(148, ⟨false, 4, [(V.agg [(I a0.fRows), (I a0.fColumns), (V.sl 1 3 (List.map eMark a0.fMarks)), (V.sl 1 7 (List.map eSlot a0.fFields))])]⟩)], 148⟩) (rd 1 [(54, (Sr o2.2))] rfl rfl <| rs rfl (p_call rfl rfl rfl rfl rfl (strings_SplitN_ok k o2.2 ([32] : Str) 3) (.inl rfl)) fun v10 => bind_end rfl) fun o11 => et k_assoc <| krp f26a11 rfl ⟨[(0, (Pt 148)), (10, (sS o11)), (58, (Bo (decide ((o11.length : Int) < 3))))], [(148, ⟨false, 4, [(V.agg [(I a0.fRows), (I a0.fColumns), (V.sl 1 3 (List.map eMark a0.fMarks)), (V.sl 1 7 (List.map eSlot a0.fFields))])]⟩)], 148⟩ ?_ ?_
    ·exact rd 1 [(56, (sS o11))] rfl rfl <| rl rfl (p_len (e := V.str) rfl rfl rfl rfl rfl rfl underlying39) <| bind_end rfl
    refine kc rfl rfl (fun hc => ?_) fun hc => ?_
    ·rw [hc]
     refine et k_assoc <| kr ⟨[(4, (Bo false))], [(148, ⟨false, 4, [(V.agg [(I a0.fRows), (I a0.fColumns), (V.sl 1 3 (List.map eMark a0.fMarks)), (V.sl 1 7 (List.map eSlot a0.fFields))])]⟩)], 148⟩ rfl <| et k_ret <| et blk_ret ?_
     rfl
    ·rw [hc]
     refine et k_skip <| kg f26a13 rfl (fun (o14 : (List Int) × Bool) => ⟨[(0, (Pt 148)), (10, (sS o11)), (11, (sI o14.1)), (12, (Bo o14.2))], [(148, ⟨false, 4, [(V.agg [(I a0.fRows), (I a0.fColumns), (V.sl 1 3 (List.map eMark a0.fMarks)), (V.sl 1 7 (List.map eSlot a0.fFields))])]⟩)], 148⟩) (rd 1 [(60, (sS o11))] rfl rfl <| rp rfl (p_slice (e := V.str) rfl rfl rfl rfl rfl rfl underlying39 rfl (by decide)) fun v12 => bd 2 [(61, (sS v12))] rfl rfl <| rp rfl (p_call rfl rfl rfl rfl rfl (screen_numbers_ok k v12) (.inl rfl)) fun v13 => bind_end rfl) fun o14 => kd f26a14 rfl (fun (o19 : (List T_api_Mark)) => ⟨[(12, (Bo o14.2))], [(148, ⟨false, 4, [(V.agg [(I a0.fRows), (I a0.fColumns), (V.sl 1 3 (List.map eMark o19)), (V.sl 1 7 (List.map eSlot a0.fFields))])]⟩)], 148⟩) (et (regionE_regA (by decide)) <| ra 6 6 ⟨[(0, (Pt 148)), (10, (sS o11)), (11, (sI o14.1)), (12, (Bo o14.2)), (65, (Pt 148)), (66, (Pt 148)), (67, (Pt 148)), (68, (V.ptr 148 0 2)), (69, (V.sl 1 3 (List.map eMark a0.fMarks))), (70, (sI o14.1))], [(148, ⟨false, 4, [(V.agg [(I a0.fRows), (I a0.fColumns), (sMark a0.fMarks), (V.sl 1 7 (List.map eSlot a0.fFields))])]⟩)], 148⟩ rfl rfl rfl <| rp rfl (p_index (e := I) rfl rfl rfl underlying60 rfl (by decide)) fun v15 => bd 9 [(71, (Pr (I v15))), (72, (I v15)), (73, (sI o14.1))] rfl rfl <| rp rfl (p_index (e := I) rfl rfl rfl underlying60 rfl (by decide)) fun v16 => bd 12 [(74, (Pr (I v16))), (75, (I v16)), (76, (sS o11))] rfl rfl <| rp rfl (p_index (e := V.str) rfl rfl rfl underlying39 rfl (by decide)) fun v17 => bd 16 [(77, (Pr (Sr v17))), (78, (Sr v17)), (79, (eMark ({ fRow := v15, fColumn := v16, fText := v17 } : T_api_Mark))), (80, (sMark (([({ fRow := v15, fColumn := v16, fText := v17 } : T_api_Mark)] : List T_api_Mark))))] rfl rfl <| et (reg_eff (x := (app a0.fMarks ([({ fRow := v15, fColumn := v16, fText := v17 } : T_api_Mark)] : List T_api_Mark))) (w := fun v18 => ((V.sl 1 3 (List.map eMark v18)), _)) rfl rfl rfl rfl (p_app (e := eMark) rfl rfl rfl rfl rfl rfl rfl rfl rfl rfl (by decide))) <| bind_self fun v18 => bind_end rfl) fun o19 => kr ⟨[(4, (Bo o14.2))], [(148, ⟨false, 4, [(V.agg [(I a0.fRows), (I a0.fColumns), (V.sl 1 3 (List.map eMark o19)), (V.sl 1 7 (List.map eSlot a0.fFields))])]⟩)], 148⟩ rfl <| et k_lret <| et blk_ret ?_
     rfl
   ·rw [hc]
    refine kr ⟨[(0, (Pt 148)), (6, (Sr o2.2)), (85, (Bo (o2.1 == ([70, 73, 69, 76, 68] : Str))))], [(148, ⟨false, 4, [(V.agg [(I a0.fRows), (I a0.fColumns), (V.sl 1 3 (List.map eMark a0.fMarks)), (V.sl 1 7 (List.map eSlot a0.fFields))])]⟩)], 148⟩ rfl <| kcl rfl rfl (fun hc => ?_) fun hc => ?_
    ·rw [hc]
     refine kg f26a17 rfl (fun (o21 : Str × Str) => ⟨[(0, (Pt 148)), (13, (Sr o21.1)), (14, (Sr o21.2))], [(148, ⟨false, 4, [(V.agg [(I a0.fRows), (I a0.fColumns), (V.sl 1 3 (List.map eMark a0.fMarks)), (V.sl 1 7 (List.map eSlot a0.fFields))])]⟩)], 148⟩) (rd 1 [(88, (Sr o2.2))] rfl rfl <| rp rfl (p_call rfl rfl rfl rfl rfl (strings_Cut_ok k o2.2 ([32] : Str)) (.inl rfl)) fun v20 => bind_end rfl) fun o21 => kg f26a18 rfl (fun (o24 : (List Int) × Bool) => ⟨[(0, (Pt 148)), (13, (Sr o21.1)), (16, (sI o24.1)), (17, (Bo o24.2))], [(148, ⟨false, 4, [(V.agg [(I a0.fRows), (I a0.fColumns), (V.sl 1 3 (List.map eMark a0.fMarks)), (V.sl 1 7 (List.map eSlot a0.fFields))])]⟩)], 148⟩) (rd 1 [(94, (Sr o21.2))] rfl rfl <| rp rfl (p_call rfl rfl rfl rfl rfl (strings_Split_ok k o21.2 ([32] : Str)) (.inl rfl)) fun v22 => bd 2 [(95, (sS v22))] rfl rfl <| rp rfl (p_call rfl rfl rfl rfl rfl (screen_numbers_ok k v22) (.inl rfl)) fun v23 => bind_end rfl) fun o24 => et k_assoc <| kg f26a19 rfl (fun (o27 : Bool) => ⟨[(0, (Pt 148)), (13, (Sr o21.1)), (16, (sI o24.1)), (117, (Bo o27))], [(148, ⟨false, 4, [(V.agg [(I a0.fRows), (I a0.fColumns), (V.sl 1 3 (List.map eMark a0.fMarks)), (V.sl 1 7 (List.map eSlot a0.fFields))])]⟩)], 148⟩) ?_ fun o27 => ?_
     ·refine rd 3 [(99, (Bo o24.2)), (100, (Bo (!o24.2))), (101, (Bo (!o24.2)))] rfl rfl <| bifE (fun hc => ?_) fun hc => ?_
      ·rw [hc]
       exact reg_end rfl
      ·rw [hc]
       refine rd 4 [(102, (sI o24.1))] rfl rfl <| rl rfl (p_len (e := I) rfl rfl rfl rfl rfl rfl underlying60) <| bd 8 [(103, (I (o24.1.length : Int))), (104, (Bo ((o24.1.length : Int) != 6))), (105, (Bo ((o24.1.length : Int) != 6))), (106, (Bo ((o24.1.length : Int) != 6)))] rfl rfl <| bifE (fun hc => ?_) fun hc => ?_
       ·rw [hc]
        exact reg_end rfl
       ·rw [hc]
        refine rd 9 [(107, (sI o24.1))] rfl rfl <| rp rfl (p_index (e := I) rfl rfl rfl underlying60 rfl (by decide)) fun v25 => bd 14 [(108, (Pr (I v25))), (109, (I v25)), (110, (Bo (decide (v25 < 0)))), (111, (Bo (decide (v25 < 0)))), (112, (Bo (decide (v25 < 0))))] rfl rfl <| bifE (fun hc => ?_) fun hc => ?_
        ·rw [hc]
         exact reg_end rfl
        ·rw [hc]
         exact rd 15 [(113, (sI o24.1))] rfl rfl <| rp rfl (p_index (e := I) rfl rfl rfl underlying60 rfl (by decide)) fun v26 => bind_end rfl
     refine kc rfl rfl (fun hc => ?_) fun hc => ?_
     ·rw [hc]
      refine et k_assoc <| kr ⟨[(4, (Bo false))], [(148, ⟨false, 4, [(V.agg [(I a0.fRows), (I a0.fColumns), (V.sl 1 3 (List.map eMark a0.fMarks)), (V.sl 1 7 (List.map eSlot a0.fFields))])]⟩)], 148⟩ rfl <| et k_ret <| et blk_ret ?_
      rfl
     ·rw [hc]
      refine et k_skip <| kd f26a21 rfl (fun (o35 : (List T_api_Slot)) => ⟨[], [(148, ⟨false, 4, [(V.agg [(I a0.fRows), (I a0.fColumns), (V.sl 1 3 (List.map eMark a0.fMarks)), (V.sl 1 7 (List.map eSlot o35))])]⟩)], 148⟩) (et (regionE_regA (by decide)) <| ra 7 7 ⟨[(0, (Pt 148)), (13, (Sr o21.1)), (16, (sI o24.1)), (117, (Bo false)), (118, (Pt 148)), (119, (Pt 148)), (120, (Pt 148)), (121, (V.ptr 148 0 3)), (122, (V.sl 1 7 (List.map eSlot a0.fFields))), (123, (Sr o21.1)), (124, (sI o24.1))], [(148, ⟨false, 4, [(V.agg [(I a0.fRows), (I a0.fColumns), (V.sl 1 3 (List.map eMark a0.fMarks)), (sSlot a0.fFields)])]⟩)], 148⟩ rfl rfl rfl <| rp rfl (p_index (e := I) rfl rfl rfl underlying60 rfl (by decide)) fun v28 => bd 10 [(125, (Pr (I v28))), (126, (I v28)), (127, (sI o24.1))] rfl rfl <| rp rfl (p_index (e := I) rfl rfl rfl underlying60 rfl (by decide)) fun v29 => bd 13 [(128, (Pr (I v29))), (129, (I v29)), (130, (sI o24.1))] rfl rfl <| rp rfl (p_index (e := I) rfl rfl rfl underlying60 rfl (by decide)) fun v30 => bd 16 [(131, (Pr (I v30))), (132, (I v30)), (133, (sI o24.1))] rfl rfl <| rp rfl (p_index (e := I) rfl rfl rfl underlying60 rfl (by decide)) fun v31 => bd 19 [(134, (Pr (I v31))), (135, (I v31)), (136, (sI o24.1))] rfl rfl <| rp rfl (p_index (e := I) rfl rfl rfl underlying60 rfl (by decide)) fun v32 => bd 22 [(137, (Pr (I v32))), (138, (I v32)), (139, (sI o24.1))] rfl rfl <| rp rfl (p_index (e := I) rfl rfl rfl underlying60 rfl (by decide)) fun v33 => bd 27 [(140, (Pr (I v33))), (141, (I v33)), (142, (V.int .u8 (Go.IntKind.wrap .u8 v33))), (143, (eSlot ({ fName := o21.1, fRow := v28, fColumn := v29, fBytes := v30, fIn := v31, fOut := v32, fFill := (Go.IntKind.wrap .u8 v33) } : T_api_Slot))), (144, (sSlot (([({ fName := o21.1, fRow := v28, fColumn := v29, fBytes := v30, fIn := v31, fOut := v32, fFill := (Go.IntKind.wrap .u8 v33) } : T_api_Slot)] : List T_api_Slot))))] rfl rfl <| et (reg_eff (x := (app a0.fFields ([({ fName := o21.1, fRow := v28, fColumn := v29, fBytes := v30, fIn := v31, fOut := v32, fFill := (Go.IntKind.wrap .u8 v33) } : T_api_Slot)] : List T_api_Slot))) (w := fun v34 => ((V.sl 1 7 (List.map eSlot v34)), _)) rfl rfl rfl rfl (p_app (e := eSlot) rfl rfl rfl rfl rfl rfl rfl rfl rfl rfl (by decide))) <| bind_self fun v34 => bind_end rfl) fun o35 => kra [(4, (Bo true))] rfl <| et k_lret <| et blk_ret ?_
      rfl
    ·rw [hc]
     refine et k_lskip <| et blk_normal <| kr ⟨[(4, (Bo false))], [(148, ⟨false, 4, [(V.agg [(I a0.fRows), (I a0.fColumns), (V.sl 1 3 (List.map eMark a0.fMarks)), (V.sl 1 7 (List.map eSlot a0.fFields))])]⟩)], 148⟩ rfl <| et k_lret ?_
     rfl
def screen_Parse_fin : (T_api_Form × Int) → V × List V := fun r => (.tup [(eForm r.1), (I r.2)], [])
theorem screen_Parse_L1_ok (k : Nat) (a0 : Str) (o2 : (List Str) × Int × Int)  (K0 : Int → Int → Int → (List T_api_Mark) → (List T_api_Slot) → Option (T_api_Form × Int)) (Kst : X × St → Option (V × List V)) (hK0 : ∀ (y0 : Int) (y1 : Int) (y2 : Int) (y3 : (List T_api_Mark)) (y4 : (List T_api_Slot)), Kst (X.exit 0, ⟨[(0, (Sr a0)), (2, (Pt 2)), (4, (Pt 4)), (10, (sS o2.1)), (11, (I o2.2.1)), (12, (I y0)), (13, (Bo false))], [(2, ⟨false, 4, [(V.agg [(I 0), (I 0), (V.sl 2 3 (List.map eMark ([] : List T_api_Mark))), (V.sl 2 7 (List.map eSlot ([] : List T_api_Slot)))])]⟩), (4, ⟨false, 4, [(V.agg [(I y1), (I y2), (V.sl 1 3 (List.map eMark y3)), (V.sl 1 7 (List.map eSlot y4))])]⟩)], 39⟩) = (K0 y0 y1 y2 y3 y4).map screen_Parse_fin) (hret : ∀ s, Kst (X.ret, s) = endK prog 39 [(Sr a0)] [] [.cell 2 25, .tmp 3] (X.ret, s)) :
  ∀ (m : Nat) (x7 : Int) (x8 : Int) (x9 : Int) (x10 : (List T_api_Mark)) (x11 : (List T_api_Slot)), (iter (exec prog (EV k) f8n k f8b0) m ⟨[(0, (Sr a0)), (2, (Pt 2)), (4, (Pt 4)), (10, (sS o2.1)), (11, (I o2.2.1)), (12, (I x7))], [(2, ⟨false, 4, [(V.agg [(I 0), (I 0), (V.sl 2 3 (List.map eMark ([] : List T_api_Mark))), (V.sl 2 7 (List.map eSlot ([] : List T_api_Slot)))])]⟩), (4, ⟨false, 4, [(V.agg [(I x8), (I x9), (V.sl 1 3 (List.map eMark x10)), (V.sl 1 7 (List.map eSlot x11))])]⟩)], 39⟩).bind Kst = (screen_Parse_L1 k o2 K0 m x7 x8 x9 x10 x11).map screen_Parse_fin := by
 intro m
 induction m with
 | zero => intros; rfl
 | succ m ih =>
  intro x7 x8 x9 x10 x11
  unfold screen_Parse_L1
  refine et k_round <| kra [(13, (Bo (decide (x7 < o2.2.1))))] rfl <| kc rfl rfl (fun hc => ?_) fun hc => ?_
  ·rw [hc]
   refine et k_skip <| et (k_block rfl) <| kg f8a4 rfl (fun (o13 : Str) => ⟨[(0, (Sr a0)), (2, (Pt 2)), (4, (Pt 4)), (6, (Sr o13)), (10, (sS o2.1)), (11, (I o2.2.1)), (12, (I x7))], [(2, ⟨false, 4, [(V.agg [(I 0), (I 0), (V.sl 2 3 (List.map eMark ([] : List T_api_Mark))), (V.sl 2 7 (List.map eSlot ([] : List T_api_Slot)))])]⟩), (4, ⟨false, 4, [(V.agg [(I x8), (I x9), (V.sl 1 3 (List.map eMark x10)), (V.sl 1 7 (List.map eSlot x11))])]⟩)], 39⟩) (rs rfl (p_index (e := V.str) rfl rfl rfl underlying39 rfl (by decide)) fun v12 => bind_end rfl) fun o13 => kg f8a5 rfl (fun (o15 : Bool × Int × Int × (List T_api_Mark) × (List T_api_Slot)) => ⟨[(0, (Sr a0)), (2, (Pt 2)), (4, (Pt 4)), (10, (sS o2.1)), (11, (I o2.2.1)), (12, (I x7)), (22, (Bo o15.1))], [(2, ⟨false, 4, [(V.agg [(I 0), (I 0), (V.sl 2 3 (List.map eMark ([] : List T_api_Mark))), (V.sl 2 7 (List.map eSlot ([] : List T_api_Slot)))])]⟩), (4, ⟨false, 4, [(V.agg [(I o15.2.1), (I o15.2.2.1), (V.sl 1 3 (List.map eMark o15.2.2.2.1)), (V.sl 1 7 (List.map eSlot o15.2.2.2.2))])]⟩)], 39⟩) ?_ fun o15 => ?_
   ·refine rd 3 [(16, (Sr o13)), (17, (Bo (!(o13 == ([] : Str))))), (18, (Bo (!(o13 == ([] : Str)))))] rfl rfl <| bifE (fun hc => ?_) fun hc => ?_
    ·rw [hc]
     exact rd 4 [(19, (Sr o13))] rfl rfl <| et (reg_eff (x := (screen_add k ({ fRows := x8, fColumns := x9, fMarks := x10, fFields := x11 } : T_api_Form) o13)) (w := fun (v14 : (Bool × T_api_Form)) => ((Bo v14.1), _)) rfl rfl rfl rfl (p_callIO (fr := fun (v14 : (Bool × T_api_Form)) => (Bo v14.1)) (fe := fun (v14 : (Bool × T_api_Form)) => (V.agg [(I v14.2.fRows), (I v14.2.fColumns), (V.sl 1 3 (List.map eMark v14.2.fMarks)), (V.sl 1 7 (List.map eSlot v14.2.fFields))])) (fe' := fun (v14 : (Bool × T_api_Form)) => (V.agg [(I v14.2.fRows), (I v14.2.fColumns), (V.sl 1 3 (List.map eMark v14.2.fMarks)), (V.sl 1 7 (List.map eSlot v14.2.fFields))])) rfl rfl rfl rfl rfl rfl rfl (screen_add_ok k ({ fRows := x8, fColumns := x9, fMarks := x10, fFields := x11 } : T_api_Form) o13) (fun _ => rfl))) <| bindE fun v14 => bind_end rfl
    ·rw [hc]
     exact reg_end rfl
   refine kcl rfl rfl (fun hc => ?_) fun hc => ?_
   ·rw [hc]
    refine kr ⟨[(2, (Pt 2)), (3, (I 3))], [(2, ⟨false, 4, [(eForm ({ fRows := 0, fColumns := 0, fMarks := ([] : List T_api_Mark), fFields := ([] : List T_api_Slot) } : T_api_Form))]⟩)], 39⟩ rfl <| et k_lret <| et blk_ret <| et loop_ret <| et (hret _) ?_
    rfl
   ·rw [hc]
    exact et k_lskip <| et blk_normal <| kl ⟨[(0, (Sr a0)), (2, (Pt 2)), (4, (Pt 4)), (10, (sS o2.1)), (11, (I o2.2.1)), (12, (I (Go.IntKind.wrap .i64 (x7 + 1))))], [(2, ⟨false, 4, [(V.agg [(I 0), (I 0), (V.sl 2 3 (List.map eMark ([] : List T_api_Mark))), (V.sl 2 7 (List.map eSlot ([] : List T_api_Slot)))])]⟩), (4, ⟨false, 4, [(V.agg [(I o15.2.1), (I o15.2.2.1), (V.sl 1 3 (List.map eMark o15.2.2.2.1)), (V.sl 1 7 (List.map eSlot o15.2.2.2.2))])]⟩)], 39⟩ rfl <| et loop_normal <| ih (Go.IntKind.wrap .i64 (x7 + 1)) o15.2.1 o15.2.2.1 o15.2.2.2.1 o15.2.2.2.2
  ·rw [hc]
   exact et k_exit <| et loop_exit <| hK0 x7 x8 x9 x10 x11
theorem screen_Parse_ok (k : Nat) (a0 : Str) : EV k 8 [(Sr a0)] = (screen_Parse k a0).map screen_Parse_fin := by
 cases k with
 | zero => rfl
 | succ k =>
  unfold screen_Parse
  refine et (evF_succ (c := f8c) (N := 39) (regs := f8n) rfl func8 rfl (by decide) rfl rfl rfl) <| kr ⟨[(0, (Sr a0)), (2, (Pt 2))], [(2, ⟨false, 4, [(V.agg [(I 0), (I 0), (V.sl 2 3 (List.map eMark ([] : List T_api_Mark))), (V.sl 2 7 (List.map eSlot ([] : List T_api_Slot)))])]⟩)], 39⟩ rfl <| kr ⟨[(0, (Sr a0)), (2, (Pt 2)), (4, (Pt 4))], [(2, ⟨false, 4, [(V.agg [(I 0), (I 0), (V.sl 2 3 (List.map eMark ([] : List T_api_Mark))), (V.sl 2 7 (List.map eSlot ([] : List T_api_Slot)))])]⟩), (4, ⟨false, 4, [(V.agg [(I 0), (I 0), (V.sl 1 3 (List.map eMark ([] : List T_api_Mark))), (V.sl 1 7 (List.map eSlot ([] : List T_api_Slot)))])]⟩)], 39⟩ rfl <| et k_assoc <| kga f8a2 rfl (fun (o2 : (List Str) × Int × Int) => [(10, (sS o2.1)), (11, (I o2.2.1)), (12, (I o2.2.2))]) (rd 1 [(9, (Sr a0))] rfl rfl <| rp rfl (p_call rfl rfl rfl rfl rfl (strings_Split_ok k a0 ([10] : Str)) (.inl rfl)) fun v1 => bd 2 [(10, (sS v1))] rfl rfl <| rl rfl (p_len (e := V.str) rfl rfl rfl rfl rfl rfl underlying39) <| bind_end rfl) fun o2 => et (k_block rfl) <| et k_loop ?_
  refine screen_Parse_L1_ok k a0 o2 _ _ ?h_screen_Parse_L1_0 ?hr_screen_Parse_L1 k o2.2.2 0 0 ([] : List T_api_Mark) ([] : List T_api_Slot)
  ·intro y16 y17 y18 y19 y20
   refine et blk_exit <| et k_assoc <| kg f8a8 rfl (fun (o22 : Str × Int) => ⟨[(0, (Sr a0)), (2, (Pt 2)), (4, (Pt 4)), (7, (Sr o22.1)), (8, (I o22.2))], [(2, ⟨false, 4, [(V.agg [(I 0), (I 0), (V.sl 2 3 (List.map eMark ([] : List T_api_Mark))), (V.sl 2 7 (List.map eSlot ([] : List T_api_Slot)))])]⟩), (4, ⟨false, 4, [(V.agg [(I y17), (I y18), (V.sl 1 3 (List.map eMark y19)), (V.sl 1 7 (List.map eSlot y20))])]⟩)], 39⟩) (rd 1 [(26, (eForm ({ fRows := y17, fColumns := y18, fMarks := y19, fFields := y20 } : T_api_Form)))] rfl rfl <| rp rfl (p_call rfl rfl rfl rfl rfl (screen_Format_ok k ({ fRows := y17, fColumns := y18, fMarks := y19, fFields := y20 } : T_api_Form)) (.inl rfl)) fun v21 => bind_end rfl) fun o22 => et k_assoc <| kg f8a9 rfl (fun (o23 : Bool) => ⟨[(2, (Pt 2)), (4, (Pt 4)), (36, (Bo o23))], [(2, ⟨false, 4, [(V.agg [(I 0), (I 0), (V.sl 2 3 (List.map eMark ([] : List T_api_Mark))), (V.sl 2 7 (List.map eSlot ([] : List T_api_Slot)))])]⟩), (4, ⟨false, 4, [(V.agg [(I y17), (I y18), (V.sl 1 3 (List.map eMark y19)), (V.sl 1 7 (List.map eSlot y20))])]⟩)], 39⟩) ?_ fun o23 => ?_
   ·refine rd 3 [(30, (I o22.2)), (31, (Bo (o22.2 != 0))), (32, (Bo (o22.2 != 0)))] rfl rfl <| bifE (fun hc => ?_) fun hc => ?_
    ·rw [hc]
     exact reg_end rfl
    ·rw [hc]
     exact reg_end rfl
   refine kc rfl rfl (fun hc => ?_) fun hc => ?_
   ·rw [hc]
    refine et k_assoc <| kr ⟨[(2, (Pt 2)), (3, (I 3))], [(2, ⟨false, 4, [(eForm ({ fRows := 0, fColumns := 0, fMarks := ([] : List T_api_Mark), fFields := ([] : List T_api_Slot) } : T_api_Form))]⟩)], 39⟩ rfl <| et k_ret ?_
    rfl
   ·rw [hc]
    refine et k_skip <| kr ⟨[(2, (Pt 2)), (3, (I 0))], [(2, ⟨false, 4, [(eForm ({ fRows := y17, fColumns := y18, fMarks := y19, fFields := y20 } : T_api_Form))]⟩)], 39⟩ rfl <| et k_lret ?_
    rfl
  ·intro s; exact rfl
def ref24_Split_fin : (List Str) → V × List V := fun r => ((sS r), [])
theorem ref24_Split_L1_ok (k : Nat) (a0 : Str) (a1 : Int) (a2 : Int)  (K0 : Int → (List Str) → Option (List Str)) (Kst : X × St → Option (V × List V)) (hK0 : ∀ (y0 : Int) (y1 : (List Str)), Kst (X.exit 0, ⟨[(0, (Sr a0)), (1, (V.int .u8 a1)), (2, (I a2)), (7, (aL 9 V.str y1)), (8, (I y0)), (13, (Bo false))], [(9, ⟨true, 1, List.map V.str y1⟩)], 44⟩) = (K0 y0 y1).map ref24_Split_fin) (hret : ∀ s, Kst (X.ret, s) = endK prog 44 [(Sr a0), (V.int .u8 a1), (I a2)] [] [.tmp 6] (X.ret, s)) :
  ∀ (m : Nat) (x12 : Int) (x13 : (List Str)), (iter (exec prog (EV k) f27n k f27b0) m ⟨[(0, (Sr a0)), (1, (V.int .u8 a1)), (2, (I a2)), (7, (aL 9 V.str x13)), (8, (I x12))], [(9, ⟨true, 1, List.map V.str x13⟩)], 44⟩).bind Kst = (ref24_Split_L1 a0 a1 a2 K0 m x12 x13).map ref24_Split_fin := by
 intro m
 induction m with
 | zero => intros; rfl
 | succ m ih =>
  intro x12 x13
  unfold ref24_Split_L1
  refine et k_round <| et k_assoc <| kra [(13, (Bo (decide (x12 < (a0.length : Int)))))] rfl <| kc rfl rfl (fun hc => ?_) fun hc => ?_
  ·rw [hc]
   refine et k_skip <| et (k_block rfl) <| et k_assoc <| kg f27a5 rfl (fun (o15 : Bool) => ⟨[(0, (Sr a0)), (1, (V.int .u8 a1)), (2, (I a2)), (7, (aL 9 V.str x13)), (8, (I x12)), (26, (Bo o15))], [(9, ⟨true, 1, List.map V.str x13⟩)], 44⟩) ?_ fun o15 => ?_
   ·refine rd 2 [(16, (Sr a0)), (17, (I x12))] rfl rfl <| rp rfl (p_indexS rfl rfl rfl underlying9) fun v14 => bd 6 [(18, (V.int .u8 v14)), (19, (V.int .u8 a1)), (20, (Bo (v14 == a1))), (21, (Bo (v14 == a1)))] rfl rfl <| bifE (fun hc => ?_) fun hc => ?_
    ·rw [hc]
     exact rd 7 [(22, (aL 9 V.str x13))] rfl rfl <| rl rfl (p_lenA (e := V.str) rfl rfl rfl rfl rfl rfl underlying39) <| bind_end rfl
    ·rw [hc]
     exact reg_end rfl
   refine kc rfl rfl (fun hc => ?_) fun hc => ?_
   ·rw [hc]
    exact et k_assoc <| kg f27a6 rfl (fun (o17 : (List Str)) => ⟨[(0, (Sr a0)), (1, (V.int .u8 a1)), (2, (I a2)), (7, (aL 9 V.str o17)), (8, (I x12))], [(9, ⟨true, 1, List.map V.str o17⟩)], 44⟩) (rd 2 [(27, (aL 9 V.str x13)), (28, (sS (([([] : Str)] : List Str))))] rfl rfl <| et (reg_eff (x := (app x13 ([([] : Str)] : List Str))) (w := fun v16 => ((aL 9 V.str v16), _)) rfl rfl rfl rfl (p_appF (e := V.str) (l := x13) rfl rfl rfl rfl rfl rfl rfl rfl rfl rfl rfl (of_decide_eq_true rfl))) <| bind_self fun v16 => bind_end rfl) fun o17 => et k_exit <| et blk_exit <| kl ⟨[(0, (Sr a0)), (1, (V.int .u8 a1)), (2, (I a2)), (7, (aL 9 V.str o17)), (8, (I (Go.IntKind.wrap .i64 (x12 + 1))))], [(9, ⟨true, 1, List.map V.str o17⟩)], 44⟩ rfl <| et loop_normal <| ih (Go.IntKind.wrap .i64 (x12 + 1)) o17
   ·rw [hc]
    refine et k_skip <| kdl f27a7 rfl (fun (o24 : (List Str)) => ⟨[(0, (Sr a0)), (1, (V.int .u8 a1)), (2, (I a2)), (7, (aL 9 V.str o24)), (8, (I x12))], [(9, ⟨true, 1, List.map V.str o24⟩)], 44⟩) ?_ fun o24 => ?_
    ·refine et (regionE_regp (p := 13) (dk := true) (t := [(0, (Sr a0)), (1, (V.int .u8 a1)), (2, (I a2)), (7, (aL 9 V.str x13)), (8, (I x12)), (26, (Bo false))]) (σ := [(9, ⟨true, 1, List.map V.str x13⟩)]) (n := 44) rfl (by decide) (by decide) rfl) <| et (regp_adv (m := 2) (j := 2) (t' := [(0, (Sr a0)), (1, (V.int .u8 a1)), (2, (I a2)), (7, (aL 9 V.str x13)), (8, (I x12)), (26, (Bo false)), (30, (aL 9 V.str x13)), (31, (aL 9 V.str x13))]) rfl rfl rfl) <| et (regp_pure (x := some ()) (w := fun _ => (I (x13.length : Int))) rfl rfl rfl rfl rfl (p_lenA (e := V.str) rfl rfl rfl rfl rfl rfl underlying39)) <| et some_bind <| et (putp_adv (m := 1) (j := 4) (t' := [(0, (Sr a0)), (1, (V.int .u8 a1)), (2, (I a2)), (7, (aL 9 V.str x13)), (8, (I x12)), (26, (Bo false)), (30, (aL 9 V.str x13)), (31, (aL 9 V.str x13)), (32, (I (x13.length : Int))), (33, (I (Go.IntKind.wrap .i64 ((x13.length : Int) - 1))))]) rfl rfl rfl) <| et (regp_pure (x := (inB x13.length (Go.IntKind.wrap .i64 ((x13.length : Int) - 1)))) (w := fun v18 => (V.ptr 9 (0 + (Go.IntKind.wrap .i64 ((x13.length : Int) - 1)).toNat) 0)) rfl rfl rfl rfl rfl (p_indexF (e := V.str) rfl rfl rfl underlying39 rfl rfl (by decide))) <| bindE fun v18 => et (putp_adv (m := 0) (j := 5) (t' := [(0, (Sr a0)), (1, (V.int .u8 a1)), (2, (I a2)), (7, (aL 9 V.str x13)), (8, (I x12)), (26, (Bo false)), (30, (aL 9 V.str x13)), (31, (aL 9 V.str x13)), (32, (I (x13.length : Int))), (33, (I (Go.IntKind.wrap .i64 ((x13.length : Int) - 1)))), (34, (V.ptr 9 (0 + (Go.IntKind.wrap .i64 ((x13.length : Int) - 1)).toNat) 0))]) rfl rfl rfl) <| et (regp_pure (x := (x13[0 + (Go.IntKind.wrap .i64 ((x13.length : Int) - 1)).toNat]?)) (w := fun v19 => (Sr v19)) rfl rfl rfl rfl rfl (p_loadA (e := V.str) rfl rfl rfl (fun _ => rfl) (fun _ => rfl))) ?_
     refine bindE fun v19 => et (putp_adv (m := 4) (j := 10) (t' := [(0, (Sr a0)), (1, (V.int .u8 a1)), (2, (I a2)), (7, (aL 9 V.str x13)), (8, (I x12)), (26, (Bo false)), (30, (aL 9 V.str x13)), (31, (aL 9 V.str x13)), (32, (I (x13.length : Int))), (33, (I (Go.IntKind.wrap .i64 ((x13.length : Int) - 1)))), (34, (V.ptr 9 (0 + (Go.IntKind.wrap .i64 ((x13.length : Int) - 1)).toNat) 0)), (35, (Sr v19)), (36, (Sr a0)), (37, (I x12)), (38, (I x12)), (39, (I (Go.IntKind.wrap .i64 (x12 + 1))))]) rfl rfl rfl) <| et (regp_pure (x := (cut a0 x12 (Go.IntKind.wrap .i64 (x12 + 1)))) (w := fun v20 => (Sr v20)) rfl rfl rfl rfl rfl (p_sliceS rfl rfl rfl rfl rfl rfl underlying9)) <| bindE fun v20 => et (putp_adv (m := 0) (j := 11) (t' := [(0, (Sr a0)), (1, (V.int .u8 a1)), (2, (I a2)), (7, (aL 9 V.str x13)), (8, (I x12)), (26, (Bo false)), (30, (aL 9 V.str x13)), (31, (aL 9 V.str x13)), (32, (I (x13.length : Int))), (33, (I (Go.IntKind.wrap .i64 ((x13.length : Int) - 1)))), (34, (V.ptr 9 (0 + (Go.IntKind.wrap .i64 ((x13.length : Int) - 1)).toNat) 0)), (35, (Sr v19)), (36, (Sr a0)), (37, (I x12)), (38, (I x12)), (39, (I (Go.IntKind.wrap .i64 (x12 + 1)))), (40, (Sr v20))]) rfl rfl rfl) <| et (regp_pure (x := (cat v19 v20)) (w := fun v21 => (Sr v21)) rfl rfl rfl rfl rfl (p_cat rfl rfl rfl)) <| bindE fun v21 => et (putp_adv (m := 0) (j := 12) (t' := [(0, (Sr a0)), (1, (V.int .u8 a1)), (2, (I a2)), (7, (aL 9 V.str x13)), (8, (I x12)), (26, (Bo false)), (30, (aL 9 V.str x13)), (31, (aL 9 V.str x13)), (32, (I (x13.length : Int))), (33, (I (Go.IntKind.wrap .i64 ((x13.length : Int) - 1)))), (34, (V.ptr 9 (0 + (Go.IntKind.wrap .i64 ((x13.length : Int) - 1)).toNat) 0)), (35, (Sr v19)), (36, (Sr a0)), (37, (I x12)), (38, (I x12)), (39, (I (Go.IntKind.wrap .i64 (x12 + 1)))), (40, (Sr v20)), (41, (Sr v21))]) rfl rfl rfl) <| et (regp_pure (x := (inB x13.length (Go.IntKind.wrap .i64 ((x13.length : Int) - 1)))) (w := fun v22 => (V.ptr 9 (0 + (Go.IntKind.wrap .i64 ((x13.length : Int) - 1)).toNat) 0)) rfl rfl rfl rfl rfl (p_indexF (e := V.str) rfl rfl rfl underlying39 rfl rfl (by decide))) <| bindE fun v22 => et (regp_reg (m := 0) (j := 13) (st' := ⟨[(0, (Sr a0)), (1, (V.int .u8 a1)), (2, (I a2)), (7, (aL 9 V.str x13)), (8, (I x12)), (26, (Bo false)), (30, (aL 9 V.str x13)), (31, (aL 9 V.str x13)), (32, (I (x13.length : Int))), (33, (I (Go.IntKind.wrap .i64 ((x13.length : Int) - 1)))), (34, (V.ptr 9 (0 + (Go.IntKind.wrap .i64 ((x13.length : Int) - 1)).toNat) 0)), (35, (Sr v19)), (36, (Sr a0)), (37, (I x12)), (38, (I x12)), (39, (I (Go.IntKind.wrap .i64 (x12 + 1)))), (40, (Sr v20)), (41, (Sr v21)), (42, (V.ptr 9 (0 + (Go.IntKind.wrap .i64 ((x13.length : Int) - 1)).toNat) 0))], [(9, ⟨true, 1, List.map V.str x13⟩)], 44⟩) rfl rfl rfl) <| et (reg_eff (x := (x13[0 + (Go.IntKind.wrap .i64 ((x13.length : Int) - 1)).toNat]?)) (w := fun _ => (V.tup [], _)) rfl rfl rfl rfl (p_storeL (S := (fun n_ => ⟨[(0, (Sr a0)), (1, (V.int .u8 a1)), (2, (I a2)), (7, (V.aref 9 0 n_)), (8, (I x12)), (26, (Bo false)), (30, (V.aref 9 0 n_)), (31, (V.aref 9 0 n_)), (32, (I (x13.length : Int))), (33, (I (Go.IntKind.wrap .i64 ((x13.length : Int) - 1)))), (34, (V.ptr 9 (0 + (Go.IntKind.wrap .i64 ((x13.length : Int) - 1)).toNat) 0)), (35, (Sr v19)), (36, (Sr a0)), (37, (I x12)), (38, (I x12)), (39, (I (Go.IntKind.wrap .i64 (x12 + 1)))), (40, (Sr v20)), (41, (Sr v21)), (42, (V.ptr 9 (0 + (Go.IntKind.wrap .i64 ((x13.length : Int) - 1)).toNat) 0))], [(9, ⟨true, 1, List.map V.str x13⟩)], 44⟩)) (e := V.str) (l := x13) (v := v21) rfl rfl rfl rfl rfl rfl rfl rfl rfl rfl (fun _ => rfl))) ?_
     exact bindE fun v23 => bind_end rfl
    exact et blk_normal <| kl ⟨[(0, (Sr a0)), (1, (V.int .u8 a1)), (2, (I a2)), (7, (aL 9 V.str o24)), (8, (I (Go.IntKind.wrap .i64 (x12 + 1))))], [(9, ⟨true, 1, List.map V.str o24⟩)], 44⟩ rfl <| et loop_normal <| ih (Go.IntKind.wrap .i64 (x12 + 1)) o24
  ·rw [hc]
   exact et k_exit <| et loop_exit <| hK0 x12 x13
theorem ref24_Split_ok (k : Nat) (a0 : Str) (a1 : Int) (a2 : Int) : EV k 27 [(Sr a0), (V.int .u8 a1), (I a2)] = (ref24_Split k a0 a1 a2).map ref24_Split_fin := by
 cases k with
 | zero => rfl
 | succ k =>
  unfold ref24_Split
  refine et (evF_succ (c := f27c) (N := 44) (regs := f27n) rfl func27 rfl (by decide) rfl rfl rfl) <| kra [] rfl <| kr ⟨[(0, (Sr a0)), (1, (V.int .u8 a1)), (2, (I a2)), (7, (V.aref 9 0 (List.map V.str ([([] : Str)] : List Str)).length)), (9, (V.aref 9 0 (List.map V.str ([([] : Str)] : List Str)).length))], [(9, ⟨true, 1, List.map V.str ([([] : Str)] : List Str)⟩)], 44⟩ rfl <| et k_assoc <| kr ⟨[(0, (Sr a0)), (1, (V.int .u8 a1)), (2, (I a2)), (7, (V.aref 9 0 (List.map V.str ([([] : Str)] : List Str)).length)), (8, (I 0)), (9, (V.aref 9 0 (List.map V.str ([([] : Str)] : List Str)).length))], [(9, ⟨true, 1, List.map V.str ([([] : Str)] : List Str)⟩)], 44⟩ rfl <| et (k_blockD (st' := ⟨[(0, (Sr a0)), (1, (V.int .u8 a1)), (2, (I a2)), (7, (V.aref 9 0 (List.map V.str ([([] : Str)] : List Str)).length)), (8, (I 0))], [(9, ⟨true, 1, List.map V.str ([([] : Str)] : List Str)⟩)], 44⟩) rfl) <| et k_loop ?_
  refine ref24_Split_L1_ok k a0 a1 a2 _ _ ?h_ref24_Split_L1_0 ?hr_ref24_Split_L1 k 0 ([([] : Str)] : List Str)
  ·intro y25 y26
   refine et blk_exit <| krp f27a8 rfl ⟨[(6, (sS y26))], [], 44⟩ ?_ ?_
   ·exact rd 1 [(43, (aL 9 V.str y26))] rfl rfl <| et (reg_eff (x := some ()) (w := fun _ => ((V.sl 2 1 (List.map V.str y26)), _)) rfl rfl rfl rfl (p_close (e := V.str) rfl rfl rfl rfl rfl (of_decide_eq_true rfl))) <| et some_bind <| bind_end rfl
   refine et k_lret ?_
   rfl
  ·intro s; exact rfl
def ref01_FromDigits_fin : (Int × Int) → V × List V := fun r => (.tup [(I r.1), (I r.2)], [])
theorem ref01_FromDigits_L1_ok (k : Nat) (a0 : Str)  (K0 : Int → Int → Option (Int × Int)) (Kst : X × St → Option (V × List V)) (hK0 : ∀ (y0 : Int) (y1 : Int), Kst (X.exit 0, ⟨[(0, (Sr a0)), (4, (I y0)), (5, (I y1)), (17, (Bo false))], [], 39⟩) = (K0 y0 y1).map ref01_FromDigits_fin) (hret : ∀ s, Kst (X.ret, s) = endK prog 39 [(Sr a0)] [] [.tmp 2, .tmp 3] (X.ret, s)) :
  ∀ (m : Nat) (x7 : Int) (x8 : Int), (iter (exec prog (EV k) f72n k f72b0) m ⟨[(0, (Sr a0)), (4, (I x7)), (5, (I x8))], [], 39⟩).bind Kst = (ref01_FromDigits_L1 a0 K0 m x7 x8).map ref01_FromDigits_fin := by
 intro m
 induction m with
 | zero => intros; rfl
 | succ m ih =>
  intro x7 x8
  unfold ref01_FromDigits_L1
  refine et k_round <| et k_assoc <| kra [(17, (Bo (decide (x8 < (a0.length : Int)))))] rfl <| kc rfl rfl (fun hc => ?_) fun hc => ?_
  ·rw [hc]
   refine et k_skip <| et (k_block rfl) <| et k_assoc <| kg f72a7 rfl (fun (o11 : Bool) => ⟨[(0, (Sr a0)), (4, (I x7)), (5, (I x8)), (29, (Bo o11))], [], 39⟩) ?_ fun o11 => ?_
   ·refine rd 2 [(20, (Sr a0)), (21, (I x8))] rfl rfl <| rp rfl (p_indexS rfl rfl rfl underlying9) fun v9 => bd 5 [(22, (V.int .u8 v9)), (23, (Bo (decide (v9 < 48)))), (24, (Bo (decide (v9 < 48))))] rfl rfl <| bifE (fun hc => ?_) fun hc => ?_
    ·rw [hc]
     exact reg_end rfl
    ·rw [hc]
     exact rd 7 [(25, (Sr a0)), (26, (I x8))] rfl rfl <| rp rfl (p_indexS rfl rfl rfl underlying9) fun v10 => bind_end rfl
   refine kc rfl rfl (fun hc => ?_) fun hc => ?_
   ·rw [hc]
    refine et k_assoc <| kr ⟨[(2, (I 0)), (3, (I 3))], [], 39⟩ rfl <| et k_ret <| et blk_ret <| et loop_ret <| et (hret _) ?_
    rfl
   ·rw [hc]
    exact et k_skip <| kgl f72a9 rfl (fun (o13 : Int) => ⟨[(0, (Sr a0)), (4, (I o13)), (5, (I x8))], [], 39⟩) (rd 4 [(30, (I x7)), (31, (I (Go.IntKind.wrap .i64 (10 * x7)))), (32, (Sr a0)), (33, (I x8))] rfl rfl <| rp rfl (p_indexS rfl rfl rfl underlying9) fun v12 => bind_end rfl) fun o13 => et blk_normal <| kl ⟨[(0, (Sr a0)), (4, (I o13)), (5, (I (Go.IntKind.wrap .i64 (x8 + 1))))], [], 39⟩ rfl <| et loop_normal <| ih o13 (Go.IntKind.wrap .i64 (x8 + 1))
  ·rw [hc]
   exact et k_exit <| et loop_exit <| hK0 x7 x8
theorem ref01_FromDigits_ok (k : Nat) (a0 : Str) : EV k 72 [(Sr a0)] = (ref01_FromDigits k a0).map ref01_FromDigits_fin := by
 cases k with
 | zero => rfl
 | succ k =>
  unfold ref01_FromDigits
  refine et (evF_succ (c := f72c) (N := 39) (regs := f72n) rfl func72 rfl (by decide) rfl rfl rfl) <| kra [] rfl <| et k_assoc <| kga f72a1 rfl (fun (o1 : Bool) => [(13, (Bo o1))]) ?_ fun o1 => ?_
  ·refine rd 4 [(6, (Sr a0)), (7, (I (a0.length : Int))), (8, (Bo (decide ((a0.length : Int) < 1)))), (9, (Bo (decide ((a0.length : Int) < 1))))] rfl rfl <| bifE (fun hc => ?_) fun hc => ?_
   ·rw [hc]
    exact reg_end rfl
   ·rw [hc]
    exact reg_end rfl
  refine kc rfl rfl (fun hc => ?_) fun hc => ?_
  ·rw [hc]
   refine et k_assoc <| kr ⟨[(2, (I 0)), (3, (I 3))], [], 39⟩ rfl <| et k_ret ?_
   rfl
  ·rw [hc]
   refine et k_skip <| kr ⟨[(0, (Sr a0)), (4, (I 0))], [], 39⟩ rfl <| et k_assoc <| kra [(5, (I 0))] rfl <| et (k_block rfl) <| et k_loop ?_
   refine ref01_FromDigits_L1_ok k a0 _ _ ?h_ref01_FromDigits_L1_0 ?hr_ref01_FromDigits_L1 k 0 0
   ·intro y14 y15
    refine et blk_exit <| kr ⟨[(2, (I y14)), (3, (I 0))], [], 39⟩ rfl <| et k_lret ?_
    rfl
   ·intro s; exact rfl
def ref24_number_fin : (Int × Bool) → V × List V := fun r => (.tup [(I r.1), (Bo r.2)], [])
theorem ref24_number_ok (k : Nat) (a0 : Str) : EV k 49 [(Sr a0)] = (ref24_number k a0).map ref24_number_fin := by
 cases k with
 | zero => rfl
 | succ k =>
  unfold ref24_number
  refine et (evF_succ (c := f49c) (N := 20) (regs := f49n) rfl func49 rfl (by decide) rfl rfl rfl) <| kra [] rfl <| kga f49a1 rfl (fun (o2 : Int × Int) => [(4, (I o2.1)), (5, (I o2.2))]) (rd 1 [(7, (Sr a0))] rfl rfl <| rp rfl (p_call rfl rfl rfl rfl rfl (ref01_FromDigits_ok k a0) (.inl rfl)) fun v1 => bind_end rfl) fun o2 => kg f49a2 rfl (fun (o4 : Int × Bool) => ⟨[(2, (I o4.1)), (3, (Bo o4.2))], [], 20⟩) ?_ fun o4 => ?_
  ·refine rd 4 [(11, (I o2.1)), (12, (I o2.2)), (13, (Bo (o2.2 == 0))), (14, (Bo (o2.2 == 0)))] rfl rfl <| bifE (fun hc => ?_) fun hc => ?_
   ·rw [hc]
    exact rd 5 [(15, (I o2.1))] rfl rfl <| rp rfl (p_call rfl rfl rfl rfl rfl (ref24_Dec_ok k o2.1) (.inl rfl)) fun v3 => bind_end rfl
   ·rw [hc]
    exact reg_end rfl
  refine et k_lret ?_
  rfl
def ref24_numbers_fin : ((List Int) × Bool) → V × List V := fun r => (.tup [(sI r.1), (Bo r.2)], [])
theorem ref24_numbers_L1_ok (k : Nat) (a0 : (List Str)) (a1 : Int)  (K0 : (List Int) → Int → Option ((List Int) × Bool)) (Kst : X × St → Option (V × List V)) (hK0 : ∀ (y0 : (List Int)) (y1 : Int), Kst (X.exit 0, ⟨[(0, (sS a0)), (1, (I a1)), (6, (V.sl 1 1 (List.map I y0))), (7, (I y1)), (13, (Bo false))], [], 44⟩) = (K0 y0 y1).map ref24_numbers_fin) (hret : ∀ s, Kst (X.ret, s) = endK prog 44 [(sS a0), (I a1)] [] [.tmp 4, .tmp 5] (X.ret, s)) :
  ∀ (m : Nat) (x10 : (List Int)) (x11 : Int), (iter (exec prog (EV k) f28n k f28b0) m ⟨[(0, (sS a0)), (1, (I a1)), (6, (V.sl 1 1 (List.map I x10))), (7, (I x11))], [], 44⟩).bind Kst = (ref24_numbers_L1 k a0 a1 K0 m x10 x11).map ref24_numbers_fin := by
 intro m
 induction m with
 | zero => intros; rfl
 | succ m ih =>
  intro x10 x11
  unfold ref24_numbers_L1
  refine et k_round <| et k_assoc <| krp f28a3 rfl ⟨[(0, (sS a0)), (1, (I a1)), (6, (V.sl 1 1 (List.map I x10))), (7, (I x11)), (13, (Bo (decide (x11 < (a0.length : Int)))))], [], 44⟩ ?_ ?_
  ·exact rd 2 [(10, (I x11)), (11, (sS a0))] rfl rfl <| rl rfl (p_len (e := V.str) rfl rfl rfl rfl rfl rfl underlying39) <| bind_end rfl
  refine kc rfl rfl (fun hc => ?_) fun hc => ?_
  ·rw [hc]
   refine et k_skip <| et (k_block rfl) <| et k_assoc <| kg f28a5 rfl (fun (o13 : Bool) => ⟨[(0, (sS a0)), (1, (I a1)), (6, (V.sl 1 1 (List.map I x10))), (7, (I x11)), (25, (Bo o13))], [], 44⟩) ?_ fun o13 => ?_
   ·refine rd 4 [(16, (I x11)), (17, (I a1)), (18, (Bo (decide (x11 ≥ a1)))), (19, (Bo (decide (x11 ≥ a1))))] rfl rfl <| bifE (fun hc => ?_) fun hc => ?_
    ·rw [hc]
     exact rd 6 [(20, (sS a0)), (21, (I x11))] rfl rfl <| rp rfl (p_index (e := V.str) rfl rfl rfl underlying39 rfl (by decide)) fun v12 => bind_end rfl
    ·rw [hc]
     exact reg_end rfl
   refine kc rfl rfl (fun hc => ?_) fun hc => ?_
   ·rw [hc]
    exact et k_assoc <| kg f28a6 rfl (fun (o15 : (List Int)) => ⟨[(0, (sS a0)), (1, (I a1)), (6, (V.sl 1 1 (List.map I o15))), (7, (I x11))], [], 44⟩) (ra 2 2 ⟨[(0, (sS a0)), (1, (I a1)), (6, (sI x10)), (7, (I x11)), (25, (Bo true)), (26, (V.sl 1 1 (List.map I x10))), (27, (sI (([(-1)] : List Int))))], [], 44⟩ rfl rfl rfl <| et (reg_eff (x := (app x10 ([(-1)] : List Int))) (w := fun v14 => ((V.sl 1 1 (List.map I v14)), _)) rfl rfl rfl rfl (p_app (e := I) rfl rfl rfl rfl rfl rfl rfl rfl rfl rfl (by decide))) <| bind_self fun v14 => bind_end rfl) fun o15 => et k_exit <| et blk_exit <| kl ⟨[(0, (sS a0)), (1, (I a1)), (6, (V.sl 1 1 (List.map I o15))), (7, (I (Go.IntKind.wrap .i64 (x11 + 1))))], [], 44⟩ rfl <| et loop_normal <| ih o15 (Go.IntKind.wrap .i64 (x11 + 1))
   ·rw [hc]
    refine et k_skip <| kg f28a7 rfl (fun (o18 : Int × Bool) => ⟨[(0, (sS a0)), (1, (I a1)), (6, (V.sl 1 1 (List.map I x10))), (7, (I x11)), (8, (I o18.1)), (9, (Bo o18.2))], [], 44⟩) (rd 2 [(30, (sS a0)), (31, (I x11))] rfl rfl <| rp rfl (p_index (e := V.str) rfl rfl rfl underlying39 rfl (by decide)) fun v16 => bd 4 [(32, (Pr (Sr v16))), (33, (Sr v16))] rfl rfl <| rp rfl (p_call rfl rfl rfl rfl rfl (ref24_number_ok k v16) (.inl rfl)) fun v17 => bind_end rfl) fun o18 => et k_assoc <| kr ⟨[(0, (sS a0)), (1, (I a1)), (6, (V.sl 1 1 (List.map I x10))), (7, (I x11)), (8, (I o18.1)), (38, (Bo (!o18.2)))], [], 44⟩ rfl <| kc rfl rfl (fun hc => ?_) fun hc => ?_
    ·rw [hc]
     refine et k_assoc <| kr ⟨[(4, (sI (([] : List Int)))), (5, (Bo false))], [], 44⟩ rfl <| et k_ret <| et blk_ret <| et loop_ret <| et (hret _) ?_
     rfl
    ·rw [hc]
     exact et k_skip <| kgl f28a10 rfl (fun (o20 : (List Int)) => ⟨[(0, (sS a0)), (1, (I a1)), (6, (V.sl 1 1 (List.map I o20))), (7, (I x11))], [], 44⟩) (ra 3 3 ⟨[(0, (sS a0)), (1, (I a1)), (6, (sI x10)), (7, (I x11)), (8, (I o18.1)), (38, (Bo false)), (39, (V.sl 1 1 (List.map I x10))), (40, (I o18.1)), (41, (sI (([o18.1] : List Int))))], [], 44⟩ rfl rfl rfl <| et (reg_eff (x := (app x10 ([o18.1] : List Int))) (w := fun v19 => ((V.sl 1 1 (List.map I v19)), _)) rfl rfl rfl rfl (p_app (e := I) rfl rfl rfl rfl rfl rfl rfl rfl rfl rfl (by decide))) <| bind_self fun v19 => bind_end rfl) fun o20 => et blk_normal <| kl ⟨[(0, (sS a0)), (1, (I a1)), (6, (V.sl 1 1 (List.map I o20))), (7, (I (Go.IntKind.wrap .i64 (x11 + 1))))], [], 44⟩ rfl <| et loop_normal <| ih o20 (Go.IntKind.wrap .i64 (x11 + 1))
  ·rw [hc]
   exact et k_exit <| et loop_exit <| hK0 x10 x11
theorem ref24_numbers_ok (k : Nat) (a0 : (List Str)) (a1 : Int) : EV k 28 [(sS a0), (I a1)] = (ref24_numbers k a0 a1).map ref24_numbers_fin := by
 cases k with
 | zero => rfl
 | succ k =>
  unfold ref24_numbers
  refine et (evF_succ (c := f28c) (N := 44) (regs := f28n) rfl func28 rfl (by decide) rfl rfl rfl) <| kra [] rfl <| kra [(6, (V.sl 1 1 (List.map I ([] : List Int))))] rfl <| et k_assoc <| kra [(7, (I 0))] rfl <| et (k_block rfl) <| et k_loop ?_
  refine ref24_numbers_L1_ok k a0 a1 _ _ ?h_ref24_numbers_L1_0 ?hr_ref24_numbers_L1 k ([] : List Int) 0
  ·intro y21 y22
   refine et blk_exit <| kr ⟨[(4, (sI y21)), (5, (Bo true))], [], 44⟩ rfl <| et k_lret ?_
   rfl
  ·intro s; exact rfl
def ref24_line_fin : (Bool × T_api_Form) → V × List V := fun r => ((Bo r.1), [(V.io (V.agg [(I r.2.fRows), (I r.2.fColumns), (V.sl 1 3 (List.map eMark r.2.fMarks)), (V.sl 1 7 (List.map eSlot r.2.fFields))]))])
theorem ref24_line_ok (k : Nat) (a0 : T_api_Form) (a1 : Str) : EV k 29 [(V.io (V.agg [(I a0.fRows), (I a0.fColumns), (V.sl 1 3 (List.map eMark a0.fMarks)), (V.sl 1 7 (List.map eSlot a0.fFields))])), (Sr a1)] = (ref24_line k a0 a1).map ref24_line_fin := by
 cases k with
 | zero => rfl
 | succ k =>
  unfold ref24_line
  refine et (evF_succ (c := f29c) (N := 123) (regs := f29n) rfl func29 rfl (by decide) rfl rfl rfl) <| kra [] rfl <| kga f29a1 rfl (fun (o2 : (List Str)) => [(5, (sS o2))]) (rd 1 [(12, (Sr a1))] rfl rfl <| rs rfl (p_call rfl rfl rfl rfl rfl (ref24_Split_ok k a1 32 1000) (.inl rfl)) fun v1 => bind_end rfl) fun o2 => et k_assoc <| kga f29a2 rfl (fun (o4 : Str) => [(16, (Sr o4))]) (rd 1 [(14, (sS o2))] rfl rfl <| rs rfl (p_index (e := V.str) rfl rfl rfl underlying39 rfl (by decide)) fun v3 => bind_end rfl) fun o4 => et (k_block rfl) <| kra [(17, (Bo (o4 == ([77, 65, 82, 75] : Str))))] rfl <| kcl rfl rfl (fun hc => ?_) fun hc => ?_
  ·rw [hc]
   refine kg f29a4 rfl (fun (o6 : (List Str)) => ⟨[(0, (Pt 123)), (5, (sS o6))], [(123, ⟨false, 4, [(V.agg [(I a0.fRows), (I a0.fColumns), (V.sl 1 3 (List.map eMark a0.fMarks)), (V.sl 1 7 (List.map eSlot a0.fFields))])]⟩)], 123⟩) (rd 1 [(19, (Sr a1))] rfl rfl <| rs rfl (p_call rfl rfl rfl rfl rfl (ref24_Split_ok k a1 32 4) (.inl rfl)) fun v5 => bind_end rfl) fun o6 => et k_assoc <| kga f29a5 rfl (fun (o7 : Bool) => [(31, (Bo o7))]) ?_ fun o7 => ?_
   ·refine rd 1 [(21, (sS o6))] rfl rfl <| rl rfl (p_len (e := V.str) rfl rfl rfl rfl rfl rfl underlying39) <| bd 4 [(22, (I (o6.length : Int))), (23, (Bo (decide ((o6.length : Int) < 4)))), (24, (Bo (decide ((o6.length : Int) < 4))))] rfl rfl <| bifE (fun hc => ?_) fun hc => ?_
    ·rw [hc]
     exact reg_end rfl
    ·rw [hc]
     exact rd 8 [(25, (Pt 123)), (26, (Pt 123)), (27, (V.ptr 123 0 3)), (28, (sSlot a0.fFields))] rfl rfl <| rl rfl (p_len (e := eSlot) rfl rfl rfl rfl rfl rfl underlying23) <| bind_end rfl
   refine kc rfl rfl (fun hc => ?_) fun hc => ?_
   ·rw [hc]
    refine et k_assoc <| kr ⟨[(4, (Bo false))], [(123, ⟨false, 4, [(V.agg [(I a0.fRows), (I a0.fColumns), (V.sl 1 3 (List.map eMark a0.fMarks)), (V.sl 1 7 (List.map eSlot a0.fFields))])]⟩)], 123⟩ rfl <| et k_ret <| et blk_ret ?_
    rfl
   ·rw [hc]
    refine et k_skip <| kg f29a7 rfl (fun (o10 : (List Int) × Bool) => ⟨[(0, (Pt 123)), (5, (sS o6)), (6, (sI o10.1)), (7, (Bo o10.2))], [(123, ⟨false, 4, [(V.agg [(I a0.fRows), (I a0.fColumns), (V.sl 1 3 (List.map eMark a0.fMarks)), (V.sl 1 7 (List.map eSlot a0.fFields))])]⟩)], 123⟩) (rd 1 [(33, (sS o6))] rfl rfl <| rp rfl (p_slice (e := V.str) rfl rfl rfl rfl rfl rfl underlying39 rfl (by decide)) fun v8 => bd 2 [(34, (sS v8))] rfl rfl <| rp rfl (p_call rfl rfl rfl rfl rfl (ref24_numbers_ok k v8 9) (.inl rfl)) fun v9 => bind_end rfl) fun o10 => et k_assoc <| kra [(38, (Bo o10.2))] rfl <| kc rfl rfl (fun hc => ?_) fun hc => ?_
    ·rw [hc]
     refine kd f29a9 rfl (fun (o15 : (List T_api_Mark)) => ⟨[(7, (Bo true))], [(123, ⟨false, 4, [(V.agg [(I a0.fRows), (I a0.fColumns), (V.sl 1 3 (List.map eMark o15)), (V.sl 1 7 (List.map eSlot a0.fFields))])]⟩)], 123⟩) (et (regionE_regA (by decide)) <| ra 6 6 ⟨[(0, (Pt 123)), (5, (sS o6)), (6, (sI o10.1)), (7, (Bo true)), (38, (Bo true)), (39, (Pt 123)), (40, (Pt 123)), (41, (Pt 123)), (42, (V.ptr 123 0 2)), (43, (V.sl 1 3 (List.map eMark a0.fMarks))), (44, (sI o10.1))], [(123, ⟨false, 4, [(V.agg [(I a0.fRows), (I a0.fColumns), (sMark a0.fMarks), (V.sl 1 7 (List.map eSlot a0.fFields))])]⟩)], 123⟩ rfl rfl rfl <| rp rfl (p_index (e := I) rfl rfl rfl underlying60 rfl (by decide)) fun v11 => bd 9 [(45, (Pr (I v11))), (46, (I v11)), (47, (sI o10.1))] rfl rfl <| rp rfl (p_index (e := I) rfl rfl rfl underlying60 rfl (by decide)) fun v12 => bd 12 [(48, (Pr (I v12))), (49, (I v12)), (50, (sS o6))] rfl rfl <| rp rfl (p_index (e := V.str) rfl rfl rfl underlying39 rfl (by decide)) fun v13 => bd 16 [(51, (Pr (Sr v13))), (52, (Sr v13)), (53, (eMark ({ fRow := v11, fColumn := v12, fText := v13 } : T_api_Mark))), (54, (sMark (([({ fRow := v11, fColumn := v12, fText := v13 } : T_api_Mark)] : List T_api_Mark))))] rfl rfl <| et (reg_eff (x := (app a0.fMarks ([({ fRow := v11, fColumn := v12, fText := v13 } : T_api_Mark)] : List T_api_Mark))) (w := fun v14 => ((V.sl 1 3 (List.map eMark v14)), _)) rfl rfl rfl rfl (p_app (e := eMark) rfl rfl rfl rfl rfl rfl rfl rfl rfl rfl (by decide))) <| bind_self fun v14 => bind_end rfl) fun o15 => kr ⟨[(4, (Bo true))], [(123, ⟨false, 4, [(V.agg [(I a0.fRows), (I a0.fColumns), (V.sl 1 3 (List.map eMark o15)), (V.sl 1 7 (List.map eSlot a0.fFields))])]⟩)], 123⟩ rfl <| et k_lret <| et blk_ret ?_
     rfl
    ·rw [hc]
     refine et k_skip <| kr ⟨[(4, (Bo false))], [(123, ⟨false, 4, [(V.agg [(I a0.fRows), (I a0.fColumns), (V.sl 1 3 (List.map eMark a0.fMarks)), (V.sl 1 7 (List.map eSlot a0.fFields))])]⟩)], 123⟩ rfl <| et k_lret <| et blk_ret ?_
     rfl
  ·rw [hc]
   refine kr ⟨[(0, (Pt 123)), (5, (sS o2)), (59, (Bo (o4 == ([70, 73, 69, 76, 68] : Str))))], [(123, ⟨false, 4, [(V.agg [(I a0.fRows), (I a0.fColumns), (V.sl 1 3 (List.map eMark a0.fMarks)), (V.sl 1 7 (List.map eSlot a0.fFields))])]⟩)], 123⟩ rfl <| kcl rfl rfl (fun hc => ?_) fun hc => ?_
   ·rw [hc]
    refine et k_assoc <| krp f29a12 rfl ⟨[(0, (Pt 123)), (5, (sS o2)), (63, (Bo ((o2.length : Int) != 8)))], [(123, ⟨false, 4, [(V.agg [(I a0.fRows), (I a0.fColumns), (V.sl 1 3 (List.map eMark a0.fMarks)), (V.sl 1 7 (List.map eSlot a0.fFields))])]⟩)], 123⟩ ?_ ?_
    ·exact rd 1 [(61, (sS o2))] rfl rfl <| rl rfl (p_len (e := V.str) rfl rfl rfl rfl rfl rfl underlying39) <| bind_end rfl
    refine kc rfl rfl (fun hc => ?_) fun hc => ?_
    ·rw [hc]
     refine et k_assoc <| kr ⟨[(4, (Bo false))], [(123, ⟨false, 4, [(V.agg [(I a0.fRows), (I a0.fColumns), (V.sl 1 3 (List.map eMark a0.fMarks)), (V.sl 1 7 (List.map eSlot a0.fFields))])]⟩)], 123⟩ rfl <| et k_ret <| et blk_ret ?_
     rfl
    ·rw [hc]
     refine et k_skip <| kg f29a14 rfl (fun (o18 : (List Int) × Bool) => ⟨[(0, (Pt 123)), (5, (sS o2)), (8, (sI o18.1)), (9, (Bo o18.2))], [(123, ⟨false, 4, [(V.agg [(I a0.fRows), (I a0.fColumns), (V.sl 1 3 (List.map eMark a0.fMarks)), (V.sl 1 7 (List.map eSlot a0.fFields))])]⟩)], 123⟩) (rd 1 [(65, (sS o2))] rfl rfl <| rp rfl (p_slice (e := V.str) rfl rfl rfl rfl rfl rfl underlying39 rfl (by decide)) fun v16 => bd 2 [(66, (sS v16))] rfl rfl <| rp rfl (p_call rfl rfl rfl rfl rfl (ref24_numbers_ok k v16 3) (.inl rfl)) fun v17 => bind_end rfl) fun o18 => kga f29a15 rfl (fun (o21 : Int × Bool) => [(10, (I o21.1)), (11, (Bo o21.2))]) (rd 1 [(71, (sS o2))] rfl rfl <| rp rfl (p_index (e := V.str) rfl rfl rfl underlying39 rfl (by decide)) fun v19 => bd 3 [(72, (Pr (Sr v19))), (73, (Sr v19))] rfl rfl <| rp rfl (p_call rfl rfl rfl rfl rfl (ref24_number_ok k v19) (.inl rfl)) fun v20 => bind_end rfl) fun o21 => et k_assoc <| kg f29a16 rfl (fun (o22 : Bool × Bool × Bool) => ⟨[(0, (Pt 123)), (5, (sS o2)), (8, (sI o18.1)), (9, (Bo o22.1)), (10, (I o21.1)), (11, (Bo o22.2.1)), (84, (Bo o22.2.2))], [(123, ⟨false, 4, [(V.agg [(I a0.fRows), (I a0.fColumns), (V.sl 1 3 (List.map eMark a0.fMarks)), (V.sl 1 7 (List.map eSlot a0.fFields))])]⟩)], 123⟩) ?_ fun o22 => ?_
     ·refine rd 2 [(77, (Bo o18.2)), (78, (Bo o18.2))] rfl rfl <| bifE (fun hc => ?_) fun hc => ?_
      ·rw [hc]
       refine rd 5 [(79, (Bo o21.2)), (80, (Bo o21.2)), (81, (Bo o21.2))] rfl rfl <| bifE (fun hc => ?_) fun hc => ?_
       ·rw [hc]
        exact reg_end rfl
       ·rw [hc]
        exact reg_end rfl
      ·rw [hc]
       exact reg_end rfl
     refine kc rfl rfl (fun hc => ?_) fun hc => ?_
     ·rw [hc]
      refine kd f29a17 rfl (fun (o30 : (List T_api_Slot)) => ⟨[(9, (Bo o22.1)), (10, (I o21.1)), (11, (Bo o22.2.1))], [(123, ⟨false, 4, [(V.agg [(I a0.fRows), (I a0.fColumns), (V.sl 1 3 (List.map eMark a0.fMarks)), (V.sl 1 7 (List.map eSlot o30))])]⟩)], 123⟩) (et (regionE_regA (by decide)) <| ra 6 6 ⟨[(0, (Pt 123)), (5, (sS o2)), (8, (sI o18.1)), (9, (Bo o22.1)), (10, (I o21.1)), (11, (Bo o22.2.1)), (84, (Bo true)), (85, (Pt 123)), (86, (Pt 123)), (87, (Pt 123)), (88, (V.ptr 123 0 3)), (89, (V.sl 1 7 (List.map eSlot a0.fFields))), (90, (sS o2))], [(123, ⟨false, 4, [(V.agg [(I a0.fRows), (I a0.fColumns), (V.sl 1 3 (List.map eMark a0.fMarks)), (sSlot a0.fFields)])]⟩)], 123⟩ rfl rfl rfl <| rp rfl (p_index (e := V.str) rfl rfl rfl underlying39 rfl (by decide)) fun v23 => bd 9 [(91, (Pr (Sr v23))), (92, (Sr v23)), (93, (sI o18.1))] rfl rfl <| rp rfl (p_index (e := I) rfl rfl rfl underlying60 rfl (by decide)) fun v24 => bd 12 [(94, (Pr (I v24))), (95, (I v24)), (96, (sI o18.1))] rfl rfl <| rp rfl (p_index (e := I) rfl rfl rfl underlying60 rfl (by decide)) fun v25 => bd 15 [(97, (Pr (I v25))), (98, (I v25)), (99, (sI o18.1))] rfl rfl <| rp rfl (p_index (e := I) rfl rfl rfl underlying60 rfl (by decide)) fun v26 => bd 18 [(100, (Pr (I v26))), (101, (I v26)), (102, (sI o18.1))] rfl rfl <| rp rfl (p_index (e := I) rfl rfl rfl underlying60 rfl (by decide)) fun v27 => bd 21 [(103, (Pr (I v27))), (104, (I v27)), (105, (sI o18.1))] rfl rfl <| rp rfl (p_index (e := I) rfl rfl rfl underlying60 rfl (by decide)) fun v28 => bd 27 [(106, (Pr (I v28))), (107, (I v28)), (108, (I o21.1)), (109, (V.int .u8 (Go.IntKind.wrap .u8 o21.1))), (110, (eSlot ({ fName := v23, fRow := v24, fColumn := v25, fBytes := v26, fIn := v27, fOut := v28, fFill := (Go.IntKind.wrap .u8 o21.1) } : T_api_Slot))), (111, (sSlot (([({ fName := v23, fRow := v24, fColumn := v25, fBytes := v26, fIn := v27, fOut := v28, fFill := (Go.IntKind.wrap .u8 o21.1) } : T_api_Slot)] : List T_api_Slot))))] rfl rfl <| et (reg_eff (x := (app a0.fFields ([({ fName := v23, fRow := v24, fColumn := v25, fBytes := v26, fIn := v27, fOut := v28, fFill := (Go.IntKind.wrap .u8 o21.1) } : T_api_Slot)] : List T_api_Slot))) (w := fun v29 => ((V.sl 1 7 (List.map eSlot v29)), _)) rfl rfl rfl rfl (p_app (e := eSlot) rfl rfl rfl rfl rfl rfl rfl rfl rfl rfl (by decide))) <| bind_self fun v29 => bind_end rfl) fun o30 => kg f29a18 rfl (fun (o31 : Bool) => ⟨[(4, (Bo o31))], [(123, ⟨false, 4, [(V.agg [(I a0.fRows), (I a0.fColumns), (V.sl 1 3 (List.map eMark a0.fMarks)), (V.sl 1 7 (List.map eSlot o30))])]⟩)], 123⟩) ?_ fun o31 => ?_
      ·refine rd 2 [(115, (Bo o22.1)), (116, (Bo o22.1))] rfl rfl <| bifE (fun hc => ?_) fun hc => ?_
       ·rw [hc]
        refine rd 5 [(117, (Bo o22.2.1)), (118, (Bo o22.2.1)), (119, (Bo o22.2.1))] rfl rfl <| bifE (fun hc => ?_) fun hc => ?_
        ·rw [hc]
         exact reg_end rfl
        ·rw [hc]
         exact reg_end rfl
       ·rw [hc]
        exact reg_end rfl
      refine et k_lret <| et blk_ret ?_
      rfl
     ·rw [hc]
      refine et k_skip <| kg f29a18 rfl (fun (o32 : Bool) => ⟨[(4, (Bo o32))], [(123, ⟨false, 4, [(V.agg [(I a0.fRows), (I a0.fColumns), (V.sl 1 3 (List.map eMark a0.fMarks)), (V.sl 1 7 (List.map eSlot a0.fFields))])]⟩)], 123⟩) ?_ fun o32 => ?_
      ·refine rd 2 [(115, (Bo o22.1)), (116, (Bo o22.1))] rfl rfl <| bifE (fun hc => ?_) fun hc => ?_
       ·rw [hc]
        refine rd 5 [(117, (Bo o22.2.1)), (118, (Bo o22.2.1)), (119, (Bo o22.2.1))] rfl rfl <| bifE (fun hc => ?_) fun hc => ?_
        ·rw [hc]
         exact reg_end rfl
        ·rw [hc]
         exact reg_end rfl
       ·rw [hc]
        exact reg_end rfl
      refine et k_lret <| et blk_ret ?_
      rfl
   ·rw [hc]
    refine et k_lskip <| et blk_normal <| kr ⟨[(4, (Bo false))], [(123, ⟨false, 4, [(V.agg [(I a0.fRows), (I a0.fColumns), (V.sl 1 3 (List.map eMark a0.fMarks)), (V.sl 1 7 (List.map eSlot a0.fFields))])]⟩)], 123⟩ rfl <| et k_lret ?_
    rfl
def ref24_Parse_fin : (T_api_Form × Int) → V × List V := fun r => (.tup [(eForm r.1), (I r.2)], [])
theorem ref24_Parse_L1_ok (k : Nat) (a0 : Str) (o2 : (List Str))  (K0 : Int → Int → Int → (List T_api_Mark) → (List T_api_Slot) → Option (T_api_Form × Int)) (Kst : X × St → Option (V × List V)) (hK0 : ∀ (y0 : Int) (y1 : Int) (y2 : Int) (y3 : (List T_api_Mark)) (y4 : (List T_api_Slot)), Kst (X.exit 0, ⟨[(2, (Pt 2)), (4, (sS o2)), (8, (Pt 8)), (9, (I y0)), (60, (Bo false))], [(2, ⟨false, 4, [(V.agg [(I 0), (I 0), (V.sl 2 3 (List.map eMark ([] : List T_api_Mark))), (V.sl 2 7 (List.map eSlot ([] : List T_api_Slot)))])]⟩), (8, ⟨false, 4, [(V.agg [(I y1), (I y2), (V.sl 1 3 (List.map eMark y3)), (V.sl 1 7 (List.map eSlot y4))])]⟩)], 75⟩) = (K0 y0 y1 y2 y3 y4).map ref24_Parse_fin) (hret : ∀ s, Kst (X.ret, s) = endK prog 75 [(Sr a0)] [] [.cell 2 25, .tmp 3] (X.ret, s)) :
  ∀ (m : Nat) (x19 : Int) (x20 : Int) (x21 : Int) (x22 : (List T_api_Mark)) (x23 : (List T_api_Slot)), (iter (exec prog (EV k) f9n k f9b0) m ⟨[(2, (Pt 2)), (4, (sS o2)), (8, (Pt 8)), (9, (I x19))], [(2, ⟨false, 4, [(V.agg [(I 0), (I 0), (V.sl 2 3 (List.map eMark ([] : List T_api_Mark))), (V.sl 2 7 (List.map eSlot ([] : List T_api_Slot)))])]⟩), (8, ⟨false, 4, [(V.agg [(I x20), (I x21), (V.sl 1 3 (List.map eMark x22)), (V.sl 1 7 (List.map eSlot x23))])]⟩)], 75⟩).bind Kst = (ref24_Parse_L1 k o2 K0 m x19 x20 x21 x22 x23).map ref24_Parse_fin := by
 intro m
 induction m with
 | zero => intros; rfl
 | succ m ih =>
  intro x19 x20 x21 x22 x23
  unfold ref24_Parse_L1
  refine et k_round <| et k_assoc <| krp f9a10 rfl ⟨[(2, (Pt 2)), (4, (sS o2)), (8, (Pt 8)), (9, (I x19)), (60, (Bo (decide (x19 < (Go.IntKind.wrap .i64 ((o2.length : Int) - 1))))))], [(2, ⟨false, 4, [(V.agg [(I 0), (I 0), (V.sl 2 3 (List.map eMark ([] : List T_api_Mark))), (V.sl 2 7 (List.map eSlot ([] : List T_api_Slot)))])]⟩), (8, ⟨false, 4, [(V.agg [(I x20), (I x21), (V.sl 1 3 (List.map eMark x22)), (V.sl 1 7 (List.map eSlot x23))])]⟩)], 75⟩ ?_ ?_
  ·exact rd 2 [(56, (I x19)), (57, (sS o2))] rfl rfl <| rl rfl (p_len (e := V.str) rfl rfl rfl rfl rfl rfl underlying39) <| bind_end rfl
  refine kc rfl rfl (fun hc => ?_) fun hc => ?_
  ·rw [hc]
   refine et k_skip <| et (k_block rfl) <| kg f9a12 rfl (fun (o26 : Bool × Int × Int × (List T_api_Mark) × (List T_api_Slot)) => ⟨[(2, (Pt 2)), (4, (sS o2)), (8, (Pt 8)), (9, (I x19)), (68, (Bo o26.1))], [(2, ⟨false, 4, [(V.agg [(I 0), (I 0), (V.sl 2 3 (List.map eMark ([] : List T_api_Mark))), (V.sl 2 7 (List.map eSlot ([] : List T_api_Slot)))])]⟩), (8, ⟨false, 4, [(V.agg [(I o26.2.1), (I o26.2.2.1), (V.sl 1 3 (List.map eMark o26.2.2.2.1)), (V.sl 1 7 (List.map eSlot o26.2.2.2.2))])]⟩)], 75⟩) (rd 2 [(63, (sS o2)), (64, (I x19))] rfl rfl <| rp rfl (p_index (e := V.str) rfl rfl rfl underlying39 rfl (by decide)) fun v24 => bd 4 [(65, (Pr (Sr v24))), (66, (Sr v24))] rfl rfl <| et (reg_eff (x := (ref24_line k ({ fRows := x20, fColumns := x21, fMarks := x22, fFields := x23 } : T_api_Form) v24)) (w := fun (v25 : (Bool × T_api_Form)) => ((Bo v25.1), _)) rfl rfl rfl rfl (p_callIO (fr := fun (v25 : (Bool × T_api_Form)) => (Bo v25.1)) (fe := fun (v25 : (Bool × T_api_Form)) => (V.agg [(I v25.2.fRows), (I v25.2.fColumns), (V.sl 1 3 (List.map eMark v25.2.fMarks)), (V.sl 1 7 (List.map eSlot v25.2.fFields))])) (fe' := fun (v25 : (Bool × T_api_Form)) => (V.agg [(I v25.2.fRows), (I v25.2.fColumns), (V.sl 1 3 (List.map eMark v25.2.fMarks)), (V.sl 1 7 (List.map eSlot v25.2.fFields))])) rfl rfl rfl rfl rfl rfl rfl (ref24_line_ok k ({ fRows := x20, fColumns := x21, fMarks := x22, fFields := x23 } : T_api_Form) v24) (fun _ => rfl))) <| bindE fun v25 => bind_end rfl) fun o26 => kcl rfl rfl (fun hc => ?_) fun hc => ?_
   ·rw [hc]
    refine kr ⟨[(2, (Pt 2)), (3, (I 3))], [(2, ⟨false, 4, [(eForm ({ fRows := 0, fColumns := 0, fMarks := ([] : List T_api_Mark), fFields := ([] : List T_api_Slot) } : T_api_Form))]⟩)], 75⟩ rfl <| et k_lret <| et blk_ret <| et loop_ret <| et (hret _) ?_
    rfl
   ·rw [hc]
    exact et k_lskip <| et blk_normal <| kl ⟨[(2, (Pt 2)), (4, (sS o2)), (8, (Pt 8)), (9, (I (Go.IntKind.wrap .i64 (x19 + 1))))], [(2, ⟨false, 4, [(V.agg [(I 0), (I 0), (V.sl 2 3 (List.map eMark ([] : List T_api_Mark))), (V.sl 2 7 (List.map eSlot ([] : List T_api_Slot)))])]⟩), (8, ⟨false, 4, [(V.agg [(I o26.2.1), (I o26.2.2.1), (V.sl 1 3 (List.map eMark o26.2.2.2.1)), (V.sl 1 7 (List.map eSlot o26.2.2.2.2))])]⟩)], 75⟩ rfl <| et loop_normal <| ih (Go.IntKind.wrap .i64 (x19 + 1)) o26.2.1 o26.2.2.1 o26.2.2.2.1 o26.2.2.2.2
  ·rw [hc]
   exact et k_exit <| et loop_exit <| hK0 x19 x20 x21 x22 x23
theorem ref24_Parse_ok (k : Nat) (a0 : Str) : EV k 9 [(Sr a0)] = (ref24_Parse k a0).map ref24_Parse_fin := by
 cases k with
 | zero => rfl
 | succ k =>
  unfold ref24_Parse
  refine et (evF_succ (c := f9c) (N := 75) (regs := f9n) rfl func9 rfl (by decide) rfl rfl rfl) <| kr ⟨[(0, (Sr a0)), (2, (Pt 2))], [(2, ⟨false, 4, [(V.agg [(I 0), (I 0), (V.sl 2 3 (List.map eMark ([] : List T_api_Mark))), (V.sl 2 7 (List.map eSlot ([] : List T_api_Slot)))])]⟩)], 75⟩ rfl <| kg f9a1 rfl (fun (o2 : (List Str)) => ⟨[(2, (Pt 2)), (4, (sS o2))], [(2, ⟨false, 4, [(V.agg [(I 0), (I 0), (V.sl 2 3 (List.map eMark ([] : List T_api_Mark))), (V.sl 2 7 (List.map eSlot ([] : List T_api_Slot)))])]⟩)], 75⟩) (rd 1 [(10, (Sr a0))] rfl rfl <| rs rfl (p_call rfl rfl rfl rfl rfl (ref24_Split_ok k a0 10 100) (.inl rfl)) fun v1 => bind_end rfl) fun o2 => et k_assoc <| kga f9a2 rfl (fun (o4 : Bool) => [(23, (Bo o4))]) ?_ fun o4 => ?_
  ·refine rd 1 [(12, (sS o2))] rfl rfl <| rl rfl (p_len (e := V.str) rfl rfl rfl rfl rfl rfl underlying39) <| bd 4 [(13, (I (o2.length : Int))), (14, (Bo (decide ((o2.length : Int) < 2)))), (15, (Bo (decide ((o2.length : Int) < 2))))] rfl rfl <| bifE (fun hc => ?_) fun hc => ?_
   ·rw [hc]
    exact reg_end rfl
   ·rw [hc]
    exact rd 6 [(16, (sS o2)), (17, (sS o2))] rfl rfl <| rl rfl (p_len (e := V.str) rfl rfl rfl rfl rfl rfl underlying39) <| bd 8 [(18, (I (o2.length : Int))), (19, (I (Go.IntKind.wrap .i64 ((o2.length : Int) - 1))))] rfl rfl <| rp rfl (p_index (e := V.str) rfl rfl rfl underlying39 rfl (by decide)) fun v3 => bind_end rfl
  refine kc rfl rfl (fun hc => ?_) fun hc => ?_
  ·rw [hc]
   refine et k_assoc <| kr ⟨[(2, (Pt 2)), (3, (I 3))], [(2, ⟨false, 4, [(eForm ({ fRows := 0, fColumns := 0, fMarks := ([] : List T_api_Mark), fFields := ([] : List T_api_Slot) } : T_api_Form))]⟩)], 75⟩ rfl <| et k_ret ?_
   rfl
  ·rw [hc]
   refine et k_skip <| kg f9a4 rfl (fun (o7 : (List Str)) => ⟨[(2, (Pt 2)), (4, (sS o2)), (5, (sS o7))], [(2, ⟨false, 4, [(V.agg [(I 0), (I 0), (V.sl 2 3 (List.map eMark ([] : List T_api_Mark))), (V.sl 2 7 (List.map eSlot ([] : List T_api_Slot)))])]⟩)], 75⟩) (rd 1 [(25, (sS o2))] rfl rfl <| rp rfl (p_index (e := V.str) rfl rfl rfl underlying39 rfl (by decide)) fun v5 => bd 3 [(26, (Pr (Sr v5))), (27, (Sr v5))] rfl rfl <| rs rfl (p_call rfl rfl rfl rfl rfl (ref24_Split_ok k v5 32 1000) (.inl rfl)) fun v6 => bind_end rfl) fun o7 => kga f9a5 rfl (fun (o10 : (List Int) × Bool) => [(6, (sI o10.1)), (7, (Bo o10.2))]) (rd 1 [(30, (sS o7))] rfl rfl <| rp rfl (p_slice (e := V.str) rfl rfl rfl rfl rfl (by simp [bound]) underlying39 rfl (by decide)) fun v8 => bd 2 [(31, (sS v8))] rfl rfl <| rp rfl (p_call rfl rfl rfl rfl rfl (ref24_numbers_ok k v8 9) (.inl rfl)) fun v9 => bind_end rfl) fun o10 => et k_assoc <| kg f9a6 rfl (fun (o12 : Bool) => ⟨[(2, (Pt 2)), (4, (sS o2)), (6, (sI o10.1)), (47, (Bo o12))], [(2, ⟨false, 4, [(V.agg [(I 0), (I 0), (V.sl 2 3 (List.map eMark ([] : List T_api_Mark))), (V.sl 2 7 (List.map eSlot ([] : List T_api_Slot)))])]⟩)], 75⟩) ?_ fun o12 => ?_
   ·refine rd 3 [(35, (Bo o10.2)), (36, (Bo (!o10.2))), (37, (Bo (!o10.2)))] rfl rfl <| bifE (fun hc => ?_) fun hc => ?_
    ·rw [hc]
     exact reg_end rfl
    ·rw [hc]
     refine rd 4 [(38, (sI o10.1))] rfl rfl <| rl rfl (p_len (e := I) rfl rfl rfl rfl rfl rfl underlying60) <| bd 8 [(39, (I (o10.1.length : Int))), (40, (Bo ((o10.1.length : Int) != 2))), (41, (Bo ((o10.1.length : Int) != 2))), (42, (Bo ((o10.1.length : Int) != 2)))] rfl rfl <| bifE (fun hc => ?_) fun hc => ?_
     ·rw [hc]
      exact reg_end rfl
     ·rw [hc]
      exact rd 9 [(43, (sS o7))] rfl rfl <| rp rfl (p_index (e := V.str) rfl rfl rfl underlying39 rfl (by decide)) fun v11 => bind_end rfl
   refine kc rfl rfl (fun hc => ?_) fun hc => ?_
   ·rw [hc]
    refine et k_assoc <| kr ⟨[(2, (Pt 2)), (3, (I 3))], [(2, ⟨false, 4, [(eForm ({ fRows := 0, fColumns := 0, fMarks := ([] : List T_api_Mark), fFields := ([] : List T_api_Slot) } : T_api_Form))]⟩)], 75⟩ rfl <| et k_ret ?_
    rfl
   ·rw [hc]
    refine et k_skip <| kd f9a8 rfl (fun (o15 : Int × Int) => ⟨[(2, (Pt 2)), (4, (sS o2)), (8, (Pt 8))], [(2, ⟨false, 4, [(V.agg [(I 0), (I 0), (V.sl 2 3 (List.map eMark ([] : List T_api_Mark))), (V.sl 2 7 (List.map eSlot ([] : List T_api_Slot)))])]⟩), (8, ⟨false, 4, [(V.agg [(I o15.1), (I o15.2), (V.sl 1 3 (List.map eMark ([] : List T_api_Mark))), (V.sl 1 7 (List.map eSlot ([] : List T_api_Slot)))])]⟩)], 75⟩) (et (regionE_regp (p := 8) (dk := true) (t := [(2, (Pt 2)), (4, (sS o2)), (6, (sI o10.1)), (47, (Bo false))]) (σ := [(2, ⟨false, 4, [(V.agg [(I 0), (I 0), (V.sl 2 3 (List.map eMark ([] : List T_api_Mark))), (V.sl 2 7 (List.map eSlot ([] : List T_api_Slot)))])]⟩)]) (n := 75) rfl (by decide) (by decide) rfl) <| et (regp_adv (m := 1) (j := 1) (t' := [(2, (Pt 2)), (4, (sS o2)), (6, (sI o10.1)), (47, (Bo false)), (49, (sI o10.1))]) rfl rfl rfl) <| et (regp_pure (x := (idx o10.1 0)) (w := fun v13 => (Pr (I v13))) rfl rfl rfl rfl rfl (p_index (e := I) rfl rfl rfl underlying60 rfl (by decide))) <| bindE fun v13 => et (putp_adv (m := 2) (j := 4) (t' := [(2, (Pt 2)), (4, (sS o2)), (6, (sI o10.1)), (47, (Bo false)), (49, (sI o10.1)), (50, (Pr (I v13))), (51, (I v13)), (52, (sI o10.1))]) rfl rfl rfl) <| et (regp_pure (x := (idx o10.1 1)) (w := fun v14 => (Pr (I v14))) rfl rfl rfl rfl rfl (p_index (e := I) rfl rfl rfl underlying60 rfl (by decide))) <| bindE fun v14 => regp_end rfl) fun o15 => et k_assoc <| kra [(9, (I 1))] rfl <| et (k_block rfl) <| et k_loop ?_
    refine ref24_Parse_L1_ok k a0 o2 _ _ ?h_ref24_Parse_L1_0 ?hr_ref24_Parse_L1 k 1 o15.1 o15.2 ([] : List T_api_Mark) ([] : List T_api_Slot)
    ·intro y27 y28 y29 y30 y31
     refine et blk_exit <| et k_assoc <| kg f9a14 rfl (fun (o33 : Bool) => ⟨[(2, (Pt 2)), (8, (Pt 8)), (72, (Bo o33))], [(2, ⟨false, 4, [(V.agg [(I 0), (I 0), (V.sl 2 3 (List.map eMark ([] : List T_api_Mark))), (V.sl 2 7 (List.map eSlot ([] : List T_api_Slot)))])]⟩), (8, ⟨false, 4, [(V.agg [(I y28), (I y29), (V.sl 1 3 (List.map eMark y30)), (V.sl 1 7 (List.map eSlot y31))])]⟩)], 75⟩) (rd 1 [(70, (eForm ({ fRows := y28, fColumns := y29, fMarks := y30, fFields := y31 } : T_api_Form)))] rfl rfl <| rp rfl (p_call rfl rfl rfl rfl rfl (ref24_Valid_ok k ({ fRows := y28, fColumns := y29, fMarks := y30, fFields := y31 } : T_api_Form)) (.inl rfl)) fun v32 => bind_end rfl) fun o33 => kc rfl rfl (fun hc => ?_) fun hc => ?_
     ·rw [hc]
      refine et k_assoc <| kr ⟨[(2, (Pt 2)), (3, (I 3))], [(2, ⟨false, 4, [(eForm ({ fRows := 0, fColumns := 0, fMarks := ([] : List T_api_Mark), fFields := ([] : List T_api_Slot) } : T_api_Form))]⟩)], 75⟩ rfl <| et k_ret ?_
      rfl
     ·rw [hc]
      refine et k_skip <| kr ⟨[(2, (Pt 2)), (3, (I 0))], [(2, ⟨false, 4, [(eForm ({ fRows := y28, fColumns := y29, fMarks := y30, fFields := y31 } : T_api_Form))]⟩)], 75⟩ rfl <| et k_lret ?_
      rfl
    ·intro s; exact rfl
def ref24_Same_fin : Bool → V × List V := fun r => ((Bo r), [])
theorem ref24_Same_L1_ok (k : Nat) (a0 : T_api_Form) (a1 : T_api_Form)  (K0 : Int → Option Bool) (Kst : X × St → Option (V × List V)) (hK0 : ∀ (y0 : Int), Kst (X.exit 0, ⟨[(2, (Pt 2)), (3, (Pt 3)), (5, (I y0)), (41, (Bo false))], [(2, vS 4 (eForm a0)), (3, vS 4 (eForm a1))], 73⟩) = (K0 y0).map ref24_Same_fin) (hret : ∀ s, Kst (X.ret, s) = endK prog 73 [(eForm a0), (eForm a1)] [] [.tmp 4] (X.ret, s)) :
  ∀ (m : Nat) (x5 : Int), (iter (exec prog (EV k) f10n k f10b0) m ⟨[(2, (Pt 2)), (3, (Pt 3)), (5, (I x5))], [(2, vS 4 (eForm a0)), (3, vS 4 (eForm a1))], 73⟩).bind Kst = (ref24_Same_L1 a0 a1 K0 m x5).map ref24_Same_fin := by
 intro m
 induction m with
 | zero => intros; rfl
 | succ m ih =>
  intro x5
  unfold ref24_Same_L1
  refine et k_round <| et k_assoc <| krp f10a4 rfl ⟨[(2, (Pt 2)), (3, (Pt 3)), (5, (I x5)), (41, (Bo (decide (x5 < (a0.fMarks.length : Int)))))], [(2, vS 4 (eForm a0)), (3, vS 4 (eForm a1))], 73⟩ ?_ ?_
  ·exact rd 3 [(37, (I x5)), (38, (V.ptr 2 0 2)), (39, (sMark a0.fMarks))] rfl rfl <| rl rfl (p_len (e := eMark) rfl rfl rfl rfl rfl rfl underlying22) <| bind_end rfl
  refine kc rfl rfl (fun hc => ?_) fun hc => ?_
  ·rw [hc]
   refine et k_skip <| et (k_block rfl) <| kd f10a6 rfl (fun (o8 : Bool) => ⟨[(2, (Pt 2)), (3, (Pt 3)), (5, (I x5)), (54, (Bo o8))], [(2, vS 4 (eForm a0)), (3, vS 4 (eForm a1))], 73⟩) (et (regionE_regp (p := 11) (dk := true) (t := [(2, (Pt 2)), (3, (Pt 3)), (5, (I x5)), (41, (Bo true))]) (σ := [(2, vS 4 (eForm a0)), (3, vS 4 (eForm a1))]) (n := 73) rfl (by decide) (by decide) rfl) <| et (regp_adv (m := 3) (j := 3) (t' := [(2, (Pt 2)), (3, (Pt 3)), (5, (I x5)), (41, (Bo true)), (44, (V.ptr 2 0 2)), (45, (sMark a0.fMarks)), (46, (I x5))]) rfl rfl rfl) <| et (regp_pure (x := (idx a0.fMarks x5)) (w := fun v6 => (Pr (eMark v6))) rfl rfl rfl rfl rfl (p_index (e := eMark) rfl rfl rfl underlying22 rfl (by decide))) <| bindE fun v6 => et (putp_adv (m := 4) (j := 8) (t' := [(2, (Pt 2)), (3, (Pt 3)), (5, (I x5)), (41, (Bo true)), (44, (V.ptr 2 0 2)), (45, (sMark a0.fMarks)), (46, (I x5)), (47, (Pr (eMark v6))), (48, (eMark v6)), (49, (V.ptr 3 0 2)), (50, (sMark a1.fMarks)), (51, (I x5))]) rfl rfl rfl) <| et (regp_pure (x := (idx a1.fMarks x5)) (w := fun v7 => (Pr (eMark v7))) rfl rfl rfl rfl rfl (p_index (e := eMark) rfl rfl rfl underlying22 rfl (by decide))) <| bindE fun v7 => et (putp_adv (m := 1) (j := 10) (t' := [(2, (Pt 2)), (3, (Pt 3)), (5, (I x5)), (41, (Bo true)), (44, (V.ptr 2 0 2)), (45, (sMark a0.fMarks)), (46, (I x5)), (47, (Pr (eMark v6))), (48, (eMark v6)), (49, (V.ptr 3 0 2)), (50, (sMark a1.fMarks)), (51, (I x5)), (52, (Pr (eMark v7))), (53, (eMark v7))]) rfl rfl rfl) <| et (regp_pure (x := some ()) (w := fun _ => (Bo (!(v6.fRow == v7.fRow && (v6.fColumn == v7.fColumn && (v6.fText == v7.fText && true)))))) rfl rfl rfl rfl rfl (p_neS rfl rfl rfl underlying36 sih36 eqg36 rfl)) <| et some_bind <| regp_end rfl) fun o8 => kcl rfl rfl (fun hc => ?_) fun hc => ?_
   ·rw [hc]
    refine kr ⟨[(4, (Bo false))], [], 73⟩ rfl <| et k_lret <| et blk_ret <| et loop_ret <| et (hret _) ?_
    rfl
   ·rw [hc]
    exact et k_lskip <| et blk_normal <| kl ⟨[(2, (Pt 2)), (3, (Pt 3)), (5, (I (Go.IntKind.wrap .i64 (x5 + 1))))], [(2, vS 4 (eForm a0)), (3, vS 4 (eForm a1))], 73⟩ rfl <| et loop_normal <| ih (Go.IntKind.wrap .i64 (x5 + 1))
  ·rw [hc]
   exact et k_exit <| et loop_exit <| hK0 x5
theorem ref24_Same_L2_ok (k : Nat) (a0 : T_api_Form) (a1 : T_api_Form)  (K0 : Int → Option Bool) (Kst : X × St → Option (V × List V)) (hK0 : ∀ (y0 : Int), Kst (X.exit 2, ⟨[(2, (Pt 2)), (3, (Pt 3)), (6, (I y0)), (59, (Bo false))], [(2, vS 4 (eForm a0)), (3, vS 4 (eForm a1))], 73⟩) = (K0 y0).map ref24_Same_fin) (hret : ∀ s, Kst (X.ret, s) = endK prog 73 [(eForm a0), (eForm a1)] [] [.tmp 4] (X.ret, s)) :
  ∀ (m : Nat) (x13 : Int), (iter (exec prog (EV k) f10n k f10b1) m ⟨[(2, (Pt 2)), (3, (Pt 3)), (6, (I x13))], [(2, vS 4 (eForm a0)), (3, vS 4 (eForm a1))], 73⟩).bind Kst = (ref24_Same_L2 a0 a1 K0 m x13).map ref24_Same_fin := by
 intro m
 induction m with
 | zero => intros; rfl
 | succ m ih =>
  intro x13
  unfold ref24_Same_L2
  refine et k_round <| et k_assoc <| krp f10a9 rfl ⟨[(2, (Pt 2)), (3, (Pt 3)), (6, (I x13)), (59, (Bo (decide (x13 < (a0.fFields.length : Int)))))], [(2, vS 4 (eForm a0)), (3, vS 4 (eForm a1))], 73⟩ ?_ ?_
  ·exact rd 3 [(55, (I x13)), (56, (V.ptr 2 0 3)), (57, (sSlot a0.fFields))] rfl rfl <| rl rfl (p_len (e := eSlot) rfl rfl rfl rfl rfl rfl underlying23) <| bind_end rfl
  refine kc rfl rfl (fun hc => ?_) fun hc => ?_
  ·rw [hc]
   refine et k_skip <| et (k_block rfl) <| kd f10a11 rfl (fun (o16 : Bool) => ⟨[(2, (Pt 2)), (3, (Pt 3)), (6, (I x13)), (72, (Bo o16))], [(2, vS 4 (eForm a0)), (3, vS 4 (eForm a1))], 73⟩) (et (regionE_regp (p := 11) (dk := true) (t := [(2, (Pt 2)), (3, (Pt 3)), (6, (I x13)), (59, (Bo true))]) (σ := [(2, vS 4 (eForm a0)), (3, vS 4 (eForm a1))]) (n := 73) rfl (by decide) (by decide) rfl) <| et (regp_adv (m := 3) (j := 3) (t' := [(2, (Pt 2)), (3, (Pt 3)), (6, (I x13)), (59, (Bo true)), (62, (V.ptr 2 0 3)), (63, (sSlot a0.fFields)), (64, (I x13))]) rfl rfl rfl) <| et (regp_pure (x := (idx a0.fFields x13)) (w := fun v14 => (Pr (eSlot v14))) rfl rfl rfl rfl rfl (p_index (e := eSlot) rfl rfl rfl underlying23 rfl (by decide))) <| bindE fun v14 => et (putp_adv (m := 4) (j := 8) (t' := [(2, (Pt 2)), (3, (Pt 3)), (6, (I x13)), (59, (Bo true)), (62, (V.ptr 2 0 3)), (63, (sSlot a0.fFields)), (64, (I x13)), (65, (Pr (eSlot v14))), (66, (eSlot v14)), (67, (V.ptr 3 0 3)), (68, (sSlot a1.fFields)), (69, (I x13))]) rfl rfl rfl) <| et (regp_pure (x := (idx a1.fFields x13)) (w := fun v15 => (Pr (eSlot v15))) rfl rfl rfl rfl rfl (p_index (e := eSlot) rfl rfl rfl underlying23 rfl (by decide))) <| bindE fun v15 => et (putp_adv (m := 1) (j := 10) (t' := [(2, (Pt 2)), (3, (Pt 3)), (6, (I x13)), (59, (Bo true)), (62, (V.ptr 2 0 3)), (63, (sSlot a0.fFields)), (64, (I x13)), (65, (Pr (eSlot v14))), (66, (eSlot v14)), (67, (V.ptr 3 0 3)), (68, (sSlot a1.fFields)), (69, (I x13)), (70, (Pr (eSlot v15))), (71, (eSlot v15))]) rfl rfl rfl) <| et (regp_pure (x := some ()) (w := fun _ => (Bo (!(v14.fName == v15.fName && (v14.fRow == v15.fRow && (v14.fColumn == v15.fColumn && (v14.fBytes == v15.fBytes && (v14.fIn == v15.fIn && (v14.fOut == v15.fOut && (v14.fFill == v15.fFill && true)))))))))) rfl rfl rfl rfl rfl (p_neS rfl rfl rfl underlying38 sih38 eqg38 rfl)) <| et some_bind <| regp_end rfl) fun o16 => kcl rfl rfl (fun hc => ?_) fun hc => ?_
   ·rw [hc]
    refine kr ⟨[(4, (Bo false))], [], 73⟩ rfl <| et k_lret <| et blk_ret <| et loop_ret <| et (hret _) ?_
    rfl
   ·rw [hc]
    exact et k_lskip <| et blk_normal <| kl ⟨[(2, (Pt 2)), (3, (Pt 3)), (6, (I (Go.IntKind.wrap .i64 (x13 + 1))))], [(2, vS 4 (eForm a0)), (3, vS 4 (eForm a1))], 73⟩ rfl <| et loop_normal <| ih (Go.IntKind.wrap .i64 (x13 + 1))
  ·rw [hc]
   exact et k_exit <| et loop_exit <| hK0 x13
theorem ref24_Same_ok (k : Nat) (a0 : T_api_Form) (a1 : T_api_Form) : EV k 10 [(eForm a0), (eForm a1)] = (ref24_Same k a0 a1).map ref24_Same_fin := by
 cases k with
 | zero => rfl
 | succ k =>
  unfold ref24_Same
  refine et (evF_succ (c := f10c) (N := 73) (regs := f10n) rfl func10 rfl (by decide) rfl rfl rfl) <| kr ⟨[(2, (Pt 2)), (3, (Pt 3))], [(2, vS 4 (eForm a0)), (3, vS 4 (eForm a1))], 73⟩ rfl <| et k_assoc <| kga f10a1 rfl (fun (o1 : Bool) => [(36, (Bo o1))]) ?_ fun o1 => ?_
  ·refine rd 6 [(7, (Pt 2)), (8, (I a0.fRows)), (9, (Pt 3)), (10, (I a1.fRows)), (11, (Bo (a0.fRows != a1.fRows))), (12, (Bo (a0.fRows != a1.fRows)))] rfl rfl <| bifE (fun hc => ?_) fun hc => ?_
   ·rw [hc]
    exact reg_end rfl
   ·rw [hc]
    refine rd 13 [(13, (V.ptr 2 0 1)), (14, (I a0.fColumns)), (15, (V.ptr 3 0 1)), (16, (I a1.fColumns)), (17, (Bo (a0.fColumns != a1.fColumns))), (18, (Bo (a0.fColumns != a1.fColumns))), (19, (Bo (a0.fColumns != a1.fColumns)))] rfl rfl <| bifE (fun hc => ?_) fun hc => ?_
    ·rw [hc]
     exact reg_end rfl
    ·rw [hc]
     refine rd 15 [(20, (V.ptr 2 0 2)), (21, (sMark a0.fMarks))] rfl rfl <| rl rfl (p_len (e := eMark) rfl rfl rfl rfl rfl rfl underlying22) <| bd 18 [(22, (I (a0.fMarks.length : Int))), (23, (V.ptr 3 0 2)), (24, (sMark a1.fMarks))] rfl rfl <| rl rfl (p_len (e := eMark) rfl rfl rfl rfl rfl rfl underlying22) <| bd 22 [(25, (I (a1.fMarks.length : Int))), (26, (Bo ((a0.fMarks.length : Int) != (a1.fMarks.length : Int)))), (27, (Bo ((a0.fMarks.length : Int) != (a1.fMarks.length : Int)))), (28, (Bo ((a0.fMarks.length : Int) != (a1.fMarks.length : Int))))] rfl rfl <| bifE (fun hc => ?_) fun hc => ?_
     ·rw [hc]
      exact reg_end rfl
     ·rw [hc]
      exact rd 24 [(29, (V.ptr 2 0 3)), (30, (sSlot a0.fFields))] rfl rfl <| rl rfl (p_len (e := eSlot) rfl rfl rfl rfl rfl rfl underlying23) <| bd 27 [(31, (I (a0.fFields.length : Int))), (32, (V.ptr 3 0 3)), (33, (sSlot a1.fFields))] rfl rfl <| rl rfl (p_len (e := eSlot) rfl rfl rfl rfl rfl rfl underlying23) <| bind_end rfl
  refine kc rfl rfl (fun hc => ?_) fun hc => ?_
  ·rw [hc]
   refine et k_assoc <| kr ⟨[(4, (Bo false))], [], 73⟩ rfl <| et k_ret ?_
   rfl
  ·rw [hc]
   refine et k_skip <| et k_assoc <| kr ⟨[(2, (Pt 2)), (3, (Pt 3)), (5, (I 0))], [(2, vS 4 (eForm a0)), (3, vS 4 (eForm a1))], 73⟩ rfl <| et (k_block rfl) <| et k_loop ?_
   refine ref24_Same_L1_ok k a0 a1 _ _ ?h_ref24_Same_L1_0 ?hr_ref24_Same_L1 k 0
   ·intro y9
    refine et blk_exit <| et k_assoc <| kr ⟨[(2, (Pt 2)), (3, (Pt 3)), (6, (I 0))], [(2, vS 4 (eForm a0)), (3, vS 4 (eForm a1))], 73⟩ rfl <| et (k_block rfl) <| et k_loop ?_
    refine ref24_Same_L2_ok k a0 a1 _ _ ?h_ref24_Same_L2_0 ?hr_ref24_Same_L2 k 0
    ·intro y17
     refine et blk_exit <| kr ⟨[(4, (Bo true))], [], 73⟩ rfl <| et k_lret ?_
     rfl
    ·intro s; exact rfl
   ·intro s; exact rfl
def law24_ScreenTexts_fin : Bool → V × List V := fun r => ((Bo r), [])
theorem law24_ScreenTexts_ok (k : Nat) (a0 : T_api_Form) (a1 : Str) : EV k 3 [(eForm a0), (Sr a1)] = (law24_ScreenTexts k a0 a1).map law24_ScreenTexts_fin := by
 cases k with
 | zero => rfl
 | succ k =>
  unfold law24_ScreenTexts
  refine et (evF_succ (c := f3c) (N := 94) (regs := f3n) rfl func3 rfl (by decide) rfl rfl rfl) <| kr ⟨[(1, (Sr a1)), (2, (Pt 2))], [(2, vS 4 (eForm a0))], 94⟩ rfl <| et k_assoc <| kga f3a1 rfl (fun (o2 : Bool) => [(23, (Bo o2))]) ?_ fun o2 => ?_
  ·refine rd 1 [(17, (eForm a0))] rfl rfl <| rp rfl (p_call rfl rfl rfl rfl rfl (law24_Large_ok k a0) (.inl rfl)) fun v1 => bd 3 [(18, (Bo v1)), (19, (Bo v1))] rfl rfl <| bifE (fun hc => ?_) fun hc => ?_
   ·rw [hc]
    exact reg_end rfl
   ·rw [hc]
    exact reg_end rfl
  refine kc rfl rfl (fun hc => ?_) fun hc => ?_
  ·rw [hc]
   refine et k_assoc <| kg f3a2 rfl (fun (o4 : Bool) => ⟨[(4, (Bo o4))], [], 94⟩) (rs rfl (p_call rfl rfl rfl rfl rfl (law24_Awake_ok k) (.inl rfl)) fun v3 => bind_end rfl) fun o4 => et k_ret ?_
   rfl
  ·rw [hc]
   refine et k_skip <| kg f3a3 rfl (fun (o6 : Str × Int) => ⟨[(1, (Sr a1)), (2, (Pt 2)), (5, (Sr o6.1)), (6, (I o6.2))], [(2, vS 4 (eForm a0))], 94⟩) (rd 1 [(26, (eForm a0))] rfl rfl <| rp rfl (p_call rfl rfl rfl rfl rfl (screen_Format_ok k a0) (.inl rfl)) fun v5 => bind_end rfl) fun o6 => kga f3a4 rfl (fun (o8 : Str × Int) => [(7, (Sr o8.1)), (8, (I o8.2))]) (rd 1 [(31, (eForm a0))] rfl rfl <| rp rfl (p_call rfl rfl rfl rfl rfl (ref24_Format_ok k a0) (.inl rfl)) fun v7 => bind_end rfl) fun o8 => kg f3a5 rfl (fun (o10 : Int × T_api_Form) => ⟨[(1, (Sr a1)), (2, (Pt 2)), (5, (Sr o6.1)), (6, (I o6.2)), (7, (Sr o8.1)), (8, (I o8.2)), (9, (Pt 9)), (10, (I o10.1))], [(2, vS 4 (eForm a0)), (9, vS 4 (eForm o10.2))], 94⟩) (rd 1 [(36, (Sr a1))] rfl rfl <| rp rfl (p_call rfl rfl rfl rfl rfl (screen_Parse_ok k a1) (.inl rfl)) fun v9 => bind_end rfl) fun o10 => kg f3a6 rfl (fun (o12 : Int × T_api_Form) => ⟨[(1, (Sr a1)), (2, (Pt 2)), (5, (Sr o6.1)), (6, (I o6.2)), (7, (Sr o8.1)), (8, (I o8.2)), (9, (Pt 9)), (10, (I o10.1)), (11, (Pt 11)), (12, (I o12.1))], [(2, vS 4 (eForm a0)), (9, vS 4 (eForm o10.2)), (11, vS 4 (eForm o12.2))], 94⟩) (rd 1 [(41, (Sr a1))] rfl rfl <| rp rfl (p_call rfl rfl rfl rfl rfl (ref24_Parse_ok k a1) (.inl rfl)) fun v11 => bind_end rfl) fun o12 => et k_assoc <| kg f3a7 rfl (fun (o14 : Bool) => ⟨[(1, (Sr a1)), (2, (Pt 2)), (5, (Sr o6.1)), (6, (I o6.2)), (9, (Pt 9)), (10, (I o10.1)), (63, (Bo o14))], [(2, vS 4 (eForm a0)), (9, vS 4 (eForm o10.2))], 94⟩) ?_ fun o14 => ?_
   ·refine rd 4 [(45, (Sr o6.1)), (46, (Sr o8.1)), (47, (Bo (!(o6.1 == o8.1)))), (48, (Bo (!(o6.1 == o8.1))))] rfl rfl <| bifE (fun hc => ?_) fun hc => ?_
    ·rw [hc]
     exact reg_end rfl
    ·rw [hc]
     refine rd 9 [(49, (I o6.2)), (50, (I o8.2)), (51, (Bo (o6.2 != o8.2))), (52, (Bo (o6.2 != o8.2))), (53, (Bo (o6.2 != o8.2)))] rfl rfl <| bifE (fun hc => ?_) fun hc => ?_
     ·rw [hc]
      exact reg_end rfl
     ·rw [hc]
      refine rd 11 [(54, (eForm o10.2)), (55, (eForm o12.2))] rfl rfl <| rp rfl (p_call rfl rfl rfl rfl rfl (ref24_Same_ok k o10.2 o12.2) (.inl rfl)) fun v13 => bd 15 [(56, (Bo v13)), (57, (Bo (!v13))), (58, (Bo (!v13))), (59, (Bo (!v13)))] rfl rfl <| bifE (fun hc => ?_) fun hc => ?_
      ·rw [hc]
       exact reg_end rfl
      ·rw [hc]
       exact reg_end rfl
   refine kc rfl rfl (fun hc => ?_) fun hc => ?_
   ·rw [hc]
    refine et k_assoc <| kr ⟨[(4, (Bo false))], [], 94⟩ rfl <| et k_ret ?_
    rfl
   ·rw [hc]
    refine et k_skip <| et k_assoc <| kr ⟨[(1, (Sr a1)), (2, (Pt 2)), (5, (Sr o6.1)), (9, (Pt 9)), (10, (I o10.1)), (65, (Bo (o6.2 == 0)))], [(2, vS 4 (eForm a0)), (9, vS 4 (eForm o10.2))], 94⟩ rfl <| kc rfl rfl (fun hc => ?_) fun hc => ?_
    ·rw [hc]
     refine et k_assoc <| kg f3a10 rfl (fun (o16 : Int × T_api_Form) => ⟨[(1, (Sr a1)), (2, (Pt 2)), (9, (Pt 9)), (10, (I o10.1)), (13, (Pt 13)), (14, (I o16.1))], [(2, vS 4 (eForm a0)), (9, vS 4 (eForm o10.2)), (13, vS 4 (eForm o16.2))], 94⟩) (rd 1 [(67, (Sr o6.1))] rfl rfl <| rp rfl (p_call rfl rfl rfl rfl rfl (screen_Parse_ok k o6.1) (.inl rfl)) fun v15 => bind_end rfl) fun o16 => et k_assoc <| kg f3a11 rfl (fun (o18 : Bool) => ⟨[(1, (Sr a1)), (9, (Pt 9)), (10, (I o10.1)), (78, (Bo o18))], [(9, vS 4 (eForm o10.2))], 94⟩) ?_ fun o18 => ?_
     ·refine rd 3 [(71, (I o16.1)), (72, (Bo (o16.1 != 0))), (73, (Bo (o16.1 != 0)))] rfl rfl <| bifE (fun hc => ?_) fun hc => ?_
      ·rw [hc]
       exact reg_end rfl
      ·rw [hc]
       exact rd 5 [(74, (eForm o16.2)), (75, (eForm a0))] rfl rfl <| rp rfl (p_call rfl rfl rfl rfl rfl (ref24_Same_ok k o16.2 a0) (.inl rfl)) fun v17 => bind_end rfl
     refine kc rfl rfl (fun hc => ?_) fun hc => ?_
     ·rw [hc]
      refine et k_assoc <| kr ⟨[(4, (Bo false))], [], 94⟩ rfl <| et k_ret ?_
      rfl
     ·rw [hc]
      refine et k_skip <| et k_assoc <| kr ⟨[(1, (Sr a1)), (9, (Pt 9)), (80, (Bo (o10.1 == 0)))], [(9, vS 4 (eForm o10.2))], 94⟩ rfl <| kc rfl rfl (fun hc => ?_) fun hc => ?_
      ·rw [hc]
       refine et k_assoc <| kg f3a14 rfl (fun (o20 : Str × Int) => ⟨[(1, (Sr a1)), (15, (Sr o20.1)), (16, (I o20.2))], [], 94⟩) (rd 1 [(82, (eForm o10.2))] rfl rfl <| rp rfl (p_call rfl rfl rfl rfl rfl (screen_Format_ok k o10.2) (.inl rfl)) fun v19 => bind_end rfl) fun o20 => et k_assoc <| kg f3a15 rfl (fun (o21 : Bool) => ⟨[(92, (Bo o21))], [], 94⟩) ?_ fun o21 => ?_
       ·refine rd 3 [(86, (I o20.2)), (87, (Bo (o20.2 != 0))), (88, (Bo (o20.2 != 0)))] rfl rfl <| bifE (fun hc => ?_) fun hc => ?_
        ·rw [hc]
         exact reg_end rfl
        ·rw [hc]
         exact reg_end rfl
       refine kc rfl rfl (fun hc => ?_) fun hc => ?_
       ·rw [hc]
        refine et k_assoc <| kr ⟨[(4, (Bo false))], [], 94⟩ rfl <| et k_ret ?_
        rfl
       ·rw [hc]
        refine et k_skip <| kg f3a17 rfl (fun (o23 : Bool) => ⟨[(4, (Bo o23))], [], 94⟩) (rs rfl (p_call rfl rfl rfl rfl rfl (law24_Awake_ok k) (.inl rfl)) fun v22 => bind_end rfl) fun o23 => et k_lret ?_
        rfl
      ·rw [hc]
       refine et k_skip <| kg f3a17 rfl (fun (o25 : Bool) => ⟨[(4, (Bo o25))], [], 94⟩) (rs rfl (p_call rfl rfl rfl rfl rfl (law24_Awake_ok k) (.inl rfl)) fun v24 => bind_end rfl) fun o25 => et k_lret ?_
       rfl
    ·rw [hc]
     refine et k_skip <| et k_assoc <| kr ⟨[(1, (Sr a1)), (9, (Pt 9)), (80, (Bo (o10.1 == 0)))], [(9, vS 4 (eForm o10.2))], 94⟩ rfl <| kc rfl rfl (fun hc => ?_) fun hc => ?_
     ·rw [hc]
      refine et k_assoc <| kg f3a14 rfl (fun (o26 : Str × Int) => ⟨[(1, (Sr a1)), (15, (Sr o26.1)), (16, (I o26.2))], [], 94⟩) (rd 1 [(82, (eForm o10.2))] rfl rfl <| rp rfl (p_call rfl rfl rfl rfl rfl (screen_Format_ok k o10.2) (.inl rfl)) fun v19 => bind_end rfl) fun o26 => et k_assoc <| kg f3a15 rfl (fun (o27 : Bool) => ⟨[(92, (Bo o27))], [], 94⟩) ?_ fun o27 => ?_
      ·refine rd 3 [(86, (I o26.2)), (87, (Bo (o26.2 != 0))), (88, (Bo (o26.2 != 0)))] rfl rfl <| bifE (fun hc => ?_) fun hc => ?_
       ·rw [hc]
        exact reg_end rfl
       ·rw [hc]
        exact reg_end rfl
      refine kc rfl rfl (fun hc => ?_) fun hc => ?_
      ·rw [hc]
       refine et k_assoc <| kr ⟨[(4, (Bo false))], [], 94⟩ rfl <| et k_ret ?_
       rfl
      ·rw [hc]
       refine et k_skip <| kg f3a17 rfl (fun (o28 : Bool) => ⟨[(4, (Bo o28))], [], 94⟩) (rs rfl (p_call rfl rfl rfl rfl rfl (law24_Awake_ok k) (.inl rfl)) fun v22 => bind_end rfl) fun o28 => et k_lret ?_
       rfl
     ·rw [hc]
      refine et k_skip <| kg f3a17 rfl (fun (o29 : Bool) => ⟨[(4, (Bo o29))], [], 94⟩) (rs rfl (p_call rfl rfl rfl rfl rfl (law24_Awake_ok k) (.inl rfl)) fun v24 => bind_end rfl) fun o29 => et k_lret ?_
      rfl
end
end Go.AE
