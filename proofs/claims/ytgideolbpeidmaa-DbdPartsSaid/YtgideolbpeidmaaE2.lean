/- The program, function by function: the evaluator comes to the typed functions. Conditions: none. -/
import Derived.Test.YtgideolbpeidmaaA2
import Derived.KernelRfl
import Derived.Test.YtgideolbpeidmaaProg
import Derived.Test.YtgideolbpeidmaaB1
import Derived.Test.YtgideolbpeidmaaE1
namespace Go.AE
open Go.Proofs.Try Go.Sh
set_option linter.unusedSimpArgs false
set_option linter.unusedVariables false
set_option maxRecDepth 100000
set_option maxHeartbeats 4000000
noncomputable section
theorem f26r5 (k : Nat) (a0 : T_api_Base) (a1 : (List Int)) : RE k f26a5 f26o5 false ⟨[(1, (sI a1)), (2, (V.ptr 2 0 0)), (4, (V.ptr 4 0 0)), (7, (V.ptr 7 0 0))], [(2, ⟨false, 4, [(enc_T_api_Base a0)]⟩), (4, ⟨false, 4, [(V.agg [(V.str []), (I 0), (V.sl 2 8 (List.map enc_T_api_Type ([] : List T_api_Type))), (V.sl 2 4 (List.map enc_T_api_Search ([] : List T_api_Search)))])]⟩), (7, ⟨false, 4, [(V.agg [(V.str a0.fName), (I a0.fKind), (V.sl 1 8 (List.map enc_T_api_Type ([] : List T_api_Type))), (V.sl 1 4 (List.map enc_T_api_Search ([] : List T_api_Search)))])]⟩)], 107⟩ = some ⟨[(1, (sI a1)), (2, (V.ptr 2 0 0)), (4, (V.ptr 4 0 0)), (7, (V.ptr 7 0 0)), (26, (sI a1)), (27, (I (a1.length : Int))), (28, (I 0))], [(2, ⟨false, 4, [(enc_T_api_Base a0)]⟩), (4, ⟨false, 4, [(V.agg [(V.str []), (I 0), (V.sl 2 8 (List.map enc_T_api_Type ([] : List T_api_Type))), (V.sl 2 4 (List.map enc_T_api_Search ([] : List T_api_Search)))])]⟩), (7, ⟨false, 4, [(V.agg [(V.str a0.fName), (I a0.fKind), (V.sl 1 8 (List.map enc_T_api_Type ([] : List T_api_Type))), (V.sl 1 4 (List.map enc_T_api_Search ([] : List T_api_Search)))])]⟩)], 107⟩ := by
  refine rg ?_
  refine ra 1 1 ⟨[(1, (sI a1)), (2, (V.ptr 2 0 0)), (4, (V.ptr 4 0 0)), (7, (V.ptr 7 0 0)), (26, (sI a1))], [(2, ⟨false, 4, [(enc_T_api_Base a0)]⟩), (4, ⟨false, 4, [(V.agg [(V.str []), (I 0), (V.sl 2 8 (List.map enc_T_api_Type ([] : List T_api_Type))), (V.sl 2 4 (List.map enc_T_api_Search ([] : List T_api_Search)))])]⟩), (7, ⟨false, 4, [(V.agg [(V.str a0.fName), (I a0.fKind), (V.sl 1 8 (List.map enc_T_api_Type ([] : List T_api_Type))), (V.sl 1 4 (List.map enc_T_api_Search ([] : List T_api_Search)))])]⟩)], 107⟩ rfl rfl rfl ?_
  refine Eq.trans (reg_pure (x := some ()) (w := fun _ => (I (a1.length : Int))) rfl rfl rfl rfl (p_len (e := I) rfl rfl rfl rfl rfl rfl Go.Proofs.Try.underlying28)) ?_
  refine Eq.trans some_bind ?_
  exact bind_end rfl
theorem f26r6 (k : Nat) (a0 : T_api_Base) (a1 : (List Int)) (x16 : Int) (x17 : (List T_api_Type)) : RE k f26a6 f26o6 false ⟨[(1, (sI a1)), (2, (V.ptr 2 0 0)), (4, (V.ptr 4 0 0)), (7, (V.ptr 7 0 0)), (26, (sI a1)), (27, (I (a1.length : Int))), (28, (I x16))], [(2, ⟨false, 4, [(enc_T_api_Base a0)]⟩), (4, ⟨false, 4, [(V.agg [(V.str []), (I 0), (V.sl 2 8 (List.map enc_T_api_Type ([] : List T_api_Type))), (V.sl 2 4 (List.map enc_T_api_Search ([] : List T_api_Search)))])]⟩), (7, ⟨false, 4, [(V.agg [(V.str a0.fName), (I a0.fKind), (V.sl 1 8 (List.map enc_T_api_Type x17)), (V.sl 1 4 (List.map enc_T_api_Search ([] : List T_api_Search)))])]⟩)], 107⟩ = some ⟨[(1, (sI a1)), (2, (V.ptr 2 0 0)), (4, (V.ptr 4 0 0)), (7, (V.ptr 7 0 0)), (26, (sI a1)), (27, (I (a1.length : Int))), (28, (I x16)), (29, (V.bool (decide (x16 < (a1.length : Int)))))], [(2, ⟨false, 4, [(enc_T_api_Base a0)]⟩), (4, ⟨false, 4, [(V.agg [(V.str []), (I 0), (V.sl 2 8 (List.map enc_T_api_Type ([] : List T_api_Type))), (V.sl 2 4 (List.map enc_T_api_Search ([] : List T_api_Search)))])]⟩), (7, ⟨false, 4, [(V.agg [(V.str a0.fName), (I a0.fKind), (V.sl 1 8 (List.map enc_T_api_Type x17)), (V.sl 1 4 (List.map enc_T_api_Search ([] : List T_api_Search)))])]⟩)], 107⟩ :=
  rE rfl
theorem f26r7 (k : Nat) (a0 : T_api_Base) (a1 : (List Int)) (x16 : Int) (x17 : (List T_api_Type)) : RE k f26a7 f26o7 false ⟨[(1, (sI a1)), (2, (V.ptr 2 0 0)), (4, (V.ptr 4 0 0)), (7, (V.ptr 7 0 0)), (26, (sI a1)), (27, (I (a1.length : Int))), (28, (I x16)), (29, (V.bool true))], [(2, ⟨false, 4, [(enc_T_api_Base a0)]⟩), (4, ⟨false, 4, [(V.agg [(V.str []), (I 0), (V.sl 2 8 (List.map enc_T_api_Type ([] : List T_api_Type))), (V.sl 2 4 (List.map enc_T_api_Search ([] : List T_api_Search)))])]⟩), (7, ⟨false, 4, [(V.agg [(V.str a0.fName), (I a0.fKind), (V.sl 1 8 (List.map enc_T_api_Type x17)), (V.sl 1 4 (List.map enc_T_api_Search ([] : List T_api_Search)))])]⟩)], 107⟩ = (((idx a1 x16).bind fun v18 => (some (x16, v18)))).map (fun (o : Int × Int) => (⟨[(1, (sI a1)), (2, (V.ptr 2 0 0)), (4, (V.ptr 4 0 0)), (7, (V.ptr 7 0 0)), (8, (I o.1)), (9, (I o.2)), (26, (sI a1)), (27, (I (a1.length : Int))), (28, (I x16))], [(2, ⟨false, 4, [(enc_T_api_Base a0)]⟩), (4, ⟨false, 4, [(V.agg [(V.str []), (I 0), (V.sl 2 8 (List.map enc_T_api_Type ([] : List T_api_Type))), (V.sl 2 4 (List.map enc_T_api_Search ([] : List T_api_Search)))])]⟩), (7, ⟨false, 4, [(V.agg [(V.str a0.fName), (I a0.fKind), (V.sl 1 8 (List.map enc_T_api_Type x17)), (V.sl 1 4 (List.map enc_T_api_Search ([] : List T_api_Search)))])]⟩)], 107⟩ : St)) := by
  refine rg ?_
  refine ra 1 1 ⟨[(1, (sI a1)), (2, (V.ptr 2 0 0)), (4, (V.ptr 4 0 0)), (7, (V.ptr 7 0 0)), (26, (sI a1)), (27, (I (a1.length : Int))), (28, (I x16)), (29, (V.bool true)), (30, (I x16))], [(2, ⟨false, 4, [(enc_T_api_Base a0)]⟩), (4, ⟨false, 4, [(V.agg [(V.str []), (I 0), (V.sl 2 8 (List.map enc_T_api_Type ([] : List T_api_Type))), (V.sl 2 4 (List.map enc_T_api_Search ([] : List T_api_Search)))])]⟩), (7, ⟨false, 4, [(V.agg [(V.str a0.fName), (I a0.fKind), (V.sl 1 8 (List.map enc_T_api_Type x17)), (V.sl 1 4 (List.map enc_T_api_Search ([] : List T_api_Search)))])]⟩)], 107⟩ rfl rfl rfl ?_
  refine Eq.trans (reg_pure (x := (idx a1 x16)) (w := fun v18 => (V.pro (I v18))) rfl rfl rfl rfl (p_index (e := I) rfl rfl rfl Go.Proofs.Try.underlying28 rfl (by decide))) ?_
  refine bindE (fun v18 => ?_)
  exact bind_end rfl
theorem f26r8 (k : Nat) (a0 : T_api_Base) (a1 : (List Int)) (x16 : Int) (x17 : (List T_api_Type)) (o19 : Int × Int) : RE k f26a8 f26o8 true ⟨[(1, (sI a1)), (2, (V.ptr 2 0 0)), (4, (V.ptr 4 0 0)), (7, (V.ptr 7 0 0)), (8, (I o19.1)), (9, (I o19.2)), (26, (sI a1)), (27, (I (a1.length : Int))), (28, (I x16))], [(2, ⟨false, 4, [(enc_T_api_Base a0)]⟩), (4, ⟨false, 4, [(V.agg [(V.str []), (I 0), (V.sl 2 8 (List.map enc_T_api_Type ([] : List T_api_Type))), (V.sl 2 4 (List.map enc_T_api_Search ([] : List T_api_Search)))])]⟩), (7, ⟨false, 4, [(V.agg [(V.str a0.fName), (I a0.fKind), (V.sl 1 8 (List.map enc_T_api_Type x17)), (V.sl 1 4 (List.map enc_T_api_Search ([] : List T_api_Search)))])]⟩)], 107⟩ = (((cut a1 0 o19.1).bind fun v20 => ((idx a0.fTypes o19.2).bind fun v21 => (slices_Index_int k v20 v21.fParent)))).map (fun (o : Int) => (⟨[(1, (sI a1)), (2, (V.ptr 2 0 0)), (4, (V.ptr 4 0 0)), (7, (V.ptr 7 0 0)), (8, (I o19.1)), (9, (I o19.2)), (10, (I o)), (26, (sI a1)), (27, (I (a1.length : Int))), (28, (I x16))], [(2, ⟨false, 4, [(enc_T_api_Base a0)]⟩), (4, ⟨false, 4, [(V.agg [(V.str []), (I 0), (V.sl 2 8 (List.map enc_T_api_Type ([] : List T_api_Type))), (V.sl 2 4 (List.map enc_T_api_Search ([] : List T_api_Search)))])]⟩), (7, ⟨false, 4, [(V.agg [(V.str a0.fName), (I a0.fKind), (V.sl 1 8 (List.map enc_T_api_Type x17)), (V.sl 1 4 (List.map enc_T_api_Search ([] : List T_api_Search)))])]⟩)], 107⟩ : St)) := by
  refine Eq.trans (regionE_regp (p := 11) (dk := true) (t := [(1, (sI a1)), (2, (V.ptr 2 0 0)), (4, (V.ptr 4 0 0)), (7, (V.ptr 7 0 0)), (8, (I o19.1)), (9, (I o19.2)), (26, (sI a1)), (27, (I (a1.length : Int))), (28, (I x16))]) (σ := [(2, ⟨false, 4, [(enc_T_api_Base a0)]⟩), (4, ⟨false, 4, [(V.agg [(V.str []), (I 0), (V.sl 2 8 (List.map enc_T_api_Type ([] : List T_api_Type))), (V.sl 2 4 (List.map enc_T_api_Search ([] : List T_api_Search)))])]⟩), (7, ⟨false, 4, [(V.agg [(V.str a0.fName), (I a0.fKind), (V.sl 1 8 (List.map enc_T_api_Type x17)), (V.sl 1 4 (List.map enc_T_api_Search ([] : List T_api_Search)))])]⟩)]) (n := 107) (by decide) (by decide) rfl) ?_
  refine Eq.trans (regp_adv (m := 2) (j := 2) (t' := [(1, (sI a1)), (2, (V.ptr 2 0 0)), (4, (V.ptr 4 0 0)), (7, (V.ptr 7 0 0)), (8, (I o19.1)), (9, (I o19.2)), (26, (sI a1)), (27, (I (a1.length : Int))), (28, (I x16)), (33, (sI a1)), (34, (I o19.1))]) rfl rfl rfl) ?_
  refine Eq.trans (regp_pure (x := (cut a1 0 o19.1)) (w := fun v20 => (sI v20)) rfl rfl rfl rfl rfl (p_slice (e := I) rfl rfl rfl rfl rfl rfl Go.Proofs.Try.underlying28 rfl (by decide))) ?_
  refine bindE (fun v20 => ?_)
  refine Eq.trans (putp_adv (m := 3) (j := 6) (t' := [(1, (sI a1)), (2, (V.ptr 2 0 0)), (4, (V.ptr 4 0 0)), (7, (V.ptr 7 0 0)), (8, (I o19.1)), (9, (I o19.2)), (26, (sI a1)), (27, (I (a1.length : Int))), (28, (I x16)), (33, (sI a1)), (34, (I o19.1)), (35, (sI v20)), (36, (V.ptr 2 0 2)), (37, (sType (a0.fTypes))), (38, (I o19.2))]) rfl rfl rfl) ?_
  refine Eq.trans (regp_pure (x := (idx a0.fTypes o19.2)) (w := fun v21 => (V.pro (enc_T_api_Type v21))) rfl rfl rfl rfl rfl (p_index (e := enc_T_api_Type) rfl rfl rfl Go.Proofs.Try.underlying22 rfl (by decide))) ?_
  refine bindE (fun v21 => ?_)
  refine Eq.trans (putp_adv (m := 2) (j := 9) (t' := [(1, (sI a1)), (2, (V.ptr 2 0 0)), (4, (V.ptr 4 0 0)), (7, (V.ptr 7 0 0)), (8, (I o19.1)), (9, (I o19.2)), (26, (sI a1)), (27, (I (a1.length : Int))), (28, (I x16)), (33, (sI a1)), (34, (I o19.1)), (35, (sI v20)), (36, (V.ptr 2 0 2)), (37, (sType (a0.fTypes))), (38, (I o19.2)), (39, (V.pro (enc_T_api_Type v21))), (40, (V.pro (I v21.fParent))), (41, (I v21.fParent))]) rfl rfl rfl) ?_
  refine Eq.trans (regp_pure (x := (slices_Index_int k v20 v21.fParent)) (w := fun v22 => (I v22)) rfl rfl rfl rfl rfl (p_call rfl rfl rfl rfl rfl (slices_Index_int_ok k v20 v21.fParent) (.inl rfl))) ?_
  refine bind_self (fun v22 => ?_)
  exact regp_end rfl
theorem f26r9 (k : Nat) (a0 : T_api_Base) (a1 : (List Int)) (x16 : Int) (x17 : (List T_api_Type)) (o19 : Int × Int) (o23 : Int) : RE k f26a9 f26o9 false ⟨[(1, (sI a1)), (2, (V.ptr 2 0 0)), (4, (V.ptr 4 0 0)), (7, (V.ptr 7 0 0)), (8, (I o19.1)), (9, (I o19.2)), (10, (I o23)), (26, (sI a1)), (27, (I (a1.length : Int))), (28, (I x16))], [(2, ⟨false, 4, [(enc_T_api_Base a0)]⟩), (4, ⟨false, 4, [(V.agg [(V.str []), (I 0), (V.sl 2 8 (List.map enc_T_api_Type ([] : List T_api_Type))), (V.sl 2 4 (List.map enc_T_api_Search ([] : List T_api_Search)))])]⟩), (7, ⟨false, 4, [(V.agg [(V.str a0.fName), (I a0.fKind), (V.sl 1 8 (List.map enc_T_api_Type x17)), (V.sl 1 4 (List.map enc_T_api_Search ([] : List T_api_Search)))])]⟩)], 107⟩ = ((bif (o19.1 == 0) then (bif (o19.2 != 0) then (some (true)) else (bif (decide (o19.1 > 0)) then ((idx a1 (Go.IntKind.wrap .i64 (o19.1 - 1))).bind fun v24 => (bif (decide (o19.2 ≤ v24)) then (some (true)) else (some ((decide (o23 < 0)))))) else (some (false)))) else (bif (decide (o19.1 > 0)) then ((idx a1 (Go.IntKind.wrap .i64 (o19.1 - 1))).bind fun v25 => (bif (decide (o19.2 ≤ v25)) then (some (true)) else (some ((decide (o23 < 0)))))) else (some (false))))).map (fun (o : Bool) => (⟨[(1, (sI a1)), (2, (V.ptr 2 0 0)), (4, (V.ptr 4 0 0)), (7, (V.ptr 7 0 0)), (9, (I o19.2)), (10, (I o23)), (26, (sI a1)), (27, (I (a1.length : Int))), (28, (I x16)), (65, (V.bool o))], [(2, ⟨false, 4, [(enc_T_api_Base a0)]⟩), (4, ⟨false, 4, [(V.agg [(V.str []), (I 0), (V.sl 2 8 (List.map enc_T_api_Type ([] : List T_api_Type))), (V.sl 2 4 (List.map enc_T_api_Search ([] : List T_api_Search)))])]⟩), (7, ⟨false, 4, [(V.agg [(V.str a0.fName), (I a0.fKind), (V.sl 1 8 (List.map enc_T_api_Type x17)), (V.sl 1 4 (List.map enc_T_api_Search ([] : List T_api_Search)))])]⟩)], 107⟩ : St)) := by
  refine rg ?_
  refine ra 3 3 ⟨[(1, (sI a1)), (2, (V.ptr 2 0 0)), (4, (V.ptr 4 0 0)), (7, (V.ptr 7 0 0)), (8, (I o19.1)), (9, (I o19.2)), (10, (I o23)), (26, (sI a1)), (27, (I (a1.length : Int))), (28, (I x16)), (43, (I o19.1)), (44, (V.bool (o19.1 == 0))), (45, (V.bool (o19.1 == 0)))], [(2, ⟨false, 4, [(enc_T_api_Base a0)]⟩), (4, ⟨false, 4, [(V.agg [(V.str []), (I 0), (V.sl 2 8 (List.map enc_T_api_Type ([] : List T_api_Type))), (V.sl 2 4 (List.map enc_T_api_Search ([] : List T_api_Search)))])]⟩), (7, ⟨false, 4, [(V.agg [(V.str a0.fName), (I a0.fKind), (V.sl 1 8 (List.map enc_T_api_Type x17)), (V.sl 1 4 (List.map enc_T_api_Search ([] : List T_api_Search)))])]⟩)], 107⟩ rfl rfl rfl ?_
  refine bifE (c := (o19.1 == 0)) (fun hc => ?_) fun hc => ?_
  · rw [hc]
    refine ra 4 7 ⟨[(1, (sI a1)), (2, (V.ptr 2 0 0)), (4, (V.ptr 4 0 0)), (7, (V.ptr 7 0 0)), (8, (I o19.1)), (9, (I o19.2)), (10, (I o23)), (26, (sI a1)), (27, (I (a1.length : Int))), (28, (I x16)), (43, (I o19.1)), (44, (V.bool true)), (45, (V.bool true)), (46, (I o19.2)), (47, (V.bool (o19.2 != 0))), (48, (V.bool (o19.2 != 0))), (49, (V.bool (o19.2 != 0)))], [(2, ⟨false, 4, [(enc_T_api_Base a0)]⟩), (4, ⟨false, 4, [(V.agg [(V.str []), (I 0), (V.sl 2 8 (List.map enc_T_api_Type ([] : List T_api_Type))), (V.sl 2 4 (List.map enc_T_api_Search ([] : List T_api_Search)))])]⟩), (7, ⟨false, 4, [(V.agg [(V.str a0.fName), (I a0.fKind), (V.sl 1 8 (List.map enc_T_api_Type x17)), (V.sl 1 4 (List.map enc_T_api_Search ([] : List T_api_Search)))])]⟩)], 107⟩ rfl rfl rfl ?_
    refine bifE (c := (o19.2 != 0)) (fun hc => ?_) fun hc => ?_
    · rw [hc]
      exact reg_end rfl
    · rw [hc]
      refine ra 3 10 ⟨[(1, (sI a1)), (2, (V.ptr 2 0 0)), (4, (V.ptr 4 0 0)), (7, (V.ptr 7 0 0)), (8, (I o19.1)), (9, (I o19.2)), (10, (I o23)), (26, (sI a1)), (27, (I (a1.length : Int))), (28, (I x16)), (43, (I o19.1)), (44, (V.bool true)), (45, (V.bool true)), (46, (I o19.2)), (47, (V.bool false)), (48, (V.bool false)), (49, (V.bool false)), (50, (I o19.1)), (51, (V.bool (decide (o19.1 > 0)))), (52, (V.bool (decide (o19.1 > 0))))], [(2, ⟨false, 4, [(enc_T_api_Base a0)]⟩), (4, ⟨false, 4, [(V.agg [(V.str []), (I 0), (V.sl 2 8 (List.map enc_T_api_Type ([] : List T_api_Type))), (V.sl 2 4 (List.map enc_T_api_Search ([] : List T_api_Search)))])]⟩), (7, ⟨false, 4, [(V.agg [(V.str a0.fName), (I a0.fKind), (V.sl 1 8 (List.map enc_T_api_Type x17)), (V.sl 1 4 (List.map enc_T_api_Search ([] : List T_api_Search)))])]⟩)], 107⟩ rfl rfl rfl ?_
      refine bifE (c := (decide (o19.1 > 0))) (fun hc => ?_) fun hc => ?_
      · rw [hc]
        refine ra 4 14 ⟨[(1, (sI a1)), (2, (V.ptr 2 0 0)), (4, (V.ptr 4 0 0)), (7, (V.ptr 7 0 0)), (8, (I o19.1)), (9, (I o19.2)), (10, (I o23)), (26, (sI a1)), (27, (I (a1.length : Int))), (28, (I x16)), (43, (I o19.1)), (44, (V.bool true)), (45, (V.bool true)), (46, (I o19.2)), (47, (V.bool false)), (48, (V.bool false)), (49, (V.bool false)), (50, (I o19.1)), (51, (V.bool true)), (52, (V.bool true)), (53, (I o19.2)), (54, (sI a1)), (55, (I o19.1)), (56, (I (Go.IntKind.wrap .i64 (o19.1 - 1))))], [(2, ⟨false, 4, [(enc_T_api_Base a0)]⟩), (4, ⟨false, 4, [(V.agg [(V.str []), (I 0), (V.sl 2 8 (List.map enc_T_api_Type ([] : List T_api_Type))), (V.sl 2 4 (List.map enc_T_api_Search ([] : List T_api_Search)))])]⟩), (7, ⟨false, 4, [(V.agg [(V.str a0.fName), (I a0.fKind), (V.sl 1 8 (List.map enc_T_api_Type x17)), (V.sl 1 4 (List.map enc_T_api_Search ([] : List T_api_Search)))])]⟩)], 107⟩ rfl rfl rfl ?_
        refine Eq.trans (reg_pure (x := (idx a1 (Go.IntKind.wrap .i64 (o19.1 - 1)))) (w := fun v24 => (V.pro (I v24))) rfl rfl rfl rfl (p_index (e := I) rfl rfl rfl Go.Proofs.Try.underlying28 rfl (by decide))) ?_
        refine bindE (fun v24 => ?_)
        refine ba 3 18 ⟨[(1, (sI a1)), (2, (V.ptr 2 0 0)), (4, (V.ptr 4 0 0)), (7, (V.ptr 7 0 0)), (8, (I o19.1)), (9, (I o19.2)), (10, (I o23)), (26, (sI a1)), (27, (I (a1.length : Int))), (28, (I x16)), (43, (I o19.1)), (44, (V.bool true)), (45, (V.bool true)), (46, (I o19.2)), (47, (V.bool false)), (48, (V.bool false)), (49, (V.bool false)), (50, (I o19.1)), (51, (V.bool true)), (52, (V.bool true)), (53, (I o19.2)), (54, (sI a1)), (55, (I o19.1)), (56, (I (Go.IntKind.wrap .i64 (o19.1 - 1)))), (57, (V.pro (I v24))), (58, (I v24)), (59, (V.bool (decide (o19.2 ≤ v24)))), (60, (V.bool (decide (o19.2 ≤ v24))))], [(2, ⟨false, 4, [(enc_T_api_Base a0)]⟩), (4, ⟨false, 4, [(V.agg [(V.str []), (I 0), (V.sl 2 8 (List.map enc_T_api_Type ([] : List T_api_Type))), (V.sl 2 4 (List.map enc_T_api_Search ([] : List T_api_Search)))])]⟩), (7, ⟨false, 4, [(V.agg [(V.str a0.fName), (I a0.fKind), (V.sl 1 8 (List.map enc_T_api_Type x17)), (V.sl 1 4 (List.map enc_T_api_Search ([] : List T_api_Search)))])]⟩)], 107⟩ rfl rfl rfl ?_
        refine bifE (c := (decide (o19.2 ≤ v24))) (fun hc => ?_) fun hc => ?_
        · rw [hc]
          exact reg_end rfl
        · rw [hc]
          exact reg_end rfl
      · rw [hc]
        exact reg_end rfl
  · rw [hc]
    refine ra 7 10 ⟨[(1, (sI a1)), (2, (V.ptr 2 0 0)), (4, (V.ptr 4 0 0)), (7, (V.ptr 7 0 0)), (8, (I o19.1)), (9, (I o19.2)), (10, (I o23)), (26, (sI a1)), (27, (I (a1.length : Int))), (28, (I x16)), (43, (I o19.1)), (44, (V.bool false)), (45, (V.bool false)), (46, (V.tup [])), (47, (V.tup [])), (48, (V.bool false)), (49, (V.bool false)), (50, (I o19.1)), (51, (V.bool (decide (o19.1 > 0)))), (52, (V.bool (decide (o19.1 > 0))))], [(2, ⟨false, 4, [(enc_T_api_Base a0)]⟩), (4, ⟨false, 4, [(V.agg [(V.str []), (I 0), (V.sl 2 8 (List.map enc_T_api_Type ([] : List T_api_Type))), (V.sl 2 4 (List.map enc_T_api_Search ([] : List T_api_Search)))])]⟩), (7, ⟨false, 4, [(V.agg [(V.str a0.fName), (I a0.fKind), (V.sl 1 8 (List.map enc_T_api_Type x17)), (V.sl 1 4 (List.map enc_T_api_Search ([] : List T_api_Search)))])]⟩)], 107⟩ rfl rfl rfl ?_
    refine bifE (c := (decide (o19.1 > 0))) (fun hc => ?_) fun hc => ?_
    · rw [hc]
      refine ra 4 14 ⟨[(1, (sI a1)), (2, (V.ptr 2 0 0)), (4, (V.ptr 4 0 0)), (7, (V.ptr 7 0 0)), (8, (I o19.1)), (9, (I o19.2)), (10, (I o23)), (26, (sI a1)), (27, (I (a1.length : Int))), (28, (I x16)), (43, (I o19.1)), (44, (V.bool false)), (45, (V.bool false)), (46, (V.tup [])), (47, (V.tup [])), (48, (V.bool false)), (49, (V.bool false)), (50, (I o19.1)), (51, (V.bool true)), (52, (V.bool true)), (53, (I o19.2)), (54, (sI a1)), (55, (I o19.1)), (56, (I (Go.IntKind.wrap .i64 (o19.1 - 1))))], [(2, ⟨false, 4, [(enc_T_api_Base a0)]⟩), (4, ⟨false, 4, [(V.agg [(V.str []), (I 0), (V.sl 2 8 (List.map enc_T_api_Type ([] : List T_api_Type))), (V.sl 2 4 (List.map enc_T_api_Search ([] : List T_api_Search)))])]⟩), (7, ⟨false, 4, [(V.agg [(V.str a0.fName), (I a0.fKind), (V.sl 1 8 (List.map enc_T_api_Type x17)), (V.sl 1 4 (List.map enc_T_api_Search ([] : List T_api_Search)))])]⟩)], 107⟩ rfl rfl rfl ?_
      refine Eq.trans (reg_pure (x := (idx a1 (Go.IntKind.wrap .i64 (o19.1 - 1)))) (w := fun v25 => (V.pro (I v25))) rfl rfl rfl rfl (p_index (e := I) rfl rfl rfl Go.Proofs.Try.underlying28 rfl (by decide))) ?_
      refine bindE (fun v25 => ?_)
      refine ba 3 18 ⟨[(1, (sI a1)), (2, (V.ptr 2 0 0)), (4, (V.ptr 4 0 0)), (7, (V.ptr 7 0 0)), (8, (I o19.1)), (9, (I o19.2)), (10, (I o23)), (26, (sI a1)), (27, (I (a1.length : Int))), (28, (I x16)), (43, (I o19.1)), (44, (V.bool false)), (45, (V.bool false)), (46, (V.tup [])), (47, (V.tup [])), (48, (V.bool false)), (49, (V.bool false)), (50, (I o19.1)), (51, (V.bool true)), (52, (V.bool true)), (53, (I o19.2)), (54, (sI a1)), (55, (I o19.1)), (56, (I (Go.IntKind.wrap .i64 (o19.1 - 1)))), (57, (V.pro (I v25))), (58, (I v25)), (59, (V.bool (decide (o19.2 ≤ v25)))), (60, (V.bool (decide (o19.2 ≤ v25))))], [(2, ⟨false, 4, [(enc_T_api_Base a0)]⟩), (4, ⟨false, 4, [(V.agg [(V.str []), (I 0), (V.sl 2 8 (List.map enc_T_api_Type ([] : List T_api_Type))), (V.sl 2 4 (List.map enc_T_api_Search ([] : List T_api_Search)))])]⟩), (7, ⟨false, 4, [(V.agg [(V.str a0.fName), (I a0.fKind), (V.sl 1 8 (List.map enc_T_api_Type x17)), (V.sl 1 4 (List.map enc_T_api_Search ([] : List T_api_Search)))])]⟩)], 107⟩ rfl rfl rfl ?_
      refine bifE (c := (decide (o19.2 ≤ v25))) (fun hc => ?_) fun hc => ?_
      · rw [hc]
        exact reg_end rfl
      · rw [hc]
        exact reg_end rfl
    · rw [hc]
      exact reg_end rfl
theorem f26r10 (k : Nat) (a0 : T_api_Base) (a1 : (List Int)) (x16 : Int) (x17 : (List T_api_Type)) (o19 : Int × Int) (o23 : Int) : RE k f26a10 f26o10 false ⟨[(1, (sI a1)), (2, (V.ptr 2 0 0)), (4, (V.ptr 4 0 0)), (7, (V.ptr 7 0 0)), (9, (I o19.2)), (10, (I o23)), (26, (sI a1)), (27, (I (a1.length : Int))), (28, (I x16)), (65, (V.bool true))], [(2, ⟨false, 4, [(enc_T_api_Base a0)]⟩), (4, ⟨false, 4, [(V.agg [(V.str []), (I 0), (V.sl 2 8 (List.map enc_T_api_Type ([] : List T_api_Type))), (V.sl 2 4 (List.map enc_T_api_Search ([] : List T_api_Search)))])]⟩), (7, ⟨false, 4, [(V.agg [(V.str a0.fName), (I a0.fKind), (V.sl 1 8 (List.map enc_T_api_Type x17)), (V.sl 1 4 (List.map enc_T_api_Search ([] : List T_api_Search)))])]⟩)], 107⟩ = some ⟨[(4, (V.ptr 4 0 0)), (5, (I 2))], [(4, ⟨false, 4, [(enc_T_api_Base ({ fName := [], fKind := 0, fTypes := ([] : List T_api_Type), fIndexes := ([] : List T_api_Search) } : T_api_Base))]⟩)], 107⟩ :=
  rE rfl
theorem f26r11 (k : Nat) (a0 : T_api_Base) (a1 : (List Int)) (x16 : Int) (x17 : (List T_api_Type)) (o19 : Int × Int) (o23 : Int) : RE k f26a11 f26o11 true ⟨[(1, (sI a1)), (2, (V.ptr 2 0 0)), (4, (V.ptr 4 0 0)), (7, (V.ptr 7 0 0)), (9, (I o19.2)), (10, (I o23)), (26, (sI a1)), (27, (I (a1.length : Int))), (28, (I x16)), (65, (V.bool false))], [(2, ⟨false, 4, [(enc_T_api_Base a0)]⟩), (4, ⟨false, 4, [(V.agg [(V.str []), (I 0), (V.sl 2 8 (List.map enc_T_api_Type ([] : List T_api_Type))), (V.sl 2 4 (List.map enc_T_api_Search ([] : List T_api_Search)))])]⟩), (7, ⟨false, 4, [(V.agg [(V.str a0.fName), (I a0.fKind), (V.sl 1 8 (List.map enc_T_api_Type x17)), (V.sl 1 4 (List.map enc_T_api_Search ([] : List T_api_Search)))])]⟩)], 107⟩ = (((idx a0.fTypes o19.2).bind fun v27 => ((dbd_copied k v27 o23).bind fun v28 => (app x17 ([v28] : List T_api_Type))))).map (fun (o : (List T_api_Type)) => (⟨[(1, (sI a1)), (2, (V.ptr 2 0 0)), (4, (V.ptr 4 0 0)), (7, (V.ptr 7 0 0)), (26, (sI a1)), (27, (I (a1.length : Int))), (28, (I x16))], [(2, ⟨false, 4, [(enc_T_api_Base a0)]⟩), (4, ⟨false, 4, [(V.agg [(V.str []), (I 0), (V.sl 2 8 (List.map enc_T_api_Type ([] : List T_api_Type))), (V.sl 2 4 (List.map enc_T_api_Search ([] : List T_api_Search)))])]⟩), (7, ⟨false, 4, [(V.agg [(V.str a0.fName), (I a0.fKind), (V.sl 1 8 (List.map enc_T_api_Type o)), (V.sl 1 4 (List.map enc_T_api_Search ([] : List T_api_Search)))])]⟩)], 107⟩ : St)) := by
  refine Eq.trans (regionE_regp (p := 10) (dk := true) (t := [(1, (sI a1)), (2, (V.ptr 2 0 0)), (4, (V.ptr 4 0 0)), (7, (V.ptr 7 0 0)), (9, (I o19.2)), (10, (I o23)), (26, (sI a1)), (27, (I (a1.length : Int))), (28, (I x16)), (65, (V.bool false))]) (σ := [(2, ⟨false, 4, [(enc_T_api_Base a0)]⟩), (4, ⟨false, 4, [(V.agg [(V.str []), (I 0), (V.sl 2 8 (List.map enc_T_api_Type ([] : List T_api_Type))), (V.sl 2 4 (List.map enc_T_api_Search ([] : List T_api_Search)))])]⟩), (7, ⟨false, 4, [(V.agg [(V.str a0.fName), (I a0.fKind), (V.sl 1 8 (List.map enc_T_api_Type x17)), (V.sl 1 4 (List.map enc_T_api_Search ([] : List T_api_Search)))])]⟩)]) (n := 107) (by decide) (by decide) rfl) ?_
  refine Eq.trans (regp_adv (m := 5) (j := 5) (t' := [(1, (sI a1)), (2, (V.ptr 2 0 0)), (4, (V.ptr 4 0 0)), (7, (V.ptr 7 0 0)), (9, (I o19.2)), (10, (I o23)), (26, (sI a1)), (27, (I (a1.length : Int))), (28, (I x16)), (65, (V.bool false)), (67, (V.ptr 7 0 2)), (68, (sType x17)), (69, (V.ptr 2 0 2)), (70, (sType (a0.fTypes))), (71, (I o19.2))]) rfl rfl rfl) ?_
  refine Eq.trans (regp_pure (x := (idx a0.fTypes o19.2)) (w := fun v27 => (V.pro (enc_T_api_Type v27))) rfl rfl rfl rfl rfl (p_index (e := enc_T_api_Type) rfl rfl rfl Go.Proofs.Try.underlying22 rfl (by decide))) ?_
  refine bindE (fun v27 => ?_)
  refine Eq.trans (putp_adv (m := 2) (j := 8) (t' := [(1, (sI a1)), (2, (V.ptr 2 0 0)), (4, (V.ptr 4 0 0)), (7, (V.ptr 7 0 0)), (9, (I o19.2)), (10, (I o23)), (26, (sI a1)), (27, (I (a1.length : Int))), (28, (I x16)), (65, (V.bool false)), (67, (V.ptr 7 0 2)), (68, (sType x17)), (69, (V.ptr 2 0 2)), (70, (sType (a0.fTypes))), (71, (I o19.2)), (72, (V.pro (enc_T_api_Type v27))), (73, (enc_T_api_Type v27)), (74, (I o23))]) rfl rfl rfl) ?_
  refine Eq.trans (regp_pure (x := (dbd_copied k v27 o23)) (w := fun v28 => (enc_T_api_Type v28)) rfl rfl rfl rfl rfl (p_call rfl rfl rfl rfl rfl (dbd_copied_ok k v27 o23) (.inl rfl))) ?_
  refine bindE (fun v28 => ?_)
  refine Eq.trans (regp_reg (m := 0) (j := 10) (st' := ⟨[(1, (sI a1)), (2, (V.ptr 2 0 0)), (4, (V.ptr 4 0 0)), (7, (V.ptr 7 0 0)), (9, (I o19.2)), (10, (I o23)), (26, (sI a1)), (27, (I (a1.length : Int))), (28, (I x16)), (65, (V.bool false)), (67, (V.ptr 7 0 2)), (68, (V.sl 1 8 (List.map enc_T_api_Type x17))), (69, (V.ptr 2 0 2)), (70, (sType (a0.fTypes))), (71, (I o19.2)), (72, (V.pro (enc_T_api_Type v27))), (73, (enc_T_api_Type v27)), (74, (I o23)), (75, (enc_T_api_Type v28)), (76, (sType (([v28] : List T_api_Type))))], [(2, ⟨false, 4, [(enc_T_api_Base a0)]⟩), (4, ⟨false, 4, [(V.agg [(V.str []), (I 0), (V.sl 2 8 (List.map enc_T_api_Type ([] : List T_api_Type))), (V.sl 2 4 (List.map enc_T_api_Search ([] : List T_api_Search)))])]⟩), (7, ⟨false, 4, [(V.agg [(V.str a0.fName), (I a0.fKind), (sType x17), (V.sl 1 4 (List.map enc_T_api_Search ([] : List T_api_Search)))])]⟩)], 107⟩) rfl rfl rfl) ?_
  refine Eq.trans (reg_eff (x := (app x17 ([v28] : List T_api_Type))) (w := fun v29 => ((V.sl 1 8 (List.map enc_T_api_Type v29)), _)) rfl rfl rfl rfl (p_app (e := enc_T_api_Type) rfl rfl rfl rfl rfl rfl rfl rfl rfl rfl (by decide))) ?_
  refine bind_self (fun v29 => ?_)
  exact bind_end rfl
theorem f26r12 (k : Nat) (a0 : T_api_Base) (a1 : (List Int)) (x16 : Int) (o30 : (List T_api_Type)) : RE k f26a12 f26o12 false ⟨[(1, (sI a1)), (2, (V.ptr 2 0 0)), (4, (V.ptr 4 0 0)), (7, (V.ptr 7 0 0)), (26, (sI a1)), (27, (I (a1.length : Int))), (28, (I x16))], [(2, ⟨false, 4, [(enc_T_api_Base a0)]⟩), (4, ⟨false, 4, [(V.agg [(V.str []), (I 0), (V.sl 2 8 (List.map enc_T_api_Type ([] : List T_api_Type))), (V.sl 2 4 (List.map enc_T_api_Search ([] : List T_api_Search)))])]⟩), (7, ⟨false, 4, [(V.agg [(V.str a0.fName), (I a0.fKind), (V.sl 1 8 (List.map enc_T_api_Type o30)), (V.sl 1 4 (List.map enc_T_api_Search ([] : List T_api_Search)))])]⟩)], 107⟩ = some ⟨[(1, (sI a1)), (2, (V.ptr 2 0 0)), (4, (V.ptr 4 0 0)), (7, (V.ptr 7 0 0)), (26, (sI a1)), (27, (I (a1.length : Int))), (28, (I (Go.IntKind.wrap .i64 (x16 + 1))))], [(2, ⟨false, 4, [(enc_T_api_Base a0)]⟩), (4, ⟨false, 4, [(V.agg [(V.str []), (I 0), (V.sl 2 8 (List.map enc_T_api_Type ([] : List T_api_Type))), (V.sl 2 4 (List.map enc_T_api_Search ([] : List T_api_Search)))])]⟩), (7, ⟨false, 4, [(V.agg [(V.str a0.fName), (I a0.fKind), (V.sl 1 8 (List.map enc_T_api_Type o30)), (V.sl 1 4 (List.map enc_T_api_Search ([] : List T_api_Search)))])]⟩)], 107⟩ :=
  rE rfl
theorem dbd_Part_L1_ok (k : Nat) (a0 : T_api_Base) (a1 : (List Int))  (K0 : Int → (List T_api_Type) → Option (T_api_Base × Int)) (Kst : X × St → Option (V × List V)) (hK0 : ∀ (y0 : Int) (y1 : (List T_api_Type)), Kst (X.exit 0, ⟨[(1, (sI a1)), (2, (V.ptr 2 0 0)), (4, (V.ptr 4 0 0)), (7, (V.ptr 7 0 0)), (26, (sI a1)), (27, (I (a1.length : Int))), (28, (I y0)), (29, (V.bool false))], [(2, ⟨false, 4, [(enc_T_api_Base a0)]⟩), (4, ⟨false, 4, [(V.agg [(V.str []), (I 0), (V.sl 2 8 (List.map enc_T_api_Type ([] : List T_api_Type))), (V.sl 2 4 (List.map enc_T_api_Search ([] : List T_api_Search)))])]⟩), (7, ⟨false, 4, [(V.agg [(V.str a0.fName), (I a0.fKind), (V.sl 1 8 (List.map enc_T_api_Type y1)), (V.sl 1 4 (List.map enc_T_api_Search ([] : List T_api_Search)))])]⟩)], 107⟩) = (K0 y0 y1).map dbd_Part_fin) (hret : ∀ s, Kst (X.ret, s) = endK prog 107 [(enc_T_api_Base a0), (sI a1)] [] [.cell 4 25, .tmp 5] (X.ret, s)) :
    ∀ (m : Nat) (x16 : Int) (x17 : (List T_api_Type)), (iter (exec prog (EV k) f26n k f26b0) m ⟨[(1, (sI a1)), (2, (V.ptr 2 0 0)), (4, (V.ptr 4 0 0)), (7, (V.ptr 7 0 0)), (26, (sI a1)), (27, (I (a1.length : Int))), (28, (I x16))], [(2, ⟨false, 4, [(enc_T_api_Base a0)]⟩), (4, ⟨false, 4, [(V.agg [(V.str []), (I 0), (V.sl 2 8 (List.map enc_T_api_Type ([] : List T_api_Type))), (V.sl 2 4 (List.map enc_T_api_Search ([] : List T_api_Search)))])]⟩), (7, ⟨false, 4, [(V.agg [(V.str a0.fName), (I a0.fKind), (V.sl 1 8 (List.map enc_T_api_Type x17)), (V.sl 1 4 (List.map enc_T_api_Search ([] : List T_api_Search)))])]⟩)], 107⟩).bind Kst = (dbd_Part_L1 k a0 a1 K0 m x16 x17).map dbd_Part_fin := by
  intro m
  induction m with
  | zero => intros; rfl
  | succ m ih =>
    intro x16 x17
    unfold dbd_Part_L1
    refine Eq.trans k_round ?_
    refine Eq.trans (k_region0 rfl (f26r6 k a0 a1 x16 x17)) ?_
    refine Eq.trans (k_cond (t := (decide (x16 < (a1.length : Int)))) rfl) ?_
    refine bifE2 (fun hc => ?_) fun hc => ?_
    · rw [hc]
      refine Eq.trans k_skip ?_
      refine Eq.trans k_block ?_
      refine Eq.trans (k_region rfl (f26r7 k a0 a1 x16 x17)) ?_
      refine bindE (fun o19 => ?_)
      refine Eq.trans (k_region rfl (f26r8 k a0 a1 x16 x17 o19)) ?_
      refine bindE (fun o23 => ?_)
      refine Eq.trans k_assoc ?_
      refine Eq.trans (k_region rfl (f26r9 k a0 a1 x16 x17 o19 o23)) ?_
      refine bindE (fun o26 => ?_)
      refine Eq.trans (k_cond (t := o26) rfl) ?_
      refine bifE2 (fun hc => ?_) fun hc => ?_
      · rw [hc]
        refine Eq.trans k_assoc ?_
        refine Eq.trans (k_region0 rfl (f26r10 k a0 a1 x16 x17 o19 o23)) ?_
        refine Eq.trans k_ret ?_
        refine Eq.trans blk_ret ?_
        refine Eq.trans loop_ret ?_
        refine Eq.trans (hret _) ?_
        rfl
      · rw [hc]
        refine Eq.trans k_skip ?_
        refine Eq.trans (k_lregion rfl (f26r11 k a0 a1 x16 x17 o19 o23)) ?_
        refine bindE (fun o30 => ?_)
        refine Eq.trans blk_normal ?_
        refine Eq.trans (k_lregion0 rfl (f26r12 k a0 a1 x16 o30)) ?_
        refine Eq.trans loop_normal ?_
        exact ih (Go.IntKind.wrap .i64 (x16 + 1)) o30
    · rw [hc]
      refine Eq.trans k_exit ?_
      refine Eq.trans loop_exit ?_
      exact hK0 x16 x17
theorem f26r13 (k : Nat) (a0 : T_api_Base) (a1 : (List Int)) (y31 : Int) (y32 : (List T_api_Type)) : RE k f26a13 f26o13 false ⟨[(1, (sI a1)), (2, (V.ptr 2 0 0)), (4, (V.ptr 4 0 0)), (7, (V.ptr 7 0 0)), (26, (sI a1)), (27, (I (a1.length : Int))), (28, (I y31)), (29, (V.bool false))], [(2, ⟨false, 4, [(enc_T_api_Base a0)]⟩), (4, ⟨false, 4, [(V.agg [(V.str []), (I 0), (V.sl 2 8 (List.map enc_T_api_Type ([] : List T_api_Type))), (V.sl 2 4 (List.map enc_T_api_Search ([] : List T_api_Search)))])]⟩), (7, ⟨false, 4, [(V.agg [(V.str a0.fName), (I a0.fKind), (V.sl 1 8 (List.map enc_T_api_Type y32)), (V.sl 1 4 (List.map enc_T_api_Search ([] : List T_api_Search)))])]⟩)], 107⟩ = some ⟨[(1, (sI a1)), (2, (V.ptr 2 0 0)), (4, (V.ptr 4 0 0)), (7, (V.ptr 7 0 0)), (82, (V.bool ((a1.length : Int) == 0)))], [(2, ⟨false, 4, [(enc_T_api_Base a0)]⟩), (4, ⟨false, 4, [(V.agg [(V.str []), (I 0), (V.sl 2 8 (List.map enc_T_api_Type ([] : List T_api_Type))), (V.sl 2 4 (List.map enc_T_api_Search ([] : List T_api_Search)))])]⟩), (7, ⟨false, 4, [(V.agg [(V.str a0.fName), (I a0.fKind), (V.sl 1 8 (List.map enc_T_api_Type y32)), (V.sl 1 4 (List.map enc_T_api_Search ([] : List T_api_Search)))])]⟩)], 107⟩ := by
  refine rg ?_
  refine ra 1 1 ⟨[(1, (sI a1)), (2, (V.ptr 2 0 0)), (4, (V.ptr 4 0 0)), (7, (V.ptr 7 0 0)), (26, (sI a1)), (27, (I (a1.length : Int))), (28, (I y31)), (29, (V.bool false)), (80, (sI a1))], [(2, ⟨false, 4, [(enc_T_api_Base a0)]⟩), (4, ⟨false, 4, [(V.agg [(V.str []), (I 0), (V.sl 2 8 (List.map enc_T_api_Type ([] : List T_api_Type))), (V.sl 2 4 (List.map enc_T_api_Search ([] : List T_api_Search)))])]⟩), (7, ⟨false, 4, [(V.agg [(V.str a0.fName), (I a0.fKind), (V.sl 1 8 (List.map enc_T_api_Type y32)), (V.sl 1 4 (List.map enc_T_api_Search ([] : List T_api_Search)))])]⟩)], 107⟩ rfl rfl rfl ?_
  refine Eq.trans (reg_pure (x := some ()) (w := fun _ => (I (a1.length : Int))) rfl rfl rfl rfl (p_len (e := I) rfl rfl rfl rfl rfl rfl Go.Proofs.Try.underlying28)) ?_
  refine Eq.trans some_bind ?_
  exact bind_end rfl
theorem f26r14 (k : Nat) (a0 : T_api_Base) (a1 : (List Int)) (y32 : (List T_api_Type)) : RE k f26a14 f26o14 false ⟨[(1, (sI a1)), (2, (V.ptr 2 0 0)), (4, (V.ptr 4 0 0)), (7, (V.ptr 7 0 0)), (82, (V.bool true))], [(2, ⟨false, 4, [(enc_T_api_Base a0)]⟩), (4, ⟨false, 4, [(V.agg [(V.str []), (I 0), (V.sl 2 8 (List.map enc_T_api_Type ([] : List T_api_Type))), (V.sl 2 4 (List.map enc_T_api_Search ([] : List T_api_Search)))])]⟩), (7, ⟨false, 4, [(V.agg [(V.str a0.fName), (I a0.fKind), (V.sl 1 8 (List.map enc_T_api_Type y32)), (V.sl 1 4 (List.map enc_T_api_Search ([] : List T_api_Search)))])]⟩)], 107⟩ = some ⟨[(4, (V.ptr 4 0 0)), (5, (I 2))], [(4, ⟨false, 4, [(enc_T_api_Base ({ fName := [], fKind := 0, fTypes := ([] : List T_api_Type), fIndexes := ([] : List T_api_Search) } : T_api_Base))]⟩)], 107⟩ :=
  rE rfl
theorem f26r15 (k : Nat) (a0 : T_api_Base) (a1 : (List Int)) (y32 : (List T_api_Type)) : RE k f26a15 f26o15 false ⟨[(1, (sI a1)), (2, (V.ptr 2 0 0)), (4, (V.ptr 4 0 0)), (7, (V.ptr 7 0 0)), (82, (V.bool false))], [(2, ⟨false, 4, [(enc_T_api_Base a0)]⟩), (4, ⟨false, 4, [(V.agg [(V.str []), (I 0), (V.sl 2 8 (List.map enc_T_api_Type ([] : List T_api_Type))), (V.sl 2 4 (List.map enc_T_api_Search ([] : List T_api_Search)))])]⟩), (7, ⟨false, 4, [(V.agg [(V.str a0.fName), (I a0.fKind), (V.sl 1 8 (List.map enc_T_api_Type y32)), (V.sl 1 4 (List.map enc_T_api_Search ([] : List T_api_Search)))])]⟩)], 107⟩ = some ⟨[(1, (sI a1)), (4, (V.ptr 4 0 0)), (7, (V.ptr 7 0 0)), (85, (sSearch (a0.fIndexes))), (86, (I (a0.fIndexes.length : Int))), (87, (I 0))], [(4, ⟨false, 4, [(V.agg [(V.str []), (I 0), (V.sl 2 8 (List.map enc_T_api_Type ([] : List T_api_Type))), (V.sl 2 4 (List.map enc_T_api_Search ([] : List T_api_Search)))])]⟩), (7, ⟨false, 4, [(V.agg [(V.str a0.fName), (I a0.fKind), (V.sl 1 8 (List.map enc_T_api_Type y32)), (V.sl 1 4 (List.map enc_T_api_Search ([] : List T_api_Search)))])]⟩)], 107⟩ := by
  refine rg ?_
  refine ra 2 2 ⟨[(1, (sI a1)), (2, (V.ptr 2 0 0)), (4, (V.ptr 4 0 0)), (7, (V.ptr 7 0 0)), (82, (V.bool false)), (84, (V.ptr 2 0 3)), (85, (sSearch (a0.fIndexes)))], [(2, ⟨false, 4, [(enc_T_api_Base a0)]⟩), (4, ⟨false, 4, [(V.agg [(V.str []), (I 0), (V.sl 2 8 (List.map enc_T_api_Type ([] : List T_api_Type))), (V.sl 2 4 (List.map enc_T_api_Search ([] : List T_api_Search)))])]⟩), (7, ⟨false, 4, [(V.agg [(V.str a0.fName), (I a0.fKind), (V.sl 1 8 (List.map enc_T_api_Type y32)), (V.sl 1 4 (List.map enc_T_api_Search ([] : List T_api_Search)))])]⟩)], 107⟩ rfl rfl rfl ?_
  refine Eq.trans (reg_pure (x := some ()) (w := fun _ => (I (a0.fIndexes.length : Int))) rfl rfl rfl rfl (p_len (e := enc_T_api_Search) rfl rfl rfl rfl rfl rfl Go.Proofs.Try.underlying23)) ?_
  refine Eq.trans some_bind ?_
  exact bind_end rfl
theorem f26r16 (k : Nat) (a0 : T_api_Base) (a1 : (List Int)) (y32 : (List T_api_Type)) (x39 : Int) (x40 : (List T_api_Search)) : RE k f26a16 f26o16 false ⟨[(1, (sI a1)), (4, (V.ptr 4 0 0)), (7, (V.ptr 7 0 0)), (85, (sSearch (a0.fIndexes))), (86, (I (a0.fIndexes.length : Int))), (87, (I x39))], [(4, ⟨false, 4, [(V.agg [(V.str []), (I 0), (V.sl 2 8 (List.map enc_T_api_Type ([] : List T_api_Type))), (V.sl 2 4 (List.map enc_T_api_Search ([] : List T_api_Search)))])]⟩), (7, ⟨false, 4, [(V.agg [(V.str a0.fName), (I a0.fKind), (V.sl 1 8 (List.map enc_T_api_Type y32)), (V.sl 1 4 (List.map enc_T_api_Search x40))])]⟩)], 107⟩ = some ⟨[(1, (sI a1)), (4, (V.ptr 4 0 0)), (7, (V.ptr 7 0 0)), (85, (sSearch (a0.fIndexes))), (86, (I (a0.fIndexes.length : Int))), (87, (I x39)), (88, (V.bool (decide (x39 < (a0.fIndexes.length : Int)))))], [(4, ⟨false, 4, [(V.agg [(V.str []), (I 0), (V.sl 2 8 (List.map enc_T_api_Type ([] : List T_api_Type))), (V.sl 2 4 (List.map enc_T_api_Search ([] : List T_api_Search)))])]⟩), (7, ⟨false, 4, [(V.agg [(V.str a0.fName), (I a0.fKind), (V.sl 1 8 (List.map enc_T_api_Type y32)), (V.sl 1 4 (List.map enc_T_api_Search x40))])]⟩)], 107⟩ :=
  rE rfl
theorem f26r17 (k : Nat) (a0 : T_api_Base) (a1 : (List Int)) (y32 : (List T_api_Type)) (x39 : Int) (x40 : (List T_api_Search)) : RE k f26a17 f26o17 false ⟨[(1, (sI a1)), (4, (V.ptr 4 0 0)), (7, (V.ptr 7 0 0)), (85, (sSearch (a0.fIndexes))), (86, (I (a0.fIndexes.length : Int))), (87, (I x39)), (88, (V.bool true))], [(4, ⟨false, 4, [(V.agg [(V.str []), (I 0), (V.sl 2 8 (List.map enc_T_api_Type ([] : List T_api_Type))), (V.sl 2 4 (List.map enc_T_api_Search ([] : List T_api_Search)))])]⟩), (7, ⟨false, 4, [(V.agg [(V.str a0.fName), (I a0.fKind), (V.sl 1 8 (List.map enc_T_api_Type y32)), (V.sl 1 4 (List.map enc_T_api_Search x40))])]⟩)], 107⟩ = ((idx a0.fIndexes x39)).map (fun (o : T_api_Search) => (⟨[(1, (sI a1)), (4, (V.ptr 4 0 0)), (7, (V.ptr 7 0 0)), (12, (V.ptr 12 0 0)), (85, (sSearch (a0.fIndexes))), (86, (I (a0.fIndexes.length : Int))), (87, (I x39))], [(4, ⟨false, 4, [(V.agg [(V.str []), (I 0), (V.sl 2 8 (List.map enc_T_api_Type ([] : List T_api_Type))), (V.sl 2 4 (List.map enc_T_api_Search ([] : List T_api_Search)))])]⟩), (7, ⟨false, 4, [(V.agg [(V.str a0.fName), (I a0.fKind), (V.sl 1 8 (List.map enc_T_api_Type y32)), (V.sl 1 4 (List.map enc_T_api_Search x40))])]⟩), (12, ⟨false, 4, [(enc_T_api_Search o)]⟩)], 107⟩ : St)) := by
  refine rg ?_
  refine Eq.trans (reg_pure (x := (idx a0.fIndexes x39)) (w := fun v41 => (V.pro (enc_T_api_Search v41))) rfl rfl rfl rfl (p_index (e := enc_T_api_Search) rfl rfl rfl Go.Proofs.Try.underlying23 rfl (by decide))) ?_
  refine bind_self (fun v41 => ?_)
  exact bind_end rfl
theorem f26r18 (k : Nat) (a0 : T_api_Base) (a1 : (List Int)) (y32 : (List T_api_Type)) (x39 : Int) (x40 : (List T_api_Search)) (o42 : T_api_Search) : RE k f26a18 f26o18 false ⟨[(1, (sI a1)), (4, (V.ptr 4 0 0)), (7, (V.ptr 7 0 0)), (12, (V.ptr 12 0 0)), (85, (sSearch (a0.fIndexes))), (86, (I (a0.fIndexes.length : Int))), (87, (I x39))], [(4, ⟨false, 4, [(V.agg [(V.str []), (I 0), (V.sl 2 8 (List.map enc_T_api_Type ([] : List T_api_Type))), (V.sl 2 4 (List.map enc_T_api_Search ([] : List T_api_Search)))])]⟩), (7, ⟨false, 4, [(V.agg [(V.str a0.fName), (I a0.fKind), (V.sl 1 8 (List.map enc_T_api_Type y32)), (V.sl 1 4 (List.map enc_T_api_Search x40))])]⟩), (12, ⟨false, 4, [(enc_T_api_Search o42)]⟩)], 107⟩ = ((slices_Index_int k a1 o42.fType)).map (fun (o : Int) => (⟨[(1, (sI a1)), (4, (V.ptr 4 0 0)), (7, (V.ptr 7 0 0)), (12, (V.ptr 12 0 0)), (13, (I o)), (85, (sSearch (a0.fIndexes))), (86, (I (a0.fIndexes.length : Int))), (87, (I x39))], [(4, ⟨false, 4, [(V.agg [(V.str []), (I 0), (V.sl 2 8 (List.map enc_T_api_Type ([] : List T_api_Type))), (V.sl 2 4 (List.map enc_T_api_Search ([] : List T_api_Search)))])]⟩), (7, ⟨false, 4, [(V.agg [(V.str a0.fName), (I a0.fKind), (V.sl 1 8 (List.map enc_T_api_Type y32)), (V.sl 1 4 (List.map enc_T_api_Search x40))])]⟩), (12, ⟨false, 4, [(enc_T_api_Search o42)]⟩)], 107⟩ : St)) := by
  refine rg ?_
  refine ra 3 3 ⟨[(1, (sI a1)), (4, (V.ptr 4 0 0)), (7, (V.ptr 7 0 0)), (12, (V.ptr 12 0 0)), (85, (sSearch (a0.fIndexes))), (86, (I (a0.fIndexes.length : Int))), (87, (I x39)), (91, (sI a1)), (92, (V.ptr 12 0 1)), (93, (I o42.fType))], [(4, ⟨false, 4, [(V.agg [(V.str []), (I 0), (V.sl 2 8 (List.map enc_T_api_Type ([] : List T_api_Type))), (V.sl 2 4 (List.map enc_T_api_Search ([] : List T_api_Search)))])]⟩), (7, ⟨false, 4, [(V.agg [(V.str a0.fName), (I a0.fKind), (V.sl 1 8 (List.map enc_T_api_Type y32)), (V.sl 1 4 (List.map enc_T_api_Search x40))])]⟩), (12, ⟨false, 4, [(enc_T_api_Search o42)]⟩)], 107⟩ rfl rfl rfl ?_
  refine Eq.trans (reg_pure (x := (slices_Index_int k a1 o42.fType)) (w := fun v43 => (I v43)) rfl rfl rfl rfl (p_call rfl rfl rfl rfl rfl (slices_Index_int_ok k a1 o42.fType) (.inl rfl))) ?_
  refine bind_self (fun v43 => ?_)
  exact bind_end rfl
theorem f26r19 (k : Nat) (a0 : T_api_Base) (a1 : (List Int)) (y32 : (List T_api_Type)) (x39 : Int) (x40 : (List T_api_Search)) (o42 : T_api_Search) (o44 : Int) : RE k f26a19 f26o19 false ⟨[(1, (sI a1)), (4, (V.ptr 4 0 0)), (7, (V.ptr 7 0 0)), (12, (V.ptr 12 0 0)), (13, (I o44)), (85, (sSearch (a0.fIndexes))), (86, (I (a0.fIndexes.length : Int))), (87, (I x39))], [(4, ⟨false, 4, [(V.agg [(V.str []), (I 0), (V.sl 2 8 (List.map enc_T_api_Type ([] : List T_api_Type))), (V.sl 2 4 (List.map enc_T_api_Search ([] : List T_api_Search)))])]⟩), (7, ⟨false, 4, [(V.agg [(V.str a0.fName), (I a0.fKind), (V.sl 1 8 (List.map enc_T_api_Type y32)), (V.sl 1 4 (List.map enc_T_api_Search x40))])]⟩), (12, ⟨false, 4, [(enc_T_api_Search o42)]⟩)], 107⟩ = some ⟨[(1, (sI a1)), (4, (V.ptr 4 0 0)), (7, (V.ptr 7 0 0)), (12, (V.ptr 12 0 0)), (13, (I o44)), (85, (sSearch (a0.fIndexes))), (86, (I (a0.fIndexes.length : Int))), (87, (I x39)), (96, (V.bool (decide (o44 ≥ 0))))], [(4, ⟨false, 4, [(V.agg [(V.str []), (I 0), (V.sl 2 8 (List.map enc_T_api_Type ([] : List T_api_Type))), (V.sl 2 4 (List.map enc_T_api_Search ([] : List T_api_Search)))])]⟩), (7, ⟨false, 4, [(V.agg [(V.str a0.fName), (I a0.fKind), (V.sl 1 8 (List.map enc_T_api_Type y32)), (V.sl 1 4 (List.map enc_T_api_Search x40))])]⟩), (12, ⟨false, 4, [(enc_T_api_Search o42)]⟩)], 107⟩ :=
  rE rfl
theorem f26r20 (k : Nat) (a0 : T_api_Base) (a1 : (List Int)) (y32 : (List T_api_Type)) (x39 : Int) (x40 : (List T_api_Search)) (o42 : T_api_Search) (o44 : Int) : RE k f26a20 f26o20 false ⟨[(1, (sI a1)), (4, (V.ptr 4 0 0)), (7, (V.ptr 7 0 0)), (12, (V.ptr 12 0 0)), (13, (I o44)), (85, (sSearch (a0.fIndexes))), (86, (I (a0.fIndexes.length : Int))), (87, (I x39)), (96, (V.bool true))], [(4, ⟨false, 4, [(V.agg [(V.str []), (I 0), (V.sl 2 8 (List.map enc_T_api_Type ([] : List T_api_Type))), (V.sl 2 4 (List.map enc_T_api_Search ([] : List T_api_Search)))])]⟩), (7, ⟨false, 4, [(V.agg [(V.str a0.fName), (I a0.fKind), (V.sl 1 8 (List.map enc_T_api_Type y32)), (V.sl 1 4 (List.map enc_T_api_Search x40))])]⟩), (12, ⟨false, 4, [(enc_T_api_Search o42)]⟩)], 107⟩ = some ⟨[(1, (sI a1)), (4, (V.ptr 4 0 0)), (7, (V.ptr 7 0 0)), (12, (V.ptr 12 0 0)), (85, (sSearch (a0.fIndexes))), (86, (I (a0.fIndexes.length : Int))), (87, (I x39))], [(4, ⟨false, 4, [(V.agg [(V.str []), (I 0), (V.sl 2 8 (List.map enc_T_api_Type ([] : List T_api_Type))), (V.sl 2 4 (List.map enc_T_api_Search ([] : List T_api_Search)))])]⟩), (7, ⟨false, 4, [(V.agg [(V.str a0.fName), (I a0.fKind), (V.sl 1 8 (List.map enc_T_api_Type y32)), (V.sl 1 4 (List.map enc_T_api_Search x40))])]⟩), (12, ⟨false, 4, [(enc_T_api_Search { o42 with fType := o44 })]⟩)], 107⟩ :=
  rE rfl
theorem f26r21 (k : Nat) (a0 : T_api_Base) (a1 : (List Int)) (y32 : (List T_api_Type)) (x39 : Int) (x40 : (List T_api_Search)) (o42 : T_api_Search) (o44 : Int) : RE k f26a21 f26o21 false ⟨[(1, (sI a1)), (4, (V.ptr 4 0 0)), (7, (V.ptr 7 0 0)), (12, (V.ptr 12 0 0)), (85, (sSearch (a0.fIndexes))), (86, (I (a0.fIndexes.length : Int))), (87, (I x39))], [(4, ⟨false, 4, [(V.agg [(V.str []), (I 0), (V.sl 2 8 (List.map enc_T_api_Type ([] : List T_api_Type))), (V.sl 2 4 (List.map enc_T_api_Search ([] : List T_api_Search)))])]⟩), (7, ⟨false, 4, [(V.agg [(V.str a0.fName), (I a0.fKind), (V.sl 1 8 (List.map enc_T_api_Type y32)), (V.sl 1 4 (List.map enc_T_api_Search x40))])]⟩), (12, ⟨false, 4, [(enc_T_api_Search { o42 with fType := o44 })]⟩)], 107⟩ = ((app x40 ([{ o42 with fType := o44 }] : List T_api_Search))).map (fun (o : (List T_api_Search)) => (⟨[(1, (sI a1)), (4, (V.ptr 4 0 0)), (7, (V.ptr 7 0 0)), (85, (sSearch (a0.fIndexes))), (86, (I (a0.fIndexes.length : Int))), (87, (I x39))], [(4, ⟨false, 4, [(V.agg [(V.str []), (I 0), (V.sl 2 8 (List.map enc_T_api_Type ([] : List T_api_Type))), (V.sl 2 4 (List.map enc_T_api_Search ([] : List T_api_Search)))])]⟩), (7, ⟨false, 4, [(V.agg [(V.str a0.fName), (I a0.fKind), (V.sl 1 8 (List.map enc_T_api_Type y32)), (V.sl 1 4 (List.map enc_T_api_Search o))])]⟩)], 107⟩ : St)) := by
  refine rg ?_
  refine ra 4 4 ⟨[(1, (sI a1)), (4, (V.ptr 4 0 0)), (7, (V.ptr 7 0 0)), (12, (V.ptr 12 0 0)), (85, (sSearch (a0.fIndexes))), (86, (I (a0.fIndexes.length : Int))), (87, (I x39)), (99, (V.ptr 7 0 3)), (100, (V.sl 1 4 (List.map enc_T_api_Search x40))), (101, (enc_T_api_Search { o42 with fType := o44 })), (102, (sSearch (([{ o42 with fType := o44 }] : List T_api_Search))))], [(4, ⟨false, 4, [(V.agg [(V.str []), (I 0), (V.sl 2 8 (List.map enc_T_api_Type ([] : List T_api_Type))), (V.sl 2 4 (List.map enc_T_api_Search ([] : List T_api_Search)))])]⟩), (7, ⟨false, 4, [(V.agg [(V.str a0.fName), (I a0.fKind), (V.sl 1 8 (List.map enc_T_api_Type y32)), (sSearch x40)])]⟩), (12, ⟨false, 4, [(enc_T_api_Search { o42 with fType := o44 })]⟩)], 107⟩ rfl rfl rfl ?_
  refine Eq.trans (reg_eff (x := (app x40 ([{ o42 with fType := o44 }] : List T_api_Search))) (w := fun v45 => ((V.sl 1 4 (List.map enc_T_api_Search v45)), _)) rfl rfl rfl rfl (p_app (e := enc_T_api_Search) rfl rfl rfl rfl rfl rfl rfl rfl rfl rfl (by decide))) ?_
  refine bind_self (fun v45 => ?_)
  exact bind_end rfl
theorem f26r22 (k : Nat) (a0 : T_api_Base) (a1 : (List Int)) (y32 : (List T_api_Type)) (x39 : Int) (o46 : (List T_api_Search)) : RE k f26a22 f26o22 false ⟨[(1, (sI a1)), (4, (V.ptr 4 0 0)), (7, (V.ptr 7 0 0)), (85, (sSearch (a0.fIndexes))), (86, (I (a0.fIndexes.length : Int))), (87, (I x39))], [(4, ⟨false, 4, [(V.agg [(V.str []), (I 0), (V.sl 2 8 (List.map enc_T_api_Type ([] : List T_api_Type))), (V.sl 2 4 (List.map enc_T_api_Search ([] : List T_api_Search)))])]⟩), (7, ⟨false, 4, [(V.agg [(V.str a0.fName), (I a0.fKind), (V.sl 1 8 (List.map enc_T_api_Type y32)), (V.sl 1 4 (List.map enc_T_api_Search o46))])]⟩)], 107⟩ = some ⟨[(1, (sI a1)), (4, (V.ptr 4 0 0)), (7, (V.ptr 7 0 0)), (85, (sSearch (a0.fIndexes))), (86, (I (a0.fIndexes.length : Int))), (87, (I (Go.IntKind.wrap .i64 (x39 + 1))))], [(4, ⟨false, 4, [(V.agg [(V.str []), (I 0), (V.sl 2 8 (List.map enc_T_api_Type ([] : List T_api_Type))), (V.sl 2 4 (List.map enc_T_api_Search ([] : List T_api_Search)))])]⟩), (7, ⟨false, 4, [(V.agg [(V.str a0.fName), (I a0.fKind), (V.sl 1 8 (List.map enc_T_api_Type y32)), (V.sl 1 4 (List.map enc_T_api_Search o46))])]⟩)], 107⟩ :=
  rE rfl
theorem dbd_Part_r22' (k : Nat) (a0 : T_api_Base) (a1 : (List Int)) (y32 : (List T_api_Type)) (x39 : Int) (x40 : (List T_api_Search)) (o42 : T_api_Search) (o44 : Int) : RE k f26a22 f26o22 false ⟨[(1, (sI a1)), (4, (V.ptr 4 0 0)), (7, (V.ptr 7 0 0)), (12, (V.ptr 12 0 0)), (13, (I o44)), (85, (sSearch (a0.fIndexes))), (86, (I (a0.fIndexes.length : Int))), (87, (I x39)), (96, (V.bool false))], [(4, ⟨false, 4, [(V.agg [(V.str []), (I 0), (V.sl 2 8 (List.map enc_T_api_Type ([] : List T_api_Type))), (V.sl 2 4 (List.map enc_T_api_Search ([] : List T_api_Search)))])]⟩), (7, ⟨false, 4, [(V.agg [(V.str a0.fName), (I a0.fKind), (V.sl 1 8 (List.map enc_T_api_Type y32)), (V.sl 1 4 (List.map enc_T_api_Search x40))])]⟩), (12, ⟨false, 4, [(enc_T_api_Search o42)]⟩)], 107⟩ = some ⟨[(1, (sI a1)), (4, (V.ptr 4 0 0)), (7, (V.ptr 7 0 0)), (85, (sSearch (a0.fIndexes))), (86, (I (a0.fIndexes.length : Int))), (87, (I (Go.IntKind.wrap .i64 (x39 + 1))))], [(4, ⟨false, 4, [(V.agg [(V.str []), (I 0), (V.sl 2 8 (List.map enc_T_api_Type ([] : List T_api_Type))), (V.sl 2 4 (List.map enc_T_api_Search ([] : List T_api_Search)))])]⟩), (7, ⟨false, 4, [(V.agg [(V.str a0.fName), (I a0.fKind), (V.sl 1 8 (List.map enc_T_api_Type y32)), (V.sl 1 4 (List.map enc_T_api_Search x40))])]⟩)], 107⟩ :=
  rE rfl
theorem dbd_Part_L2_ok (k : Nat) (a0 : T_api_Base) (a1 : (List Int)) (y32 : (List T_api_Type))  (K0 : Int → (List T_api_Search) → Option (T_api_Base × Int)) (Kst : X × St → Option (V × List V)) (hK0 : ∀ (y0 : Int) (y1 : (List T_api_Search)), Kst (X.exit 2, ⟨[(1, (sI a1)), (4, (V.ptr 4 0 0)), (7, (V.ptr 7 0 0)), (85, (sSearch (a0.fIndexes))), (86, (I (a0.fIndexes.length : Int))), (87, (I y0)), (88, (V.bool false))], [(4, ⟨false, 4, [(V.agg [(V.str []), (I 0), (V.sl 2 8 (List.map enc_T_api_Type ([] : List T_api_Type))), (V.sl 2 4 (List.map enc_T_api_Search ([] : List T_api_Search)))])]⟩), (7, ⟨false, 4, [(V.agg [(V.str a0.fName), (I a0.fKind), (V.sl 1 8 (List.map enc_T_api_Type y32)), (V.sl 1 4 (List.map enc_T_api_Search y1))])]⟩)], 107⟩) = (K0 y0 y1).map dbd_Part_fin) (hret : ∀ s, Kst (X.ret, s) = endK prog 107 [(enc_T_api_Base a0), (sI a1)] [] [.cell 4 25, .tmp 5] (X.ret, s)) :
    ∀ (m : Nat) (x39 : Int) (x40 : (List T_api_Search)), (iter (exec prog (EV k) f26n k f26b1) m ⟨[(1, (sI a1)), (4, (V.ptr 4 0 0)), (7, (V.ptr 7 0 0)), (85, (sSearch (a0.fIndexes))), (86, (I (a0.fIndexes.length : Int))), (87, (I x39))], [(4, ⟨false, 4, [(V.agg [(V.str []), (I 0), (V.sl 2 8 (List.map enc_T_api_Type ([] : List T_api_Type))), (V.sl 2 4 (List.map enc_T_api_Search ([] : List T_api_Search)))])]⟩), (7, ⟨false, 4, [(V.agg [(V.str a0.fName), (I a0.fKind), (V.sl 1 8 (List.map enc_T_api_Type y32)), (V.sl 1 4 (List.map enc_T_api_Search x40))])]⟩)], 107⟩).bind Kst = (dbd_Part_L2 k a0 a1 K0 m x39 x40).map dbd_Part_fin := by
  intro m
  induction m with
  | zero => intros; rfl
  | succ m ih =>
    intro x39 x40
    unfold dbd_Part_L2
    refine Eq.trans k_round ?_
    refine Eq.trans (k_region0 rfl (f26r16 k a0 a1 y32 x39 x40)) ?_
    refine Eq.trans (k_cond (t := (decide (x39 < (a0.fIndexes.length : Int)))) rfl) ?_
    refine bifE2 (fun hc => ?_) fun hc => ?_
    · rw [hc]
      refine Eq.trans k_skip ?_
      refine Eq.trans k_block ?_
      refine Eq.trans (k_region rfl (f26r17 k a0 a1 y32 x39 x40)) ?_
      refine bindE (fun o42 => ?_)
      refine Eq.trans (k_region rfl (f26r18 k a0 a1 y32 x39 x40 o42)) ?_
      refine bindE (fun o44 => ?_)
      refine Eq.trans (k_region0 rfl (f26r19 k a0 a1 y32 x39 x40 o42 o44)) ?_
      refine Eq.trans (k_lcond (t := (decide (o44 ≥ 0))) rfl) ?_
      refine bifE2 (fun hc => ?_) fun hc => ?_
      · rw [hc]
        refine Eq.trans (k_region0 rfl (f26r20 k a0 a1 y32 x39 x40 o42 o44)) ?_
        refine Eq.trans (k_lregion rfl (f26r21 k a0 a1 y32 x39 x40 o42 o44)) ?_
        refine bindE (fun o46 => ?_)
        refine Eq.trans blk_normal ?_
        refine Eq.trans (k_lregion0 rfl (f26r22 k a0 a1 y32 x39 o46)) ?_
        refine Eq.trans loop_normal ?_
        exact ih (Go.IntKind.wrap .i64 (x39 + 1)) o46
      · rw [hc]
        refine Eq.trans k_lskip ?_
        refine Eq.trans blk_normal ?_
        refine Eq.trans (k_lregion0 rfl (dbd_Part_r22' k a0 a1 y32 x39 x40 o42 o44)) ?_
        refine Eq.trans loop_normal ?_
        exact ih (Go.IntKind.wrap .i64 (x39 + 1)) x40
    · rw [hc]
      refine Eq.trans k_exit ?_
      refine Eq.trans loop_exit ?_
      exact hK0 x39 x40
theorem f26r23 (k : Nat) (a0 : T_api_Base) (a1 : (List Int)) (y32 : (List T_api_Type)) (y47 : Int) (y48 : (List T_api_Search)) : RE k f26a23 f26o23 false ⟨[(1, (sI a1)), (4, (V.ptr 4 0 0)), (7, (V.ptr 7 0 0)), (85, (sSearch (a0.fIndexes))), (86, (I (a0.fIndexes.length : Int))), (87, (I y47)), (88, (V.bool false))], [(4, ⟨false, 4, [(V.agg [(V.str []), (I 0), (V.sl 2 8 (List.map enc_T_api_Type ([] : List T_api_Type))), (V.sl 2 4 (List.map enc_T_api_Search ([] : List T_api_Search)))])]⟩), (7, ⟨false, 4, [(V.agg [(V.str a0.fName), (I a0.fKind), (V.sl 1 8 (List.map enc_T_api_Type y32)), (V.sl 1 4 (List.map enc_T_api_Search y48))])]⟩)], 107⟩ = some ⟨[(4, (V.ptr 4 0 0)), (5, (I 0))], [(4, ⟨false, 4, [(enc_T_api_Base ({ fName := a0.fName, fKind := a0.fKind, fTypes := y32, fIndexes := y48 } : T_api_Base))]⟩)], 107⟩ :=
  rE rfl
theorem dbd_Part_ok (k : Nat) (a0 : T_api_Base) (a1 : (List Int)) : EV k 26 [(enc_T_api_Base a0), (sI a1)] = (dbd_Part k a0 a1).map dbd_Part_fin := by
  cases k with
  | zero => rfl
  | succ k =>
    unfold dbd_Part
    refine Eq.trans (evF_succ (c := f26c) (N := 107) (regs := f26n) rfl Go.Proofs.Try.func26 rfl (by decide) rfl rfl rfl) ?_
    refine Eq.trans (k_region0 rfl (f26r0 k a0 a1)) ?_
    refine Eq.trans k_assoc ?_
    refine Eq.trans (k_region rfl (f26r1 k a0 a1)) ?_
    refine bindE (fun o2 => ?_)
    refine Eq.trans k_assoc ?_
    refine Eq.trans (k_region0 rfl (f26r2 k a0 a1 o2)) ?_
    refine Eq.trans (k_cond (t := (o2 != 0)) rfl) ?_
    refine bifE2 (fun hc => ?_) fun hc => ?_
    · rw [hc]
      refine Eq.trans k_assoc ?_
      refine Eq.trans (k_region0 rfl (f26r3 k a0 a1 o2)) ?_
      refine Eq.trans k_ret ?_
      rfl
    · rw [hc]
      refine Eq.trans k_skip ?_
      refine Eq.trans (k_region0 rfl (f26r4 k a0 a1 o2)) ?_
      refine Eq.trans k_assoc ?_
      refine Eq.trans (k_region0 rfl (f26r5 k a0 a1)) ?_
      refine Eq.trans k_block ?_
      refine Eq.trans k_loop ?_
      refine dbd_Part_L1_ok k a0 a1 _ _ ?h_dbd_Part_L1_0 ?hr_dbd_Part_L1 k 0 ([] : List T_api_Type)
      · intro y31 y32
        refine Eq.trans blk_exit ?_
        refine Eq.trans k_assoc ?_
        refine Eq.trans (k_region0 rfl (f26r13 k a0 a1 y31 y32)) ?_
        refine Eq.trans (k_cond (t := ((a1.length : Int) == 0)) rfl) ?_
        refine bifE2 (fun hc => ?_) fun hc => ?_
        · rw [hc]
          refine Eq.trans k_assoc ?_
          refine Eq.trans (k_region0 rfl (f26r14 k a0 a1 y32)) ?_
          refine Eq.trans k_ret ?_
          rfl
        · rw [hc]
          refine Eq.trans k_skip ?_
          refine Eq.trans k_assoc ?_
          refine Eq.trans (k_region0 rfl (f26r15 k a0 a1 y32)) ?_
          refine Eq.trans k_block ?_
          refine Eq.trans k_loop ?_
          refine dbd_Part_L2_ok k a0 a1 y32 _ _ ?h_dbd_Part_L2_0 ?hr_dbd_Part_L2 k 0 ([] : List T_api_Search)
          · intro y47 y48
            refine Eq.trans blk_exit ?_
            refine Eq.trans (k_region0 rfl (f26r23 k a0 a1 y32 y47 y48)) ?_
            refine Eq.trans k_lret ?_
            rfl
          · intro s; exact rfl
      · intro s; exact rfl
def ref11_IsName_fin : Bool → V × List V := fun r => ((V.bool r), [])
theorem f59r0 (k : Nat) (a0 : Str) : RE k f59a0 f59o0 false ⟨[(0, (V.str a0))], [], 47⟩ = some ⟨[(0, (V.str a0))], [], 47⟩ :=
  rE rfl
theorem f59r1 (k : Nat) (a0 : Str) : RE k f59a1 f59o1 false ⟨[(0, (V.str a0))], [], 47⟩ = some ⟨[(0, (V.str a0)), (3, (I 0))], [], 47⟩ :=
  rE rfl
theorem f59r2 (k : Nat) (a0 : Str) (x7 : Int) : RE k f59a2 f59o2 false ⟨[(0, (V.str a0)), (3, (I x7))], [], 47⟩ = some ⟨[(0, (V.str a0)), (3, (I x7)), (8, (V.bool (decide (x7 < (a0.length : Int)))))], [], 47⟩ :=
  rE rfl
theorem f59r4 (k : Nat) (a0 : Str) (x7 : Int) : RE k f59a4 f59o4 false ⟨[(0, (V.str a0)), (3, (I x7)), (8, (V.bool true))], [], 47⟩ = (((idxS a0 x7).bind fun v8 => (bif (decide (v8 ≥ 65)) then ((idxS a0 x7).bind fun v9 => (some ((decide (v9 ≤ 90))))) else (some (false))))).map (fun (o : Bool) => (⟨[(0, (V.str a0)), (3, (I x7)), (4, (V.bool o))], [], 47⟩ : St)) := by
  refine rg ?_
  refine ra 2 2 ⟨[(0, (V.str a0)), (3, (I x7)), (8, (V.bool true)), (11, (V.str a0)), (12, (I x7))], [], 47⟩ rfl rfl rfl ?_
  refine Eq.trans (reg_pure (x := (idxS a0 x7)) (w := fun v8 => (V.int .u8 v8)) rfl rfl rfl rfl (p_indexS rfl rfl rfl Go.Proofs.Try.underlying9)) ?_
  refine bindE (fun v8 => ?_)
  refine ba 2 5 ⟨[(0, (V.str a0)), (3, (I x7)), (8, (V.bool true)), (11, (V.str a0)), (12, (I x7)), (13, (V.int .u8 v8)), (14, (V.bool (decide (v8 ≥ 65)))), (15, (V.bool (decide (v8 ≥ 65))))], [], 47⟩ rfl rfl rfl ?_
  refine bifE (c := (decide (v8 ≥ 65))) (fun hc => ?_) fun hc => ?_
  · rw [hc]
    refine ra 2 7 ⟨[(0, (V.str a0)), (3, (I x7)), (8, (V.bool true)), (11, (V.str a0)), (12, (I x7)), (13, (V.int .u8 v8)), (14, (V.bool true)), (15, (V.bool true)), (16, (V.str a0)), (17, (I x7))], [], 47⟩ rfl rfl rfl ?_
    refine Eq.trans (reg_pure (x := (idxS a0 x7)) (w := fun v9 => (V.int .u8 v9)) rfl rfl rfl rfl (p_indexS rfl rfl rfl Go.Proofs.Try.underlying9)) ?_
    refine bindE (fun v9 => ?_)
    exact bind_end rfl
  · rw [hc]
    exact reg_end rfl
theorem f59r5 (k : Nat) (a0 : Str) (x7 : Int) (o10 : Bool) : RE k f59a5 f59o5 false ⟨[(0, (V.str a0)), (3, (I x7)), (4, (V.bool o10))], [], 47⟩ = ((bif (!o10) then (bif (x7 == 0) then (some (true)) else ((idxS a0 x7).bind fun v11 => (bif (decide (v11 < 48)) then (some (true)) else ((idxS a0 x7).bind fun v12 => (some ((decide (v12 > 57)))))))) else (some (false)))).map (fun (o : Bool) => (⟨[(0, (V.str a0)), (3, (I x7)), (38, (V.bool o))], [], 47⟩ : St)) := by
  refine rg ?_
  refine ra 3 3 ⟨[(0, (V.str a0)), (3, (I x7)), (4, (V.bool o10)), (21, (V.bool o10)), (22, (V.bool (!o10))), (23, (V.bool (!o10)))], [], 47⟩ rfl rfl rfl ?_
  refine bifE (c := (!o10)) (fun hc => ?_) fun hc => ?_
  · rw [hc]
    refine ra 3 6 ⟨[(0, (V.str a0)), (3, (I x7)), (4, (V.bool o10)), (21, (V.bool o10)), (22, (V.bool true)), (23, (V.bool true)), (24, (I x7)), (25, (V.bool (x7 == 0))), (26, (V.bool (x7 == 0)))], [], 47⟩ rfl rfl rfl ?_
    refine bifE (c := (x7 == 0)) (fun hc => ?_) fun hc => ?_
    · rw [hc]
      exact reg_end rfl
    · rw [hc]
      refine ra 2 8 ⟨[(0, (V.str a0)), (3, (I x7)), (4, (V.bool o10)), (21, (V.bool o10)), (22, (V.bool true)), (23, (V.bool true)), (24, (I x7)), (25, (V.bool false)), (26, (V.bool false)), (27, (V.str a0)), (28, (I x7))], [], 47⟩ rfl rfl rfl ?_
      refine Eq.trans (reg_pure (x := (idxS a0 x7)) (w := fun v11 => (V.int .u8 v11)) rfl rfl rfl rfl (p_indexS rfl rfl rfl Go.Proofs.Try.underlying9)) ?_
      refine bindE (fun v11 => ?_)
      refine ba 3 12 ⟨[(0, (V.str a0)), (3, (I x7)), (4, (V.bool o10)), (21, (V.bool o10)), (22, (V.bool true)), (23, (V.bool true)), (24, (I x7)), (25, (V.bool false)), (26, (V.bool false)), (27, (V.str a0)), (28, (I x7)), (29, (V.int .u8 v11)), (30, (V.bool (decide (v11 < 48)))), (31, (V.bool (decide (v11 < 48)))), (32, (V.bool (decide (v11 < 48))))], [], 47⟩ rfl rfl rfl ?_
      refine bifE (c := (decide (v11 < 48))) (fun hc => ?_) fun hc => ?_
      · rw [hc]
        exact reg_end rfl
      · rw [hc]
        refine ra 2 14 ⟨[(0, (V.str a0)), (3, (I x7)), (4, (V.bool o10)), (21, (V.bool o10)), (22, (V.bool true)), (23, (V.bool true)), (24, (I x7)), (25, (V.bool false)), (26, (V.bool false)), (27, (V.str a0)), (28, (I x7)), (29, (V.int .u8 v11)), (30, (V.bool false)), (31, (V.bool false)), (32, (V.bool false)), (33, (V.str a0)), (34, (I x7))], [], 47⟩ rfl rfl rfl ?_
        refine Eq.trans (reg_pure (x := (idxS a0 x7)) (w := fun v12 => (V.int .u8 v12)) rfl rfl rfl rfl (p_indexS rfl rfl rfl Go.Proofs.Try.underlying9)) ?_
        refine bindE (fun v12 => ?_)
        exact bind_end rfl
  · rw [hc]
    exact reg_end rfl
theorem f59r6 (k : Nat) (a0 : Str) (x7 : Int) : RE k f59a6 f59o6 false ⟨[(0, (V.str a0)), (3, (I x7)), (38, (V.bool true))], [], 47⟩ = some ⟨[(2, (V.bool false))], [], 47⟩ :=
  rE rfl
theorem f59r3 (k : Nat) (a0 : Str) (x7 : Int) : RE k f59a3 f59o3 false ⟨[(0, (V.str a0)), (3, (I x7)), (38, (V.bool false))], [], 47⟩ = some ⟨[(0, (V.str a0)), (3, (I (Go.IntKind.wrap .i64 (x7 + 1))))], [], 47⟩ :=
  rE rfl
theorem ref11_IsName_L1_ok (k : Nat) (a0 : Str)  (K0 : Int → Option Bool) (Kst : X × St → Option (V × List V)) (hK0 : ∀ (y0 : Int), Kst (X.exit 0, ⟨[(0, (V.str a0)), (3, (I y0)), (8, (V.bool false))], [], 47⟩) = (K0 y0).map ref11_IsName_fin) (hret : ∀ s, Kst (X.ret, s) = endK prog 47 [(V.str a0)] [] [.tmp 2] (X.ret, s)) :
    ∀ (m : Nat) (x7 : Int), (iter (exec prog (EV k) f59n k f59b0) m ⟨[(0, (V.str a0)), (3, (I x7))], [], 47⟩).bind Kst = (ref11_IsName_L1 a0 K0 m x7).map ref11_IsName_fin := by
  intro m
  induction m with
  | zero => intros; rfl
  | succ m ih =>
    intro x7
    unfold ref11_IsName_L1
    refine Eq.trans k_round ?_
    refine Eq.trans k_assoc ?_
    refine Eq.trans (k_region0 rfl (f59r2 k a0 x7)) ?_
    refine Eq.trans (k_cond (t := (decide (x7 < (a0.length : Int)))) rfl) ?_
    refine bifE2 (fun hc => ?_) fun hc => ?_
    · rw [hc]
      refine Eq.trans k_skip ?_
      refine Eq.trans k_block ?_
      refine Eq.trans (k_region rfl (f59r4 k a0 x7)) ?_
      refine bindE (fun o10 => ?_)
      refine Eq.trans (k_region rfl (f59r5 k a0 x7 o10)) ?_
      refine bindE (fun o13 => ?_)
      refine Eq.trans (k_lcond (t := o13) rfl) ?_
      refine bifE2 (fun hc => ?_) fun hc => ?_
      · rw [hc]
        refine Eq.trans (k_region0 rfl (f59r6 k a0 x7)) ?_
        refine Eq.trans k_lret ?_
        refine Eq.trans blk_ret ?_
        refine Eq.trans loop_ret ?_
        refine Eq.trans (hret _) ?_
        rfl
      · rw [hc]
        refine Eq.trans k_lskip ?_
        refine Eq.trans blk_normal ?_
        refine Eq.trans (k_lregion0 rfl (f59r3 k a0 x7)) ?_
        refine Eq.trans loop_normal ?_
        exact ih (Go.IntKind.wrap .i64 (x7 + 1))
    · rw [hc]
      refine Eq.trans k_exit ?_
      refine Eq.trans loop_exit ?_
      exact hK0 x7
theorem f59r7 (k : Nat) (a0 : Str) (y14 : Int) : RE k f59a7 f59o7 false ⟨[(0, (V.str a0)), (3, (I y14)), (8, (V.bool false))], [], 47⟩ = ((bif (decide ((a0.length : Int) ≥ 1)) then (some ((decide ((a0.length : Int) ≤ 8)))) else (some (false)))).map (fun (o : Bool) => (⟨[(2, (V.bool o))], [], 47⟩ : St)) := by
  refine rg ?_
  refine ra 4 4 ⟨[(0, (V.str a0)), (3, (I y14)), (8, (V.bool false)), (39, (V.str a0)), (40, (I (a0.length : Int))), (41, (V.bool (decide ((a0.length : Int) ≥ 1)))), (42, (V.bool (decide ((a0.length : Int) ≥ 1))))], [], 47⟩ rfl rfl rfl ?_
  refine bifE (c := (decide ((a0.length : Int) ≥ 1))) (fun hc => ?_) fun hc => ?_
  · rw [hc]
    exact reg_end rfl
  · rw [hc]
    exact reg_end rfl
theorem ref11_IsName_ok (k : Nat) (a0 : Str) : EV k 59 [(V.str a0)] = (ref11_IsName k a0).map ref11_IsName_fin := by
  cases k with
  | zero => rfl
  | succ k =>
    unfold ref11_IsName
    refine Eq.trans (evF_succ (c := f59c) (N := 47) (regs := f59n) rfl Go.Proofs.Try.func59 rfl (by decide) rfl rfl rfl) ?_
    refine Eq.trans (k_region0 rfl (f59r0 k a0)) ?_
    refine Eq.trans k_assoc ?_
    refine Eq.trans (k_region0 rfl (f59r1 k a0)) ?_
    refine Eq.trans k_block ?_
    refine Eq.trans k_loop ?_
    refine ref11_IsName_L1_ok k a0 _ _ ?h_ref11_IsName_L1_0 ?hr_ref11_IsName_L1 k 0
    · intro y14
      refine Eq.trans blk_exit ?_
      refine Eq.trans (k_region rfl (f59r7 k a0 y14)) ?_
      refine bindE (fun o15 => ?_)
      refine Eq.trans k_lret ?_
      rfl
    · intro s; exact rfl
def ref11_fields_fin : Bool → V × List V := fun r => ((V.bool r), [])
theorem f60r0 (k : Nat) (a0 : T_api_Type) : RE k f60a0 f60o0 false ⟨[(0, (enc_T_api_Type a0))], [], 112⟩ = some ⟨[(1, (V.ptr 1 0 0))], [(1, ⟨false, 8, [(enc_T_api_Type a0)]⟩)], 112⟩ :=
  rE rfl
theorem f60r1 (k : Nat) (a0 : T_api_Type) : RE k f60a1 f60o1 false ⟨[(1, (V.ptr 1 0 0))], [(1, ⟨false, 8, [(enc_T_api_Type a0)]⟩)], 112⟩ = some ⟨[(1, (V.ptr 1 0 0)), (3, (I 0))], [(1, ⟨false, 8, [(enc_T_api_Type a0)]⟩)], 112⟩ :=
  rE rfl
theorem f60r2 (k : Nat) (a0 : T_api_Type) (x11 : Int) : RE k f60a2 f60o2 false ⟨[(1, (V.ptr 1 0 0)), (3, (I x11))], [(1, ⟨false, 8, [(enc_T_api_Type a0)]⟩)], 112⟩ = some ⟨[(1, (V.ptr 1 0 0)), (3, (I x11)), (10, (V.bool (decide (x11 < (a0.fFields.length : Int)))))], [(1, ⟨false, 8, [(enc_T_api_Type a0)]⟩)], 112⟩ := by
  refine rg ?_
  refine ra 3 3 ⟨[(1, (V.ptr 1 0 0)), (3, (I x11)), (6, (I x11)), (7, (V.ptr 1 0 4)), (8, (sField (a0.fFields)))], [(1, ⟨false, 8, [(enc_T_api_Type a0)]⟩)], 112⟩ rfl rfl rfl ?_
  refine Eq.trans (reg_pure (x := some ()) (w := fun _ => (I (a0.fFields.length : Int))) rfl rfl rfl rfl (p_len (e := enc_T_api_Field) rfl rfl rfl rfl rfl rfl Go.Proofs.Try.underlying53)) ?_
  refine Eq.trans some_bind ?_
  exact bind_end rfl
theorem f60r4 (k : Nat) (a0 : T_api_Type) (x11 : Int) : RE k f60a4 f60o4 false ⟨[(1, (V.ptr 1 0 0)), (3, (I x11)), (10, (V.bool true))], [(1, ⟨false, 8, [(enc_T_api_Type a0)]⟩)], 112⟩ = ((idx a0.fFields x11)).map (fun (o : T_api_Field) => (⟨[(1, (V.ptr 1 0 0)), (3, (I x11)), (4, (V.ptr 4 0 0))], [(1, ⟨false, 8, [(enc_T_api_Type a0)]⟩), (4, ⟨false, 3, [(enc_T_api_Field o)]⟩)], 112⟩ : St)) := by
  refine rg ?_
  refine ra 3 3 ⟨[(1, (V.ptr 1 0 0)), (3, (I x11)), (10, (V.bool true)), (13, (V.ptr 1 0 4)), (14, (sField (a0.fFields))), (15, (I x11))], [(1, ⟨false, 8, [(enc_T_api_Type a0)]⟩)], 112⟩ rfl rfl rfl ?_
  refine Eq.trans (reg_pure (x := (idx a0.fFields x11)) (w := fun v12 => (V.pro (enc_T_api_Field v12))) rfl rfl rfl rfl (p_index (e := enc_T_api_Field) rfl rfl rfl Go.Proofs.Try.underlying53 rfl (by decide))) ?_
  refine bind_self (fun v12 => ?_)
  exact bind_end rfl
theorem f60r5 (k : Nat) (a0 : T_api_Type) (x11 : Int) (o13 : T_api_Field) : RE k f60a5 f60o5 false ⟨[(1, (V.ptr 1 0 0)), (3, (I x11)), (4, (V.ptr 4 0 0))], [(1, ⟨false, 8, [(enc_T_api_Type a0)]⟩), (4, ⟨false, 3, [(enc_T_api_Field o13)]⟩)], 112⟩ = (((ref11_IsName k o13.fName).bind fun v14 => (bif (!v14) then (some (true)) else (bif (decide (o13.fAt < 0)) then (some (true)) else (bif (decide (o13.fAt > a0.fSize)) then (some (true)) else (bif (decide (o13.fBytes < 1)) then (some (true)) else (some ((decide (o13.fBytes > (Go.IntKind.wrap .i64 (a0.fSize - o13.fAt)))))))))))).map (fun (o : Bool) => (⟨[(1, (V.ptr 1 0 0)), (3, (I x11)), (4, (V.ptr 4 0 0)), (48, (V.bool o))], [(1, ⟨false, 8, [(enc_T_api_Type a0)]⟩), (4, ⟨false, 3, [(enc_T_api_Field o13)]⟩)], 112⟩ : St)) := by
  refine rg ?_
  refine ra 2 2 ⟨[(1, (V.ptr 1 0 0)), (3, (I x11)), (4, (V.ptr 4 0 0)), (18, (V.ptr 4 0 0)), (19, (V.str o13.fName))], [(1, ⟨false, 8, [(enc_T_api_Type a0)]⟩), (4, ⟨false, 3, [(enc_T_api_Field o13)]⟩)], 112⟩ rfl rfl rfl ?_
  refine Eq.trans (reg_pure (x := (ref11_IsName k o13.fName)) (w := fun v14 => (V.bool v14)) rfl rfl rfl rfl (p_call rfl rfl rfl rfl rfl (ref11_IsName_ok k o13.fName) (.inl rfl))) ?_
  refine bindE (fun v14 => ?_)
  refine ba 2 5 ⟨[(1, (V.ptr 1 0 0)), (3, (I x11)), (4, (V.ptr 4 0 0)), (18, (V.ptr 4 0 0)), (19, (V.str o13.fName)), (20, (V.bool v14)), (21, (V.bool (!v14))), (22, (V.bool (!v14)))], [(1, ⟨false, 8, [(enc_T_api_Type a0)]⟩), (4, ⟨false, 3, [(enc_T_api_Field o13)]⟩)], 112⟩ rfl rfl rfl ?_
  refine bifE (c := (!v14)) (fun hc => ?_) fun hc => ?_
  · rw [hc]
    exact reg_end rfl
  · rw [hc]
    refine ra 5 10 ⟨[(1, (V.ptr 1 0 0)), (3, (I x11)), (4, (V.ptr 4 0 0)), (18, (V.ptr 4 0 0)), (19, (V.str o13.fName)), (20, (V.bool v14)), (21, (V.bool false)), (22, (V.bool false)), (23, (V.ptr 4 0 1)), (24, (I o13.fAt)), (25, (V.bool (decide (o13.fAt < 0)))), (26, (V.bool (decide (o13.fAt < 0)))), (27, (V.bool (decide (o13.fAt < 0))))], [(1, ⟨false, 8, [(enc_T_api_Type a0)]⟩), (4, ⟨false, 3, [(enc_T_api_Field o13)]⟩)], 112⟩ rfl rfl rfl ?_
    refine bifE (c := (decide (o13.fAt < 0))) (fun hc => ?_) fun hc => ?_
    · rw [hc]
      exact reg_end rfl
    · rw [hc]
      refine ra 7 17 ⟨[(1, (V.ptr 1 0 0)), (3, (I x11)), (4, (V.ptr 4 0 0)), (18, (V.ptr 4 0 0)), (19, (V.str o13.fName)), (20, (V.bool v14)), (21, (V.bool false)), (22, (V.bool false)), (23, (V.ptr 4 0 1)), (24, (I o13.fAt)), (25, (V.bool false)), (26, (V.bool false)), (27, (V.bool false)), (28, (V.ptr 4 0 1)), (29, (I o13.fAt)), (30, (V.ptr 1 0 3)), (31, (I a0.fSize)), (32, (V.bool (decide (o13.fAt > a0.fSize)))), (33, (V.bool (decide (o13.fAt > a0.fSize)))), (34, (V.bool (decide (o13.fAt > a0.fSize))))], [(1, ⟨false, 8, [(enc_T_api_Type a0)]⟩), (4, ⟨false, 3, [(enc_T_api_Field o13)]⟩)], 112⟩ rfl rfl rfl ?_
      refine bifE (c := (decide (o13.fAt > a0.fSize))) (fun hc => ?_) fun hc => ?_
      · rw [hc]
        exact reg_end rfl
      · rw [hc]
        refine ra 5 22 ⟨[(1, (V.ptr 1 0 0)), (3, (I x11)), (4, (V.ptr 4 0 0)), (18, (V.ptr 4 0 0)), (19, (V.str o13.fName)), (20, (V.bool v14)), (21, (V.bool false)), (22, (V.bool false)), (23, (V.ptr 4 0 1)), (24, (I o13.fAt)), (25, (V.bool false)), (26, (V.bool false)), (27, (V.bool false)), (28, (V.ptr 4 0 1)), (29, (I o13.fAt)), (30, (V.ptr 1 0 3)), (31, (I a0.fSize)), (32, (V.bool false)), (33, (V.bool false)), (34, (V.bool false)), (35, (V.ptr 4 0 2)), (36, (I o13.fBytes)), (37, (V.bool (decide (o13.fBytes < 1)))), (38, (V.bool (decide (o13.fBytes < 1)))), (39, (V.bool (decide (o13.fBytes < 1))))], [(1, ⟨false, 8, [(enc_T_api_Type a0)]⟩), (4, ⟨false, 3, [(enc_T_api_Field o13)]⟩)], 112⟩ rfl rfl rfl ?_
        refine bifE (c := (decide (o13.fBytes < 1))) (fun hc => ?_) fun hc => ?_
        · rw [hc]
          exact reg_end rfl
        · rw [hc]
          exact reg_end rfl
theorem f60r6 (k : Nat) (a0 : T_api_Type) (x11 : Int) (o13 : T_api_Field) : RE k f60a6 f60o6 false ⟨[(1, (V.ptr 1 0 0)), (3, (I x11)), (4, (V.ptr 4 0 0)), (48, (V.bool true))], [(1, ⟨false, 8, [(enc_T_api_Type a0)]⟩), (4, ⟨false, 3, [(enc_T_api_Field o13)]⟩)], 112⟩ = some ⟨[(2, (V.bool false))], [], 112⟩ :=
  rE rfl
theorem f60r7 (k : Nat) (a0 : T_api_Type) (x11 : Int) (o13 : T_api_Field) : RE k f60a7 f60o7 false ⟨[(1, (V.ptr 1 0 0)), (3, (I x11)), (4, (V.ptr 4 0 0)), (48, (V.bool false))], [(1, ⟨false, 8, [(enc_T_api_Type a0)]⟩), (4, ⟨false, 3, [(enc_T_api_Field o13)]⟩)], 112⟩ = some ⟨[(1, (V.ptr 1 0 0)), (3, (I x11)), (4, (V.ptr 4 0 0)), (5, (I 0))], [(1, ⟨false, 8, [(enc_T_api_Type a0)]⟩), (4, ⟨false, 3, [(enc_T_api_Field o13)]⟩)], 112⟩ :=
  rE rfl
theorem f60r8 (k : Nat) (a0 : T_api_Type) (x11 : Int) (o13 : T_api_Field) (x18 : Int) : RE k f60a8 f60o8 false ⟨[(1, (V.ptr 1 0 0)), (3, (I x11)), (4, (V.ptr 4 0 0)), (5, (I x18))], [(1, ⟨false, 8, [(enc_T_api_Type a0)]⟩), (4, ⟨false, 3, [(enc_T_api_Field o13)]⟩)], 112⟩ = some ⟨[(1, (V.ptr 1 0 0)), (3, (I x11)), (4, (V.ptr 4 0 0)), (5, (I x18)), (51, (V.bool (decide (x18 < x11))))], [(1, ⟨false, 8, [(enc_T_api_Type a0)]⟩), (4, ⟨false, 3, [(enc_T_api_Field o13)]⟩)], 112⟩ :=
  rE rfl
theorem f60r10 (k : Nat) (a0 : T_api_Type) (x11 : Int) (o13 : T_api_Field) (x18 : Int) : RE k f60a10 f60o10 true ⟨[(1, (V.ptr 1 0 0)), (3, (I x11)), (4, (V.ptr 4 0 0)), (5, (I x18)), (51, (V.bool true))], [(1, ⟨false, 8, [(enc_T_api_Type a0)]⟩), (4, ⟨false, 3, [(enc_T_api_Field o13)]⟩)], 112⟩ = (((idx a0.fFields x18).bind fun v19 => (some ((v19.fName == o13.fName))))).map (fun (o : Bool) => (⟨[(1, (V.ptr 1 0 0)), (3, (I x11)), (4, (V.ptr 4 0 0)), (5, (I x18)), (62, (V.bool o))], [(1, ⟨false, 8, [(enc_T_api_Type a0)]⟩), (4, ⟨false, 3, [(enc_T_api_Field o13)]⟩)], 112⟩ : St)) := by
  refine Eq.trans (regionE_regp (p := 9) (dk := true) (t := [(1, (V.ptr 1 0 0)), (3, (I x11)), (4, (V.ptr 4 0 0)), (5, (I x18)), (51, (V.bool true))]) (σ := [(1, ⟨false, 8, [(enc_T_api_Type a0)]⟩), (4, ⟨false, 3, [(enc_T_api_Field o13)]⟩)]) (n := 112) (by decide) (by decide) rfl) ?_
  refine Eq.trans (regp_adv (m := 3) (j := 3) (t' := [(1, (V.ptr 1 0 0)), (3, (I x11)), (4, (V.ptr 4 0 0)), (5, (I x18)), (51, (V.bool true)), (54, (V.ptr 1 0 4)), (55, (sField (a0.fFields))), (56, (I x18))]) rfl rfl rfl) ?_
  refine Eq.trans (regp_pure (x := (idx a0.fFields x18)) (w := fun v19 => (V.pro (enc_T_api_Field v19))) rfl rfl rfl rfl rfl (p_index (e := enc_T_api_Field) rfl rfl rfl Go.Proofs.Try.underlying53 rfl (by decide))) ?_
  refine bindE (fun v19 => ?_)
  exact regp_end rfl
theorem f60r11 (k : Nat) (a0 : T_api_Type) (x11 : Int) (o13 : T_api_Field) (x18 : Int) : RE k f60a11 f60o11 false ⟨[(1, (V.ptr 1 0 0)), (3, (I x11)), (4, (V.ptr 4 0 0)), (5, (I x18)), (62, (V.bool true))], [(1, ⟨false, 8, [(enc_T_api_Type a0)]⟩), (4, ⟨false, 3, [(enc_T_api_Field o13)]⟩)], 112⟩ = some ⟨[(2, (V.bool false))], [], 112⟩ :=
  rE rfl
theorem f60r9 (k : Nat) (a0 : T_api_Type) (x11 : Int) (o13 : T_api_Field) (x18 : Int) : RE k f60a9 f60o9 false ⟨[(1, (V.ptr 1 0 0)), (3, (I x11)), (4, (V.ptr 4 0 0)), (5, (I x18)), (62, (V.bool false))], [(1, ⟨false, 8, [(enc_T_api_Type a0)]⟩), (4, ⟨false, 3, [(enc_T_api_Field o13)]⟩)], 112⟩ = some ⟨[(1, (V.ptr 1 0 0)), (3, (I x11)), (4, (V.ptr 4 0 0)), (5, (I (Go.IntKind.wrap .i64 (x18 + 1))))], [(1, ⟨false, 8, [(enc_T_api_Type a0)]⟩), (4, ⟨false, 3, [(enc_T_api_Field o13)]⟩)], 112⟩ :=
  rE rfl
theorem ref11_fields_L2_ok (k : Nat) (a0 : T_api_Type) (x11 : Int) (o13 : T_api_Field)  (K0 : Int → Option Bool) (Kst : X × St → Option (V × List V)) (hK0 : ∀ (y0 : Int), Kst (X.exit 2, ⟨[(1, (V.ptr 1 0 0)), (3, (I x11)), (4, (V.ptr 4 0 0)), (5, (I y0)), (51, (V.bool false))], [(1, ⟨false, 8, [(enc_T_api_Type a0)]⟩), (4, ⟨false, 3, [(enc_T_api_Field o13)]⟩)], 112⟩) = (K0 y0).map ref11_fields_fin) (hret : ∀ s, Kst (X.ret, s) = endK prog 112 [(enc_T_api_Type a0)] [] [.tmp 2] (X.ret, s)) :
    ∀ (m : Nat) (x18 : Int), (iter (exec prog (EV k) f60n k f60b0) m ⟨[(1, (V.ptr 1 0 0)), (3, (I x11)), (4, (V.ptr 4 0 0)), (5, (I x18))], [(1, ⟨false, 8, [(enc_T_api_Type a0)]⟩), (4, ⟨false, 3, [(enc_T_api_Field o13)]⟩)], 112⟩).bind Kst = (ref11_fields_L2 a0 x11 o13 K0 m x18).map ref11_fields_fin := by
  intro m
  induction m with
  | zero => intros; rfl
  | succ m ih =>
    intro x18
    unfold ref11_fields_L2
    refine Eq.trans k_round ?_
    refine Eq.trans k_assoc ?_
    refine Eq.trans (k_region0 rfl (f60r8 k a0 x11 o13 x18)) ?_
    refine Eq.trans (k_cond (t := (decide (x18 < x11))) rfl) ?_
    refine bifE2 (fun hc => ?_) fun hc => ?_
    · rw [hc]
      refine Eq.trans k_skip ?_
      refine Eq.trans k_block ?_
      refine Eq.trans (k_region rfl (f60r10 k a0 x11 o13 x18)) ?_
      refine bindE (fun o20 => ?_)
      refine Eq.trans (k_lcond (t := o20) rfl) ?_
      refine bifE2 (fun hc => ?_) fun hc => ?_
      · rw [hc]
        refine Eq.trans (k_region0 rfl (f60r11 k a0 x11 o13 x18)) ?_
        refine Eq.trans k_lret ?_
        refine Eq.trans blk_ret ?_
        refine Eq.trans loop_ret ?_
        refine Eq.trans (hret _) ?_
        rfl
      · rw [hc]
        refine Eq.trans k_lskip ?_
        refine Eq.trans blk_normal ?_
        refine Eq.trans (k_lregion0 rfl (f60r9 k a0 x11 o13 x18)) ?_
        refine Eq.trans loop_normal ?_
        exact ih (Go.IntKind.wrap .i64 (x18 + 1))
    · rw [hc]
      refine Eq.trans k_exit ?_
      refine Eq.trans loop_exit ?_
      exact hK0 x18
theorem f60r3 (k : Nat) (a0 : T_api_Type) (x11 : Int) (o13 : T_api_Field) (y21 : Int) : RE k f60a3 f60o3 false ⟨[(1, (V.ptr 1 0 0)), (3, (I x11)), (4, (V.ptr 4 0 0)), (5, (I y21)), (51, (V.bool false))], [(1, ⟨false, 8, [(enc_T_api_Type a0)]⟩), (4, ⟨false, 3, [(enc_T_api_Field o13)]⟩)], 112⟩ = some ⟨[(1, (V.ptr 1 0 0)), (3, (I (Go.IntKind.wrap .i64 (x11 + 1))))], [(1, ⟨false, 8, [(enc_T_api_Type a0)]⟩)], 112⟩ :=
  rE rfl
theorem ref11_fields_L1_ok (k : Nat) (a0 : T_api_Type)  (K0 : Int → Option Bool) (Kst : X × St → Option (V × List V)) (hK0 : ∀ (y0 : Int), Kst (X.exit 0, ⟨[(1, (V.ptr 1 0 0)), (3, (I y0)), (10, (V.bool false))], [(1, ⟨false, 8, [(enc_T_api_Type a0)]⟩)], 112⟩) = (K0 y0).map ref11_fields_fin) (hret : ∀ s, Kst (X.ret, s) = endK prog 112 [(enc_T_api_Type a0)] [] [.tmp 2] (X.ret, s)) :
    ∀ (m : Nat) (x11 : Int), (iter (exec prog (EV k) f60n k f60b1) m ⟨[(1, (V.ptr 1 0 0)), (3, (I x11))], [(1, ⟨false, 8, [(enc_T_api_Type a0)]⟩)], 112⟩).bind Kst = (ref11_fields_L1 k a0 K0 m x11).map ref11_fields_fin := by
  intro m
  induction m with
  | zero => intros; rfl
  | succ m ih =>
    intro x11
    unfold ref11_fields_L1
    refine Eq.trans k_round ?_
    refine Eq.trans k_assoc ?_
    refine Eq.trans (k_region0 rfl (f60r2 k a0 x11)) ?_
    refine Eq.trans (k_cond (t := (decide (x11 < (a0.fFields.length : Int)))) rfl) ?_
    refine bifE2 (fun hc => ?_) fun hc => ?_
    · rw [hc]
      refine Eq.trans k_skip ?_
      refine Eq.trans k_block ?_
      refine Eq.trans (k_region rfl (f60r4 k a0 x11)) ?_
      refine bindE (fun o13 => ?_)
      refine Eq.trans k_assoc ?_
      refine Eq.trans (k_region rfl (f60r5 k a0 x11 o13)) ?_
      refine bindE (fun o15 => ?_)
      refine Eq.trans (k_cond (t := o15) rfl) ?_
      refine bifE2 (fun hc => ?_) fun hc => ?_
      · rw [hc]
        refine Eq.trans k_assoc ?_
        refine Eq.trans (k_region0 rfl (f60r6 k a0 x11 o13)) ?_
        refine Eq.trans k_ret ?_
        refine Eq.trans blk_ret ?_
        refine Eq.trans loop_ret ?_
        refine Eq.trans (hret _) ?_
        rfl
      · rw [hc]
        refine Eq.trans k_skip ?_
        refine Eq.trans (k_region0 rfl (f60r7 k a0 x11 o13)) ?_
        refine Eq.trans k_lblock ?_
        refine Eq.trans k_loop ?_
        refine ref11_fields_L2_ok k a0 x11 o13 _ _ ?h_ref11_fields_L2_0 ?hr_ref11_fields_L2 k 0
        · intro y21
          refine Eq.trans blk_exit ?_
          refine Eq.trans k_lskip ?_
          refine Eq.trans blk_normal ?_
          refine Eq.trans (k_lregion0 rfl (f60r3 k a0 x11 o13 y21)) ?_
          refine Eq.trans loop_normal ?_
          exact ih (Go.IntKind.wrap .i64 (x11 + 1))
        · intro s; exact hret s
    · rw [hc]
      refine Eq.trans k_exit ?_
      refine Eq.trans loop_exit ?_
      exact hK0 x11
theorem f60r12 (k : Nat) (a0 : T_api_Type) (y22 : Int) : RE k f60a12 f60o12 false ⟨[(1, (V.ptr 1 0 0)), (3, (I y22)), (10, (V.bool false))], [(1, ⟨false, 8, [(enc_T_api_Type a0)]⟩)], 112⟩ = ((bif (decide (a0.fKey < (-1))) then (some (true)) else (bif (decide (a0.fKey ≥ (a0.fFields.length : Int))) then (some (true)) else (bif (decide (a0.fKey < 0)) then (some (a0.fUnique)) else (some (false)))))).map (fun (o : Bool) => (⟨[(1, (V.ptr 1 0 0)), (82, (V.bool o))], [(1, ⟨false, 8, [(enc_T_api_Type a0)]⟩)], 112⟩ : St)) := by
  refine rg ?_
  refine ra 4 4 ⟨[(1, (V.ptr 1 0 0)), (3, (I y22)), (10, (V.bool false)), (63, (V.ptr 1 0 5)), (64, (I a0.fKey)), (65, (V.bool (decide (a0.fKey < (-1))))), (66, (V.bool (decide (a0.fKey < (-1)))))], [(1, ⟨false, 8, [(enc_T_api_Type a0)]⟩)], 112⟩ rfl rfl rfl ?_
  refine bifE (c := (decide (a0.fKey < (-1)))) (fun hc => ?_) fun hc => ?_
  · rw [hc]
    exact reg_end rfl
  · rw [hc]
    refine ra 4 8 ⟨[(1, (V.ptr 1 0 0)), (3, (I y22)), (10, (V.bool false)), (63, (V.ptr 1 0 5)), (64, (I a0.fKey)), (65, (V.bool false)), (66, (V.bool false)), (67, (V.ptr 1 0 5)), (68, (I a0.fKey)), (69, (V.ptr 1 0 4)), (70, (sField (a0.fFields)))], [(1, ⟨false, 8, [(enc_T_api_Type a0)]⟩)], 112⟩ rfl rfl rfl ?_
    refine Eq.trans (reg_pure (x := some ()) (w := fun _ => (I (a0.fFields.length : Int))) rfl rfl rfl rfl (p_len (e := enc_T_api_Field) rfl rfl rfl rfl rfl rfl Go.Proofs.Try.underlying53)) ?_
    refine Eq.trans some_bind ?_
    refine ba 3 12 ⟨[(1, (V.ptr 1 0 0)), (3, (I y22)), (10, (V.bool false)), (63, (V.ptr 1 0 5)), (64, (I a0.fKey)), (65, (V.bool false)), (66, (V.bool false)), (67, (V.ptr 1 0 5)), (68, (I a0.fKey)), (69, (V.ptr 1 0 4)), (70, (sField (a0.fFields))), (71, (I (a0.fFields.length : Int))), (72, (V.bool (decide (a0.fKey ≥ (a0.fFields.length : Int))))), (73, (V.bool (decide (a0.fKey ≥ (a0.fFields.length : Int))))), (74, (V.bool (decide (a0.fKey ≥ (a0.fFields.length : Int)))))], [(1, ⟨false, 8, [(enc_T_api_Type a0)]⟩)], 112⟩ rfl rfl rfl ?_
    refine bifE (c := (decide (a0.fKey ≥ (a0.fFields.length : Int)))) (fun hc => ?_) fun hc => ?_
    · rw [hc]
      exact reg_end rfl
    · rw [hc]
      refine ra 4 16 ⟨[(1, (V.ptr 1 0 0)), (3, (I y22)), (10, (V.bool false)), (63, (V.ptr 1 0 5)), (64, (I a0.fKey)), (65, (V.bool false)), (66, (V.bool false)), (67, (V.ptr 1 0 5)), (68, (I a0.fKey)), (69, (V.ptr 1 0 4)), (70, (sField (a0.fFields))), (71, (I (a0.fFields.length : Int))), (72, (V.bool false)), (73, (V.bool false)), (74, (V.bool false)), (75, (V.ptr 1 0 5)), (76, (I a0.fKey)), (77, (V.bool (decide (a0.fKey < 0)))), (78, (V.bool (decide (a0.fKey < 0))))], [(1, ⟨false, 8, [(enc_T_api_Type a0)]⟩)], 112⟩ rfl rfl rfl ?_
      refine bifE (c := (decide (a0.fKey < 0))) (fun hc => ?_) fun hc => ?_
      · rw [hc]
        exact reg_end rfl
      · rw [hc]
        exact reg_end rfl
theorem f60r13 (k : Nat) (a0 : T_api_Type) : RE k f60a13 f60o13 false ⟨[(1, (V.ptr 1 0 0)), (82, (V.bool true))], [(1, ⟨false, 8, [(enc_T_api_Type a0)]⟩)], 112⟩ = some ⟨[(2, (V.bool false))], [], 112⟩ :=
  rE rfl
theorem f60r14 (k : Nat) (a0 : T_api_Type) : RE k f60a14 f60o14 true ⟨[(1, (V.ptr 1 0 0)), (82, (V.bool false))], [(1, ⟨false, 8, [(enc_T_api_Type a0)]⟩)], 112⟩ = ((bif (decide ((a0.fFields.length : Int) ≤ 5)) then (bif (decide (a0.fKey < 0)) then (some (true)) else ((idx a0.fFields a0.fKey).bind fun v24 => ((idx a0.fFields a0.fKey).bind fun v25 => (some ((decide ((Go.IntKind.wrap .i64 (v24.fAt + v25.fBytes)) ≤ a0.fMin))))))) else (some (false)))).map (fun (o : Bool) => (⟨[(2, (V.bool o))], [], 112⟩ : St)) := by
  refine Eq.trans (regionE_regp (p := 30) (dk := true) (t := [(1, (V.ptr 1 0 0)), (82, (V.bool false))]) (σ := [(1, ⟨false, 8, [(enc_T_api_Type a0)]⟩)]) (n := 112) (by decide) (by decide) rfl) ?_
  refine Eq.trans (regp_adv (m := 2) (j := 2) (t' := [(1, (V.ptr 1 0 0)), (82, (V.bool false)), (83, (V.ptr 1 0 4)), (84, (sField (a0.fFields)))]) rfl rfl rfl) ?_
  refine Eq.trans (regp_pure (x := some ()) (w := fun _ => (I (a0.fFields.length : Int))) rfl rfl rfl rfl rfl (p_len (e := enc_T_api_Field) rfl rfl rfl rfl rfl rfl Go.Proofs.Try.underlying53)) ?_
  refine Eq.trans some_bind ?_
  refine Eq.trans (putp_adv (m := 2) (j := 5) (t' := [(1, (V.ptr 1 0 0)), (82, (V.bool false)), (83, (V.ptr 1 0 4)), (84, (sField (a0.fFields))), (85, (I (a0.fFields.length : Int))), (86, (V.bool (decide ((a0.fFields.length : Int) ≤ 5)))), (87, (V.bool (decide ((a0.fFields.length : Int) ≤ 5))))]) rfl rfl rfl) ?_
  refine bifE (c := (decide ((a0.fFields.length : Int) ≤ 5))) (fun hc => ?_) fun hc => ?_
  · rw [hc]
    refine Eq.trans (regp_adv (m := 4) (j := 9) (t' := [(1, (V.ptr 1 0 0)), (82, (V.bool false)), (83, (V.ptr 1 0 4)), (84, (sField (a0.fFields))), (85, (I (a0.fFields.length : Int))), (86, (V.bool true)), (87, (V.bool true)), (88, (V.ptr 1 0 5)), (89, (I a0.fKey)), (90, (V.bool (decide (a0.fKey < 0)))), (91, (V.bool (decide (a0.fKey < 0))))]) rfl rfl rfl) ?_
    refine bifE (c := (decide (a0.fKey < 0))) (fun hc => ?_) fun hc => ?_
    · rw [hc]
      exact regp_end rfl
    · rw [hc]
      refine Eq.trans (regp_adv (m := 4) (j := 13) (t' := [(1, (V.ptr 1 0 0)), (82, (V.bool false)), (83, (V.ptr 1 0 4)), (84, (sField (a0.fFields))), (85, (I (a0.fFields.length : Int))), (86, (V.bool true)), (87, (V.bool true)), (88, (V.ptr 1 0 5)), (89, (I a0.fKey)), (90, (V.bool false)), (91, (V.bool false)), (92, (V.ptr 1 0 4)), (93, (sField (a0.fFields))), (94, (V.ptr 1 0 5)), (95, (I a0.fKey))]) rfl rfl rfl) ?_
      refine Eq.trans (regp_pure (x := (idx a0.fFields a0.fKey)) (w := fun v24 => (V.pro (enc_T_api_Field v24))) rfl rfl rfl rfl rfl (p_index (e := enc_T_api_Field) rfl rfl rfl Go.Proofs.Try.underlying53 rfl (by decide))) ?_
      refine bindE (fun v24 => ?_)
      refine Eq.trans (putp_adv (m := 6) (j := 20) (t' := [(1, (V.ptr 1 0 0)), (82, (V.bool false)), (83, (V.ptr 1 0 4)), (84, (sField (a0.fFields))), (85, (I (a0.fFields.length : Int))), (86, (V.bool true)), (87, (V.bool true)), (88, (V.ptr 1 0 5)), (89, (I a0.fKey)), (90, (V.bool false)), (91, (V.bool false)), (92, (V.ptr 1 0 4)), (93, (sField (a0.fFields))), (94, (V.ptr 1 0 5)), (95, (I a0.fKey)), (96, (V.pro (enc_T_api_Field v24))), (97, (V.pro (I v24.fAt))), (98, (I v24.fAt)), (99, (V.ptr 1 0 4)), (100, (sField (a0.fFields))), (101, (V.ptr 1 0 5)), (102, (I a0.fKey))]) rfl rfl rfl) ?_
      refine Eq.trans (regp_pure (x := (idx a0.fFields a0.fKey)) (w := fun v25 => (V.pro (enc_T_api_Field v25))) rfl rfl rfl rfl rfl (p_index (e := enc_T_api_Field) rfl rfl rfl Go.Proofs.Try.underlying53 rfl (by decide))) ?_
      refine bindE (fun v25 => ?_)
      exact regp_end rfl
  · rw [hc]
    exact regp_end rfl
theorem ref11_fields_ok (k : Nat) (a0 : T_api_Type) : EV k 60 [(enc_T_api_Type a0)] = (ref11_fields k a0).map ref11_fields_fin := by
  cases k with
  | zero => rfl
  | succ k =>
    unfold ref11_fields
    refine Eq.trans (evF_succ (c := f60c) (N := 112) (regs := f60n) rfl Go.Proofs.Try.func60 rfl (by decide) rfl rfl rfl) ?_
    refine Eq.trans (k_region0 rfl (f60r0 k a0)) ?_
    refine Eq.trans k_assoc ?_
    refine Eq.trans (k_region0 rfl (f60r1 k a0)) ?_
    refine Eq.trans k_block ?_
    refine Eq.trans k_loop ?_
    refine ref11_fields_L1_ok k a0 _ _ ?h_ref11_fields_L1_0 ?hr_ref11_fields_L1 k 0
    · intro y22
      refine Eq.trans blk_exit ?_
      refine Eq.trans k_assoc ?_
      refine Eq.trans (k_region rfl (f60r12 k a0 y22)) ?_
      refine bindE (fun o23 => ?_)
      refine Eq.trans (k_cond (t := o23) rfl) ?_
      refine bifE2 (fun hc => ?_) fun hc => ?_
      · rw [hc]
        refine Eq.trans k_assoc ?_
        refine Eq.trans (k_region0 rfl (f60r13 k a0)) ?_
        refine Eq.trans k_ret ?_
        rfl
      · rw [hc]
        refine Eq.trans k_skip ?_
        refine Eq.trans (k_region rfl (f60r14 k a0)) ?_
        refine bindE (fun o26 => ?_)
        refine Eq.trans k_lret ?_
        rfl
    · intro s; exact rfl
def ref11_above_fin : Bool → V × List V := fun r => ((V.bool r), [])
theorem f43r0 (k : Nat) (a0 : T_api_Base) (a1 : Int) (a2 : Int) : RE k f43a0 f43o0 false ⟨[(0, (enc_T_api_Base a0)), (1, (I a1)), (2, (I a2))], [], 24⟩ = some ⟨[(1, (I a1)), (2, (I a2)), (3, (V.ptr 3 0 0))], [(3, ⟨false, 4, [(enc_T_api_Base a0)]⟩)], 24⟩ :=
  rE rfl
theorem f43r1 (k : Nat) (a0 : T_api_Base) (a1 : Int) (a2 : Int) : RE k f43a1 f43o1 false ⟨[(1, (I a1)), (2, (I a2)), (3, (V.ptr 3 0 0))], [(3, ⟨false, 4, [(enc_T_api_Base a0)]⟩)], 24⟩ = (((idx a0.fTypes a2).bind fun v1 => (some (v1.fParent)))).map (fun (o : Int) => (⟨[(1, (I a1)), (2, (I o)), (3, (V.ptr 3 0 0))], [(3, ⟨false, 4, [(enc_T_api_Base a0)]⟩)], 24⟩ : St)) := by
  refine rg ?_
  refine ra 3 3 ⟨[(1, (I a1)), (2, (I a2)), (3, (V.ptr 3 0 0)), (7, (V.ptr 3 0 2)), (8, (sType (a0.fTypes))), (9, (I a2))], [(3, ⟨false, 4, [(enc_T_api_Base a0)]⟩)], 24⟩ rfl rfl rfl ?_
  refine Eq.trans (reg_pure (x := (idx a0.fTypes a2)) (w := fun v1 => (V.pro (enc_T_api_Type v1))) rfl rfl rfl rfl (p_index (e := enc_T_api_Type) rfl rfl rfl Go.Proofs.Try.underlying22 rfl (by decide))) ?_
  refine bindE (fun v1 => ?_)
  exact bind_end rfl
theorem f43r2 (k : Nat) (a0 : T_api_Base) (a1 : Int) (x5 : Int) : RE k f43a2 f43o2 false ⟨[(1, (I a1)), (2, (I x5)), (3, (V.ptr 3 0 0))], [(3, ⟨false, 4, [(enc_T_api_Base a0)]⟩)], 24⟩ = some ⟨[(1, (I a1)), (2, (I x5)), (3, (V.ptr 3 0 0)), (14, (V.bool (decide (x5 ≥ 0))))], [(3, ⟨false, 4, [(enc_T_api_Base a0)]⟩)], 24⟩ :=
  rE rfl
theorem f43r4 (k : Nat) (a0 : T_api_Base) (a1 : Int) (x5 : Int) : RE k f43a4 f43o4 false ⟨[(1, (I a1)), (2, (I x5)), (3, (V.ptr 3 0 0)), (14, (V.bool true))], [(3, ⟨false, 4, [(enc_T_api_Base a0)]⟩)], 24⟩ = some ⟨[(1, (I a1)), (2, (I x5)), (3, (V.ptr 3 0 0)), (23, (V.bool (x5 == a1)))], [(3, ⟨false, 4, [(enc_T_api_Base a0)]⟩)], 24⟩ :=
  rE rfl
theorem f43r5 (k : Nat) (a0 : T_api_Base) (a1 : Int) (x5 : Int) : RE k f43a5 f43o5 false ⟨[(1, (I a1)), (2, (I x5)), (3, (V.ptr 3 0 0)), (23, (V.bool true))], [(3, ⟨false, 4, [(enc_T_api_Base a0)]⟩)], 24⟩ = some ⟨[(6, (V.bool true))], [], 24⟩ :=
  rE rfl
theorem f43r3 (k : Nat) (a0 : T_api_Base) (a1 : Int) (x5 : Int) : RE k f43a3 f43o3 false ⟨[(1, (I a1)), (2, (I x5)), (3, (V.ptr 3 0 0)), (23, (V.bool false))], [(3, ⟨false, 4, [(enc_T_api_Base a0)]⟩)], 24⟩ = (((idx a0.fTypes x5).bind fun v6 => (some (v6.fParent)))).map (fun (o : Int) => (⟨[(1, (I a1)), (2, (I o)), (3, (V.ptr 3 0 0))], [(3, ⟨false, 4, [(enc_T_api_Base a0)]⟩)], 24⟩ : St)) := by
  refine rg ?_
  refine ra 3 3 ⟨[(1, (I a1)), (2, (I x5)), (3, (V.ptr 3 0 0)), (15, (V.ptr 3 0 2)), (16, (sType (a0.fTypes))), (17, (I x5)), (23, (V.bool false))], [(3, ⟨false, 4, [(enc_T_api_Base a0)]⟩)], 24⟩ rfl rfl rfl ?_
  refine Eq.trans (reg_pure (x := (idx a0.fTypes x5)) (w := fun v6 => (V.pro (enc_T_api_Type v6))) rfl rfl rfl rfl (p_index (e := enc_T_api_Type) rfl rfl rfl Go.Proofs.Try.underlying22 rfl (by decide))) ?_
  refine bindE (fun v6 => ?_)
  exact bind_end rfl
theorem ref11_above_L1_ok (k : Nat) (a0 : T_api_Base) (a1 : Int) (a2 : Int)  (K0 : Int → Option Bool) (Kst : X × St → Option (V × List V)) (hK0 : ∀ (y0 : Int), Kst (X.exit 0, ⟨[(1, (I a1)), (2, (I y0)), (3, (V.ptr 3 0 0)), (14, (V.bool false))], [(3, ⟨false, 4, [(enc_T_api_Base a0)]⟩)], 24⟩) = (K0 y0).map ref11_above_fin) (hret : ∀ s, Kst (X.ret, s) = endK prog 24 [(enc_T_api_Base a0), (I a1), (I a2)] [] [.tmp 6] (X.ret, s)) :
    ∀ (m : Nat) (x5 : Int), (iter (exec prog (EV k) f43n k f43b0) m ⟨[(1, (I a1)), (2, (I x5)), (3, (V.ptr 3 0 0))], [(3, ⟨false, 4, [(enc_T_api_Base a0)]⟩)], 24⟩).bind Kst = (ref11_above_L1 a0 a1 K0 m x5).map ref11_above_fin := by
  intro m
  induction m with
  | zero => intros; rfl
  | succ m ih =>
    intro x5
    unfold ref11_above_L1
    refine Eq.trans k_round ?_
    refine Eq.trans k_assoc ?_
    refine Eq.trans (k_region0 rfl (f43r2 k a0 a1 x5)) ?_
    refine Eq.trans (k_cond (t := (decide (x5 ≥ 0))) rfl) ?_
    refine bifE2 (fun hc => ?_) fun hc => ?_
    · rw [hc]
      refine Eq.trans k_skip ?_
      refine Eq.trans k_block ?_
      refine Eq.trans (k_region0 rfl (f43r4 k a0 a1 x5)) ?_
      refine Eq.trans (k_lcond (t := (x5 == a1)) rfl) ?_
      refine bifE2 (fun hc => ?_) fun hc => ?_
      · rw [hc]
        refine Eq.trans (k_region0 rfl (f43r5 k a0 a1 x5)) ?_
        refine Eq.trans k_lret ?_
        refine Eq.trans blk_ret ?_
        refine Eq.trans loop_ret ?_
        refine Eq.trans (hret _) ?_
        rfl
      · rw [hc]
        refine Eq.trans k_lskip ?_
        refine Eq.trans blk_normal ?_
        refine Eq.trans (k_lregion rfl (f43r3 k a0 a1 x5)) ?_
        refine bindE (fun o7 => ?_)
        refine Eq.trans loop_normal ?_
        exact ih o7
    · rw [hc]
      refine Eq.trans k_exit ?_
      refine Eq.trans loop_exit ?_
      exact hK0 x5
theorem f43r6 (k : Nat) (a0 : T_api_Base) (a1 : Int) (y8 : Int) : RE k f43a6 f43o6 false ⟨[(1, (I a1)), (2, (I y8)), (3, (V.ptr 3 0 0)), (14, (V.bool false))], [(3, ⟨false, 4, [(enc_T_api_Base a0)]⟩)], 24⟩ = some ⟨[(6, (V.bool false))], [], 24⟩ :=
  rE rfl
theorem ref11_above_ok (k : Nat) (a0 : T_api_Base) (a1 : Int) (a2 : Int) : EV k 43 [(enc_T_api_Base a0), (I a1), (I a2)] = (ref11_above k a0 a1 a2).map ref11_above_fin := by
  cases k with
  | zero => rfl
  | succ k =>
    unfold ref11_above
    refine Eq.trans (evF_succ (c := f43c) (N := 24) (regs := f43n) rfl Go.Proofs.Try.func43 rfl (by decide) rfl rfl rfl) ?_
    refine Eq.trans (k_region0 rfl (f43r0 k a0 a1 a2)) ?_
    refine Eq.trans k_assoc ?_
    refine Eq.trans (k_region rfl (f43r1 k a0 a1 a2)) ?_
    refine bindE (fun o2 => ?_)
    refine Eq.trans k_block ?_
    refine Eq.trans k_loop ?_
    refine ref11_above_L1_ok k a0 a1 a2 _ _ ?h_ref11_above_L1_0 ?hr_ref11_above_L1 k o2
    · intro y8
      refine Eq.trans blk_exit ?_
      refine Eq.trans (k_region0 rfl (f43r6 k a0 a1 y8)) ?_
      refine Eq.trans k_lret ?_
      rfl
    · intro s; exact rfl
def ref11_way_fin : (List Int) → V × List V := fun r => ((sI r), [])
theorem f41r0 (k : Nat) (a0 : T_api_Base) (a1 : Int) : RE k f41a0 f41o0 false ⟨[(0, (enc_T_api_Base a0)), (1, (I a1))], [], 19⟩ = some ⟨[(1, (I a1)), (2, (V.ptr 2 0 0))], [(2, ⟨false, 4, [(enc_T_api_Base a0)]⟩)], 19⟩ :=
  rE rfl
theorem f41r1 (k : Nat) (a0 : T_api_Base) (a1 : Int) : RE k f41a1 f41o1 false ⟨[(1, (I a1)), (2, (V.ptr 2 0 0))], [(2, ⟨false, 4, [(enc_T_api_Base a0)]⟩)], 19⟩ = some ⟨[(1, (I a1)), (2, (V.ptr 2 0 0)), (5, (sI (([] : List Int))))], [(2, ⟨false, 4, [(enc_T_api_Base a0)]⟩)], 19⟩ :=
  rE rfl
theorem f41r2 (k : Nat) (a0 : T_api_Base) (x5 : Int) (x6 : (List Int)) : RE k f41a2 f41o2 false ⟨[(1, (I x5)), (2, (V.ptr 2 0 0)), (5, (sI x6))], [(2, ⟨false, 4, [(enc_T_api_Base a0)]⟩)], 19⟩ = some ⟨[(1, (I x5)), (2, (V.ptr 2 0 0)), (5, (sI x6)), (7, (V.bool (decide (x5 ≥ 0))))], [(2, ⟨false, 4, [(enc_T_api_Base a0)]⟩)], 19⟩ :=
  rE rfl
theorem f41r3 (k : Nat) (a0 : T_api_Base) (x5 : Int) (x6 : (List Int)) : RE k f41a3 f41o3 false ⟨[(1, (I x5)), (2, (V.ptr 2 0 0)), (5, (sI x6)), (7, (V.bool true))], [(2, ⟨false, 4, [(enc_T_api_Base a0)]⟩)], 19⟩ = ((app ([x5] : List Int) x6)).map (fun (o : (List Int)) => (⟨[(1, (I x5)), (2, (V.ptr 2 0 0)), (5, (sI o))], [(2, ⟨false, 4, [(enc_T_api_Base a0)]⟩)], 19⟩ : St)) := by
  refine rg ?_
  refine ra 3 3 ⟨[(1, (I x5)), (2, (V.ptr 2 0 0)), (5, (sI x6)), (7, (V.bool true)), (8, (I x5)), (9, (V.sl 1 1 (List.map I ([x5] : List Int)))), (10, (sI x6))], [(2, ⟨false, 4, [(enc_T_api_Base a0)]⟩)], 19⟩ rfl rfl rfl ?_
  refine Eq.trans (reg_eff (x := (app ([x5] : List Int) x6)) (w := fun v7 => ((V.sl 1 1 (List.map I v7)), _)) rfl rfl rfl rfl (p_app (e := I) rfl rfl rfl rfl rfl rfl rfl rfl rfl rfl (by decide))) ?_
  refine bind_self (fun v7 => ?_)
  exact bind_end rfl
theorem f41r4 (k : Nat) (a0 : T_api_Base) (x5 : Int) (o8 : (List Int)) : RE k f41a4 f41o4 false ⟨[(1, (I x5)), (2, (V.ptr 2 0 0)), (5, (sI o8))], [(2, ⟨false, 4, [(enc_T_api_Base a0)]⟩)], 19⟩ = (((idx a0.fTypes x5).bind fun v9 => (some (v9.fParent)))).map (fun (o : Int) => (⟨[(1, (I o)), (2, (V.ptr 2 0 0)), (5, (sI o8))], [(2, ⟨false, 4, [(enc_T_api_Base a0)]⟩)], 19⟩ : St)) := by
  refine rg ?_
  refine ra 3 3 ⟨[(1, (I x5)), (2, (V.ptr 2 0 0)), (5, (sI o8)), (12, (V.ptr 2 0 2)), (13, (sType (a0.fTypes))), (14, (I x5))], [(2, ⟨false, 4, [(enc_T_api_Base a0)]⟩)], 19⟩ rfl rfl rfl ?_
  refine Eq.trans (reg_pure (x := (idx a0.fTypes x5)) (w := fun v9 => (V.pro (enc_T_api_Type v9))) rfl rfl rfl rfl (p_index (e := enc_T_api_Type) rfl rfl rfl Go.Proofs.Try.underlying22 rfl (by decide))) ?_
  refine bindE (fun v9 => ?_)
  exact bind_end rfl
theorem ref11_way_L1_ok (k : Nat) (a0 : T_api_Base) (a1 : Int)  (K0 : Int → (List Int) → Option (List Int)) (Kst : X × St → Option (V × List V)) (hK0 : ∀ (y0 : Int) (y1 : (List Int)), Kst (X.exit 0, ⟨[(1, (I y0)), (2, (V.ptr 2 0 0)), (5, (sI y1)), (7, (V.bool false))], [(2, ⟨false, 4, [(enc_T_api_Base a0)]⟩)], 19⟩) = (K0 y0 y1).map ref11_way_fin) (hret : ∀ s, Kst (X.ret, s) = endK prog 19 [(enc_T_api_Base a0), (I a1)] [] [.tmp 4] (X.ret, s)) :
    ∀ (m : Nat) (x5 : Int) (x6 : (List Int)), (iter (exec prog (EV k) f41n k f41b0) m ⟨[(1, (I x5)), (2, (V.ptr 2 0 0)), (5, (sI x6))], [(2, ⟨false, 4, [(enc_T_api_Base a0)]⟩)], 19⟩).bind Kst = (ref11_way_L1 a0 K0 m x5 x6).map ref11_way_fin := by
  intro m
  induction m with
  | zero => intros; rfl
  | succ m ih =>
    intro x5 x6
    unfold ref11_way_L1
    refine Eq.trans k_round ?_
    refine Eq.trans k_assoc ?_
    refine Eq.trans (k_region0 rfl (f41r2 k a0 x5 x6)) ?_
    refine Eq.trans (k_cond (t := (decide (x5 ≥ 0))) rfl) ?_
    refine bifE2 (fun hc => ?_) fun hc => ?_
    · rw [hc]
      refine Eq.trans k_skip ?_
      refine Eq.trans k_lblock ?_
      refine Eq.trans (k_region rfl (f41r3 k a0 x5 x6)) ?_
      refine bindE (fun o8 => ?_)
      refine Eq.trans (k_lregion rfl (f41r4 k a0 x5 o8)) ?_
      refine bindE (fun o10 => ?_)
      refine Eq.trans blk_normal ?_
      refine Eq.trans k_lskip ?_
      refine Eq.trans loop_normal ?_
      exact ih o10 o8
    · rw [hc]
      refine Eq.trans k_exit ?_
      refine Eq.trans loop_exit ?_
      exact hK0 x5 x6
theorem f41r5 (k : Nat) (a0 : T_api_Base) (y11 : Int) (y12 : (List Int)) : RE k f41a5 f41o5 false ⟨[(1, (I y11)), (2, (V.ptr 2 0 0)), (5, (sI y12)), (7, (V.bool false))], [(2, ⟨false, 4, [(enc_T_api_Base a0)]⟩)], 19⟩ = some ⟨[(4, (sI y12))], [], 19⟩ :=
  rE rfl
theorem ref11_way_ok (k : Nat) (a0 : T_api_Base) (a1 : Int) : EV k 41 [(enc_T_api_Base a0), (I a1)] = (ref11_way k a0 a1).map ref11_way_fin := by
  cases k with
  | zero => rfl
  | succ k =>
    unfold ref11_way
    refine Eq.trans (evF_succ (c := f41c) (N := 19) (regs := f41n) rfl Go.Proofs.Try.func41 rfl (by decide) rfl rfl rfl) ?_
    refine Eq.trans (k_region0 rfl (f41r0 k a0 a1)) ?_
    refine Eq.trans (k_region0 rfl (f41r1 k a0 a1)) ?_
    refine Eq.trans k_block ?_
    refine Eq.trans k_loop ?_
    refine ref11_way_L1_ok k a0 a1 _ _ ?h_ref11_way_L1_0 ?hr_ref11_way_L1 k a1 ([] : List Int)
    · intro y11 y12
      refine Eq.trans blk_exit ?_
      refine Eq.trans (k_region0 rfl (f41r5 k a0 y11 y12)) ?_
      refine Eq.trans k_lret ?_
      rfl
    · intro s; exact rfl
def ref11_Valid_fin : Bool → V × List V := fun r => ((V.bool r), [])
theorem f29r0 (k : Nat) (a0 : T_api_Base) : RE k f29a0 f29o0 false ⟨[(0, (enc_T_api_Base a0))], [], 232⟩ = some ⟨[(1, (V.ptr 1 0 0))], [(1, ⟨false, 4, [(enc_T_api_Base a0)]⟩)], 232⟩ :=
  rE rfl
theorem f29r1 (k : Nat) (a0 : T_api_Base) : RE k f29a1 f29o1 false ⟨[(1, (V.ptr 1 0 0))], [(1, ⟨false, 4, [(enc_T_api_Base a0)]⟩)], 232⟩ = (((ref11_IsName k a0.fName).bind fun v1 => (bif (!v1) then (some (true)) else (bif (decide (a0.fKind < 1)) then (some (true)) else (bif (decide (a0.fKind > 4)) then (some (true)) else (bif (decide ((a0.fTypes.length : Int) < 1)) then (some (true)) else (bif (decide ((a0.fTypes.length : Int) > 8)) then (some (true)) else (some ((decide ((a0.fIndexes.length : Int) > 3))))))))))).map (fun (o : Bool) => (⟨[(1, (V.ptr 1 0 0)), (40, (V.bool o))], [(1, ⟨false, 4, [(enc_T_api_Base a0)]⟩)], 232⟩ : St)) := by
  refine rg ?_
  refine ra 2 2 ⟨[(1, (V.ptr 1 0 0)), (9, (V.ptr 1 0 0)), (10, (V.str a0.fName))], [(1, ⟨false, 4, [(enc_T_api_Base a0)]⟩)], 232⟩ rfl rfl rfl ?_
  refine Eq.trans (reg_pure (x := (ref11_IsName k a0.fName)) (w := fun v1 => (V.bool v1)) rfl rfl rfl rfl (p_call rfl rfl rfl rfl rfl (ref11_IsName_ok k a0.fName) (.inl rfl))) ?_
  refine bindE (fun v1 => ?_)
  refine ba 2 5 ⟨[(1, (V.ptr 1 0 0)), (9, (V.ptr 1 0 0)), (10, (V.str a0.fName)), (11, (V.bool v1)), (12, (V.bool (!v1))), (13, (V.bool (!v1)))], [(1, ⟨false, 4, [(enc_T_api_Base a0)]⟩)], 232⟩ rfl rfl rfl ?_
  refine bifE (c := (!v1)) (fun hc => ?_) fun hc => ?_
  · rw [hc]
    exact reg_end rfl
  · rw [hc]
    refine ra 5 10 ⟨[(1, (V.ptr 1 0 0)), (9, (V.ptr 1 0 0)), (10, (V.str a0.fName)), (11, (V.bool v1)), (12, (V.bool false)), (13, (V.bool false)), (14, (V.ptr 1 0 1)), (15, (I a0.fKind)), (16, (V.bool (decide (a0.fKind < 1)))), (17, (V.bool (decide (a0.fKind < 1)))), (18, (V.bool (decide (a0.fKind < 1))))], [(1, ⟨false, 4, [(enc_T_api_Base a0)]⟩)], 232⟩ rfl rfl rfl ?_
    refine bifE (c := (decide (a0.fKind < 1))) (fun hc => ?_) fun hc => ?_
    · rw [hc]
      exact reg_end rfl
    · rw [hc]
      refine ra 5 15 ⟨[(1, (V.ptr 1 0 0)), (9, (V.ptr 1 0 0)), (10, (V.str a0.fName)), (11, (V.bool v1)), (12, (V.bool false)), (13, (V.bool false)), (14, (V.ptr 1 0 1)), (15, (I a0.fKind)), (16, (V.bool false)), (17, (V.bool false)), (18, (V.bool false)), (19, (V.ptr 1 0 1)), (20, (I a0.fKind)), (21, (V.bool (decide (a0.fKind > 4)))), (22, (V.bool (decide (a0.fKind > 4)))), (23, (V.bool (decide (a0.fKind > 4))))], [(1, ⟨false, 4, [(enc_T_api_Base a0)]⟩)], 232⟩ rfl rfl rfl ?_
      refine bifE (c := (decide (a0.fKind > 4))) (fun hc => ?_) fun hc => ?_
      · rw [hc]
        exact reg_end rfl
      · rw [hc]
        refine ra 2 17 ⟨[(1, (V.ptr 1 0 0)), (9, (V.ptr 1 0 0)), (10, (V.str a0.fName)), (11, (V.bool v1)), (12, (V.bool false)), (13, (V.bool false)), (14, (V.ptr 1 0 1)), (15, (I a0.fKind)), (16, (V.bool false)), (17, (V.bool false)), (18, (V.bool false)), (19, (V.ptr 1 0 1)), (20, (I a0.fKind)), (21, (V.bool false)), (22, (V.bool false)), (23, (V.bool false)), (24, (V.ptr 1 0 2)), (25, (sType (a0.fTypes)))], [(1, ⟨false, 4, [(enc_T_api_Base a0)]⟩)], 232⟩ rfl rfl rfl ?_
        refine Eq.trans (reg_pure (x := some ()) (w := fun _ => (I (a0.fTypes.length : Int))) rfl rfl rfl rfl (p_len (e := enc_T_api_Type) rfl rfl rfl rfl rfl rfl Go.Proofs.Try.underlying22)) ?_
        refine Eq.trans some_bind ?_
        refine ba 3 21 ⟨[(1, (V.ptr 1 0 0)), (9, (V.ptr 1 0 0)), (10, (V.str a0.fName)), (11, (V.bool v1)), (12, (V.bool false)), (13, (V.bool false)), (14, (V.ptr 1 0 1)), (15, (I a0.fKind)), (16, (V.bool false)), (17, (V.bool false)), (18, (V.bool false)), (19, (V.ptr 1 0 1)), (20, (I a0.fKind)), (21, (V.bool false)), (22, (V.bool false)), (23, (V.bool false)), (24, (V.ptr 1 0 2)), (25, (sType (a0.fTypes))), (26, (I (a0.fTypes.length : Int))), (27, (V.bool (decide ((a0.fTypes.length : Int) < 1)))), (28, (V.bool (decide ((a0.fTypes.length : Int) < 1)))), (29, (V.bool (decide ((a0.fTypes.length : Int) < 1))))], [(1, ⟨false, 4, [(enc_T_api_Base a0)]⟩)], 232⟩ rfl rfl rfl ?_
        refine bifE (c := (decide ((a0.fTypes.length : Int) < 1))) (fun hc => ?_) fun hc => ?_
        · rw [hc]
          exact reg_end rfl
        · rw [hc]
          refine ra 2 23 ⟨[(1, (V.ptr 1 0 0)), (9, (V.ptr 1 0 0)), (10, (V.str a0.fName)), (11, (V.bool v1)), (12, (V.bool false)), (13, (V.bool false)), (14, (V.ptr 1 0 1)), (15, (I a0.fKind)), (16, (V.bool false)), (17, (V.bool false)), (18, (V.bool false)), (19, (V.ptr 1 0 1)), (20, (I a0.fKind)), (21, (V.bool false)), (22, (V.bool false)), (23, (V.bool false)), (24, (V.ptr 1 0 2)), (25, (sType (a0.fTypes))), (26, (I (a0.fTypes.length : Int))), (27, (V.bool false)), (28, (V.bool false)), (29, (V.bool false)), (30, (V.ptr 1 0 2)), (31, (sType (a0.fTypes)))], [(1, ⟨false, 4, [(enc_T_api_Base a0)]⟩)], 232⟩ rfl rfl rfl ?_
          refine Eq.trans (reg_pure (x := some ()) (w := fun _ => (I (a0.fTypes.length : Int))) rfl rfl rfl rfl (p_len (e := enc_T_api_Type) rfl rfl rfl rfl rfl rfl Go.Proofs.Try.underlying22)) ?_
          refine Eq.trans some_bind ?_
          refine ba 3 27 ⟨[(1, (V.ptr 1 0 0)), (9, (V.ptr 1 0 0)), (10, (V.str a0.fName)), (11, (V.bool v1)), (12, (V.bool false)), (13, (V.bool false)), (14, (V.ptr 1 0 1)), (15, (I a0.fKind)), (16, (V.bool false)), (17, (V.bool false)), (18, (V.bool false)), (19, (V.ptr 1 0 1)), (20, (I a0.fKind)), (21, (V.bool false)), (22, (V.bool false)), (23, (V.bool false)), (24, (V.ptr 1 0 2)), (25, (sType (a0.fTypes))), (26, (I (a0.fTypes.length : Int))), (27, (V.bool false)), (28, (V.bool false)), (29, (V.bool false)), (30, (V.ptr 1 0 2)), (31, (sType (a0.fTypes))), (32, (I (a0.fTypes.length : Int))), (33, (V.bool (decide ((a0.fTypes.length : Int) > 8)))), (34, (V.bool (decide ((a0.fTypes.length : Int) > 8)))), (35, (V.bool (decide ((a0.fTypes.length : Int) > 8))))], [(1, ⟨false, 4, [(enc_T_api_Base a0)]⟩)], 232⟩ rfl rfl rfl ?_
          refine bifE (c := (decide ((a0.fTypes.length : Int) > 8))) (fun hc => ?_) fun hc => ?_
          · rw [hc]
            exact reg_end rfl
          · rw [hc]
            refine ra 2 29 ⟨[(1, (V.ptr 1 0 0)), (9, (V.ptr 1 0 0)), (10, (V.str a0.fName)), (11, (V.bool v1)), (12, (V.bool false)), (13, (V.bool false)), (14, (V.ptr 1 0 1)), (15, (I a0.fKind)), (16, (V.bool false)), (17, (V.bool false)), (18, (V.bool false)), (19, (V.ptr 1 0 1)), (20, (I a0.fKind)), (21, (V.bool false)), (22, (V.bool false)), (23, (V.bool false)), (24, (V.ptr 1 0 2)), (25, (sType (a0.fTypes))), (26, (I (a0.fTypes.length : Int))), (27, (V.bool false)), (28, (V.bool false)), (29, (V.bool false)), (30, (V.ptr 1 0 2)), (31, (sType (a0.fTypes))), (32, (I (a0.fTypes.length : Int))), (33, (V.bool false)), (34, (V.bool false)), (35, (V.bool false)), (36, (V.ptr 1 0 3)), (37, (sSearch (a0.fIndexes)))], [(1, ⟨false, 4, [(enc_T_api_Base a0)]⟩)], 232⟩ rfl rfl rfl ?_
            refine Eq.trans (reg_pure (x := some ()) (w := fun _ => (I (a0.fIndexes.length : Int))) rfl rfl rfl rfl (p_len (e := enc_T_api_Search) rfl rfl rfl rfl rfl rfl Go.Proofs.Try.underlying23)) ?_
            refine Eq.trans some_bind ?_
            exact bind_end rfl
theorem f29r2 (k : Nat) (a0 : T_api_Base) : RE k f29a2 f29o2 false ⟨[(1, (V.ptr 1 0 0)), (40, (V.bool true))], [(1, ⟨false, 4, [(enc_T_api_Base a0)]⟩)], 232⟩ = some ⟨[(2, (V.bool false))], [], 232⟩ :=
  rE rfl
theorem f29r3 (k : Nat) (a0 : T_api_Base) : RE k f29a3 f29o3 false ⟨[(1, (V.ptr 1 0 0)), (40, (V.bool false))], [(1, ⟨false, 4, [(enc_T_api_Base a0)]⟩)], 232⟩ = some ⟨[(1, (V.ptr 1 0 0)), (3, (I 0))], [(1, ⟨false, 4, [(enc_T_api_Base a0)]⟩)], 232⟩ :=
  rE rfl
theorem f29r4 (k : Nat) (a0 : T_api_Base) (x20 : Int) : RE k f29a4 f29o4 false ⟨[(1, (V.ptr 1 0 0)), (3, (I x20))], [(1, ⟨false, 4, [(enc_T_api_Base a0)]⟩)], 232⟩ = some ⟨[(1, (V.ptr 1 0 0)), (3, (I x20)), (45, (V.bool (decide (x20 < (a0.fTypes.length : Int)))))], [(1, ⟨false, 4, [(enc_T_api_Base a0)]⟩)], 232⟩ := by
  refine rg ?_
  refine ra 3 3 ⟨[(1, (V.ptr 1 0 0)), (3, (I x20)), (41, (I x20)), (42, (V.ptr 1 0 2)), (43, (sType (a0.fTypes)))], [(1, ⟨false, 4, [(enc_T_api_Base a0)]⟩)], 232⟩ rfl rfl rfl ?_
  refine Eq.trans (reg_pure (x := some ()) (w := fun _ => (I (a0.fTypes.length : Int))) rfl rfl rfl rfl (p_len (e := enc_T_api_Type) rfl rfl rfl rfl rfl rfl Go.Proofs.Try.underlying22)) ?_
  refine Eq.trans some_bind ?_
  exact bind_end rfl
theorem f29r6 (k : Nat) (a0 : T_api_Base) (x20 : Int) : RE k f29a6 f29o6 false ⟨[(1, (V.ptr 1 0 0)), (3, (I x20)), (45, (V.bool true))], [(1, ⟨false, 4, [(enc_T_api_Base a0)]⟩)], 232⟩ = ((idx a0.fTypes x20)).map (fun (o : T_api_Type) => (⟨[(1, (V.ptr 1 0 0)), (3, (I x20)), (4, (V.ptr 4 0 0))], [(1, ⟨false, 4, [(enc_T_api_Base a0)]⟩), (4, ⟨false, 8, [(enc_T_api_Type o)]⟩)], 232⟩ : St)) := by
  refine rg ?_
  refine ra 3 3 ⟨[(1, (V.ptr 1 0 0)), (3, (I x20)), (45, (V.bool true)), (48, (V.ptr 1 0 2)), (49, (sType (a0.fTypes))), (50, (I x20))], [(1, ⟨false, 4, [(enc_T_api_Base a0)]⟩)], 232⟩ rfl rfl rfl ?_
  refine Eq.trans (reg_pure (x := (idx a0.fTypes x20)) (w := fun v21 => (V.pro (enc_T_api_Type v21))) rfl rfl rfl rfl (p_index (e := enc_T_api_Type) rfl rfl rfl Go.Proofs.Try.underlying22 rfl (by decide))) ?_
  refine bind_self (fun v21 => ?_)
  exact bind_end rfl
theorem f29r7 (k : Nat) (a0 : T_api_Base) (x20 : Int) (o22 : T_api_Type) : RE k f29a7 f29o7 false ⟨[(1, (V.ptr 1 0 0)), (3, (I x20)), (4, (V.ptr 4 0 0))], [(1, ⟨false, 4, [(enc_T_api_Base a0)]⟩), (4, ⟨false, 8, [(enc_T_api_Type o22)]⟩)], 232⟩ = (((ref11_IsName k o22.fName).bind fun v23 => (bif (!v23) then (some (true)) else (bif (decide (o22.fMin < 1)) then (some (true)) else (bif (decide (o22.fMin > o22.fSize)) then (some (true)) else (bif (decide (o22.fSize > 40)) then (some (true)) else ((ref11_fields k o22).bind fun v24 => (some ((!v24)))))))))).map (fun (o : Bool) => (⟨[(1, (V.ptr 1 0 0)), (3, (I x20)), (4, (V.ptr 4 0 0)), (78, (V.bool o))], [(1, ⟨false, 4, [(enc_T_api_Base a0)]⟩), (4, ⟨false, 8, [(enc_T_api_Type o22)]⟩)], 232⟩ : St)) := by
  refine rg ?_
  refine ra 2 2 ⟨[(1, (V.ptr 1 0 0)), (3, (I x20)), (4, (V.ptr 4 0 0)), (53, (V.ptr 4 0 0)), (54, (V.str o22.fName))], [(1, ⟨false, 4, [(enc_T_api_Base a0)]⟩), (4, ⟨false, 8, [(enc_T_api_Type o22)]⟩)], 232⟩ rfl rfl rfl ?_
  refine Eq.trans (reg_pure (x := (ref11_IsName k o22.fName)) (w := fun v23 => (V.bool v23)) rfl rfl rfl rfl (p_call rfl rfl rfl rfl rfl (ref11_IsName_ok k o22.fName) (.inl rfl))) ?_
  refine bindE (fun v23 => ?_)
  refine ba 2 5 ⟨[(1, (V.ptr 1 0 0)), (3, (I x20)), (4, (V.ptr 4 0 0)), (53, (V.ptr 4 0 0)), (54, (V.str o22.fName)), (55, (V.bool v23)), (56, (V.bool (!v23))), (57, (V.bool (!v23)))], [(1, ⟨false, 4, [(enc_T_api_Base a0)]⟩), (4, ⟨false, 8, [(enc_T_api_Type o22)]⟩)], 232⟩ rfl rfl rfl ?_
  refine bifE (c := (!v23)) (fun hc => ?_) fun hc => ?_
  · rw [hc]
    exact reg_end rfl
  · rw [hc]
    refine ra 5 10 ⟨[(1, (V.ptr 1 0 0)), (3, (I x20)), (4, (V.ptr 4 0 0)), (53, (V.ptr 4 0 0)), (54, (V.str o22.fName)), (55, (V.bool v23)), (56, (V.bool false)), (57, (V.bool false)), (58, (V.ptr 4 0 2)), (59, (I o22.fMin)), (60, (V.bool (decide (o22.fMin < 1)))), (61, (V.bool (decide (o22.fMin < 1)))), (62, (V.bool (decide (o22.fMin < 1))))], [(1, ⟨false, 4, [(enc_T_api_Base a0)]⟩), (4, ⟨false, 8, [(enc_T_api_Type o22)]⟩)], 232⟩ rfl rfl rfl ?_
    refine bifE (c := (decide (o22.fMin < 1))) (fun hc => ?_) fun hc => ?_
    · rw [hc]
      exact reg_end rfl
    · rw [hc]
      refine ra 7 17 ⟨[(1, (V.ptr 1 0 0)), (3, (I x20)), (4, (V.ptr 4 0 0)), (53, (V.ptr 4 0 0)), (54, (V.str o22.fName)), (55, (V.bool v23)), (56, (V.bool false)), (57, (V.bool false)), (58, (V.ptr 4 0 2)), (59, (I o22.fMin)), (60, (V.bool false)), (61, (V.bool false)), (62, (V.bool false)), (63, (V.ptr 4 0 2)), (64, (I o22.fMin)), (65, (V.ptr 4 0 3)), (66, (I o22.fSize)), (67, (V.bool (decide (o22.fMin > o22.fSize)))), (68, (V.bool (decide (o22.fMin > o22.fSize)))), (69, (V.bool (decide (o22.fMin > o22.fSize))))], [(1, ⟨false, 4, [(enc_T_api_Base a0)]⟩), (4, ⟨false, 8, [(enc_T_api_Type o22)]⟩)], 232⟩ rfl rfl rfl ?_
      refine bifE (c := (decide (o22.fMin > o22.fSize))) (fun hc => ?_) fun hc => ?_
      · rw [hc]
        exact reg_end rfl
      · rw [hc]
        refine ra 5 22 ⟨[(1, (V.ptr 1 0 0)), (3, (I x20)), (4, (V.ptr 4 0 0)), (53, (V.ptr 4 0 0)), (54, (V.str o22.fName)), (55, (V.bool v23)), (56, (V.bool false)), (57, (V.bool false)), (58, (V.ptr 4 0 2)), (59, (I o22.fMin)), (60, (V.bool false)), (61, (V.bool false)), (62, (V.bool false)), (63, (V.ptr 4 0 2)), (64, (I o22.fMin)), (65, (V.ptr 4 0 3)), (66, (I o22.fSize)), (67, (V.bool false)), (68, (V.bool false)), (69, (V.bool false)), (70, (V.ptr 4 0 3)), (71, (I o22.fSize)), (72, (V.bool (decide (o22.fSize > 40)))), (73, (V.bool (decide (o22.fSize > 40)))), (74, (V.bool (decide (o22.fSize > 40))))], [(1, ⟨false, 4, [(enc_T_api_Base a0)]⟩), (4, ⟨false, 8, [(enc_T_api_Type o22)]⟩)], 232⟩ rfl rfl rfl ?_
        refine bifE (c := (decide (o22.fSize > 40))) (fun hc => ?_) fun hc => ?_
        · rw [hc]
          exact reg_end rfl
        · rw [hc]
          refine ra 1 23 ⟨[(1, (V.ptr 1 0 0)), (3, (I x20)), (4, (V.ptr 4 0 0)), (53, (V.ptr 4 0 0)), (54, (V.str o22.fName)), (55, (V.bool v23)), (56, (V.bool false)), (57, (V.bool false)), (58, (V.ptr 4 0 2)), (59, (I o22.fMin)), (60, (V.bool false)), (61, (V.bool false)), (62, (V.bool false)), (63, (V.ptr 4 0 2)), (64, (I o22.fMin)), (65, (V.ptr 4 0 3)), (66, (I o22.fSize)), (67, (V.bool false)), (68, (V.bool false)), (69, (V.bool false)), (70, (V.ptr 4 0 3)), (71, (I o22.fSize)), (72, (V.bool false)), (73, (V.bool false)), (74, (V.bool false)), (75, (enc_T_api_Type o22))], [(1, ⟨false, 4, [(enc_T_api_Base a0)]⟩), (4, ⟨false, 8, [(enc_T_api_Type o22)]⟩)], 232⟩ rfl rfl rfl ?_
          refine Eq.trans (reg_pure (x := (ref11_fields k o22)) (w := fun v24 => (V.bool v24)) rfl rfl rfl rfl (p_call rfl rfl rfl rfl rfl (ref11_fields_ok k o22) (.inl rfl))) ?_
          refine bindE (fun v24 => ?_)
          exact bind_end rfl
theorem f29r8 (k : Nat) (a0 : T_api_Base) (x20 : Int) (o22 : T_api_Type) : RE k f29a8 f29o8 false ⟨[(1, (V.ptr 1 0 0)), (3, (I x20)), (4, (V.ptr 4 0 0)), (78, (V.bool true))], [(1, ⟨false, 4, [(enc_T_api_Base a0)]⟩), (4, ⟨false, 8, [(enc_T_api_Type o22)]⟩)], 232⟩ = some ⟨[(2, (V.bool false))], [], 232⟩ :=
  rE rfl
theorem f29r9 (k : Nat) (a0 : T_api_Base) (x20 : Int) (o22 : T_api_Type) : RE k f29a9 f29o9 false ⟨[(1, (V.ptr 1 0 0)), (3, (I x20)), (4, (V.ptr 4 0 0)), (78, (V.bool false))], [(1, ⟨false, 4, [(enc_T_api_Base a0)]⟩), (4, ⟨false, 8, [(enc_T_api_Type o22)]⟩)], 232⟩ = some ⟨[(1, (V.ptr 1 0 0)), (3, (I x20)), (4, (V.ptr 4 0 0)), (5, (I 0))], [(1, ⟨false, 4, [(enc_T_api_Base a0)]⟩), (4, ⟨false, 8, [(enc_T_api_Type o22)]⟩)], 232⟩ :=
  rE rfl
theorem f29r10 (k : Nat) (a0 : T_api_Base) (x20 : Int) (o22 : T_api_Type) (x28 : Int) : RE k f29a10 f29o10 false ⟨[(1, (V.ptr 1 0 0)), (3, (I x20)), (4, (V.ptr 4 0 0)), (5, (I x28))], [(1, ⟨false, 4, [(enc_T_api_Base a0)]⟩), (4, ⟨false, 8, [(enc_T_api_Type o22)]⟩)], 232⟩ = some ⟨[(1, (V.ptr 1 0 0)), (3, (I x20)), (4, (V.ptr 4 0 0)), (5, (I x28)), (81, (V.bool (decide (x28 < x20))))], [(1, ⟨false, 4, [(enc_T_api_Base a0)]⟩), (4, ⟨false, 8, [(enc_T_api_Type o22)]⟩)], 232⟩ :=
  rE rfl
theorem f29r12 (k : Nat) (a0 : T_api_Base) (x20 : Int) (o22 : T_api_Type) (x28 : Int) : RE k f29a12 f29o12 true ⟨[(1, (V.ptr 1 0 0)), (3, (I x20)), (4, (V.ptr 4 0 0)), (5, (I x28)), (81, (V.bool true))], [(1, ⟨false, 4, [(enc_T_api_Base a0)]⟩), (4, ⟨false, 8, [(enc_T_api_Type o22)]⟩)], 232⟩ = (((idx a0.fTypes x28).bind fun v29 => (some ((v29.fName == o22.fName))))).map (fun (o : Bool) => (⟨[(1, (V.ptr 1 0 0)), (3, (I x20)), (4, (V.ptr 4 0 0)), (5, (I x28)), (92, (V.bool o))], [(1, ⟨false, 4, [(enc_T_api_Base a0)]⟩), (4, ⟨false, 8, [(enc_T_api_Type o22)]⟩)], 232⟩ : St)) := by
  refine Eq.trans (regionE_regp (p := 9) (dk := true) (t := [(1, (V.ptr 1 0 0)), (3, (I x20)), (4, (V.ptr 4 0 0)), (5, (I x28)), (81, (V.bool true))]) (σ := [(1, ⟨false, 4, [(enc_T_api_Base a0)]⟩), (4, ⟨false, 8, [(enc_T_api_Type o22)]⟩)]) (n := 232) (by decide) (by decide) rfl) ?_
  refine Eq.trans (regp_adv (m := 3) (j := 3) (t' := [(1, (V.ptr 1 0 0)), (3, (I x20)), (4, (V.ptr 4 0 0)), (5, (I x28)), (81, (V.bool true)), (84, (V.ptr 1 0 2)), (85, (sType (a0.fTypes))), (86, (I x28))]) rfl rfl rfl) ?_
  refine Eq.trans (regp_pure (x := (idx a0.fTypes x28)) (w := fun v29 => (V.pro (enc_T_api_Type v29))) rfl rfl rfl rfl rfl (p_index (e := enc_T_api_Type) rfl rfl rfl Go.Proofs.Try.underlying22 rfl (by decide))) ?_
  refine bindE (fun v29 => ?_)
  exact regp_end rfl
theorem f29r13 (k : Nat) (a0 : T_api_Base) (x20 : Int) (o22 : T_api_Type) (x28 : Int) : RE k f29a13 f29o13 false ⟨[(1, (V.ptr 1 0 0)), (3, (I x20)), (4, (V.ptr 4 0 0)), (5, (I x28)), (92, (V.bool true))], [(1, ⟨false, 4, [(enc_T_api_Base a0)]⟩), (4, ⟨false, 8, [(enc_T_api_Type o22)]⟩)], 232⟩ = some ⟨[(2, (V.bool false))], [], 232⟩ :=
  rE rfl
theorem f29r11 (k : Nat) (a0 : T_api_Base) (x20 : Int) (o22 : T_api_Type) (x28 : Int) : RE k f29a11 f29o11 false ⟨[(1, (V.ptr 1 0 0)), (3, (I x20)), (4, (V.ptr 4 0 0)), (5, (I x28)), (92, (V.bool false))], [(1, ⟨false, 4, [(enc_T_api_Base a0)]⟩), (4, ⟨false, 8, [(enc_T_api_Type o22)]⟩)], 232⟩ = some ⟨[(1, (V.ptr 1 0 0)), (3, (I x20)), (4, (V.ptr 4 0 0)), (5, (I (Go.IntKind.wrap .i64 (x28 + 1))))], [(1, ⟨false, 4, [(enc_T_api_Base a0)]⟩), (4, ⟨false, 8, [(enc_T_api_Type o22)]⟩)], 232⟩ :=
  rE rfl
theorem ref11_Valid_L2_ok (k : Nat) (a0 : T_api_Base) (x20 : Int) (o22 : T_api_Type)  (K0 : Int → Option Bool) (Kst : X × St → Option (V × List V)) (hK0 : ∀ (y0 : Int), Kst (X.exit 2, ⟨[(1, (V.ptr 1 0 0)), (3, (I x20)), (4, (V.ptr 4 0 0)), (5, (I y0)), (81, (V.bool false))], [(1, ⟨false, 4, [(enc_T_api_Base a0)]⟩), (4, ⟨false, 8, [(enc_T_api_Type o22)]⟩)], 232⟩) = (K0 y0).map ref11_Valid_fin) (hret : ∀ s, Kst (X.ret, s) = endK prog 232 [(enc_T_api_Base a0)] [] [.tmp 2] (X.ret, s)) :
    ∀ (m : Nat) (x28 : Int), (iter (exec prog (EV k) f29n k f29b0) m ⟨[(1, (V.ptr 1 0 0)), (3, (I x20)), (4, (V.ptr 4 0 0)), (5, (I x28))], [(1, ⟨false, 4, [(enc_T_api_Base a0)]⟩), (4, ⟨false, 8, [(enc_T_api_Type o22)]⟩)], 232⟩).bind Kst = (ref11_Valid_L2 a0 x20 o22 K0 m x28).map ref11_Valid_fin := by
  intro m
  induction m with
  | zero => intros; rfl
  | succ m ih =>
    intro x28
    unfold ref11_Valid_L2
    refine Eq.trans k_round ?_
    refine Eq.trans k_assoc ?_
    refine Eq.trans (k_region0 rfl (f29r10 k a0 x20 o22 x28)) ?_
    refine Eq.trans (k_cond (t := (decide (x28 < x20))) rfl) ?_
    refine bifE2 (fun hc => ?_) fun hc => ?_
    · rw [hc]
      refine Eq.trans k_skip ?_
      refine Eq.trans k_block ?_
      refine Eq.trans (k_region rfl (f29r12 k a0 x20 o22 x28)) ?_
      refine bindE (fun o30 => ?_)
      refine Eq.trans (k_lcond (t := o30) rfl) ?_
      refine bifE2 (fun hc => ?_) fun hc => ?_
      · rw [hc]
        refine Eq.trans (k_region0 rfl (f29r13 k a0 x20 o22 x28)) ?_
        refine Eq.trans k_lret ?_
        refine Eq.trans blk_ret ?_
        refine Eq.trans loop_ret ?_
        refine Eq.trans (hret _) ?_
        rfl
      · rw [hc]
        refine Eq.trans k_lskip ?_
        refine Eq.trans blk_normal ?_
        refine Eq.trans (k_lregion0 rfl (f29r11 k a0 x20 o22 x28)) ?_
        refine Eq.trans loop_normal ?_
        exact ih (Go.IntKind.wrap .i64 (x28 + 1))
    · rw [hc]
      refine Eq.trans k_exit ?_
      refine Eq.trans loop_exit ?_
      exact hK0 x28
theorem f29r14 (k : Nat) (a0 : T_api_Base) (x20 : Int) (o22 : T_api_Type) (y31 : Int) : RE k f29a14 f29o14 false ⟨[(1, (V.ptr 1 0 0)), (3, (I x20)), (4, (V.ptr 4 0 0)), (5, (I y31)), (81, (V.bool false))], [(1, ⟨false, 4, [(enc_T_api_Base a0)]⟩), (4, ⟨false, 8, [(enc_T_api_Type o22)]⟩)], 232⟩ = some ⟨[(1, (V.ptr 1 0 0)), (3, (I x20)), (4, (V.ptr 4 0 0)), (94, (V.bool (x20 == 0)))], [(1, ⟨false, 4, [(enc_T_api_Base a0)]⟩), (4, ⟨false, 8, [(enc_T_api_Type o22)]⟩)], 232⟩ :=
  rE rfl
theorem f29r15 (k : Nat) (a0 : T_api_Base) (x20 : Int) (o22 : T_api_Type) : RE k f29a15 f29o15 false ⟨[(1, (V.ptr 1 0 0)), (3, (I x20)), (4, (V.ptr 4 0 0)), (94, (V.bool true))], [(1, ⟨false, 4, [(enc_T_api_Base a0)]⟩), (4, ⟨false, 8, [(enc_T_api_Type o22)]⟩)], 232⟩ = ((bif (o22.fParent != (-1)) then (some (true)) else (bif (decide (o22.fKey < 0)) then (some (true)) else (bif (!o22.fUnique) then (some (true)) else ((idx o22.fFields o22.fKey).bind fun v32 => (some ((decide (v32.fBytes > 24))))))))).map (fun (o : Bool) => (⟨[(1, (V.ptr 1 0 0)), (3, (I x20)), (117, (V.bool o))], [(1, ⟨false, 4, [(enc_T_api_Base a0)]⟩)], 232⟩ : St)) := by
  refine rg ?_
  refine ra 4 4 ⟨[(1, (V.ptr 1 0 0)), (3, (I x20)), (4, (V.ptr 4 0 0)), (94, (V.bool true)), (95, (V.ptr 4 0 1)), (96, (I o22.fParent)), (97, (V.bool (o22.fParent != (-1)))), (98, (V.bool (o22.fParent != (-1))))], [(1, ⟨false, 4, [(enc_T_api_Base a0)]⟩), (4, ⟨false, 8, [(enc_T_api_Type o22)]⟩)], 232⟩ rfl rfl rfl ?_
  refine bifE (c := (o22.fParent != (-1))) (fun hc => ?_) fun hc => ?_
  · rw [hc]
    exact reg_end rfl
  · rw [hc]
    refine ra 5 9 ⟨[(1, (V.ptr 1 0 0)), (3, (I x20)), (4, (V.ptr 4 0 0)), (94, (V.bool true)), (95, (V.ptr 4 0 1)), (96, (I o22.fParent)), (97, (V.bool false)), (98, (V.bool false)), (99, (V.ptr 4 0 5)), (100, (I o22.fKey)), (101, (V.bool (decide (o22.fKey < 0)))), (102, (V.bool (decide (o22.fKey < 0)))), (103, (V.bool (decide (o22.fKey < 0))))], [(1, ⟨false, 4, [(enc_T_api_Base a0)]⟩), (4, ⟨false, 8, [(enc_T_api_Type o22)]⟩)], 232⟩ rfl rfl rfl ?_
    refine bifE (c := (decide (o22.fKey < 0))) (fun hc => ?_) fun hc => ?_
    · rw [hc]
      exact reg_end rfl
    · rw [hc]
      refine ra 5 14 ⟨[(1, (V.ptr 1 0 0)), (3, (I x20)), (4, (V.ptr 4 0 0)), (94, (V.bool true)), (95, (V.ptr 4 0 1)), (96, (I o22.fParent)), (97, (V.bool false)), (98, (V.bool false)), (99, (V.ptr 4 0 5)), (100, (I o22.fKey)), (101, (V.bool false)), (102, (V.bool false)), (103, (V.bool false)), (104, (V.ptr 4 0 6)), (105, (V.bool o22.fUnique)), (106, (V.bool (!o22.fUnique))), (107, (V.bool (!o22.fUnique))), (108, (V.bool (!o22.fUnique)))], [(1, ⟨false, 4, [(enc_T_api_Base a0)]⟩), (4, ⟨false, 8, [(enc_T_api_Type o22)]⟩)], 232⟩ rfl rfl rfl ?_
      refine bifE (c := (!o22.fUnique)) (fun hc => ?_) fun hc => ?_
      · rw [hc]
        exact reg_end rfl
      · rw [hc]
        refine ra 4 18 ⟨[(1, (V.ptr 1 0 0)), (3, (I x20)), (4, (V.ptr 4 0 0)), (94, (V.bool true)), (95, (V.ptr 4 0 1)), (96, (I o22.fParent)), (97, (V.bool false)), (98, (V.bool false)), (99, (V.ptr 4 0 5)), (100, (I o22.fKey)), (101, (V.bool false)), (102, (V.bool false)), (103, (V.bool false)), (104, (V.ptr 4 0 6)), (105, (V.bool o22.fUnique)), (106, (V.bool false)), (107, (V.bool false)), (108, (V.bool false)), (109, (V.ptr 4 0 4)), (110, (sField (o22.fFields))), (111, (V.ptr 4 0 5)), (112, (I o22.fKey))], [(1, ⟨false, 4, [(enc_T_api_Base a0)]⟩), (4, ⟨false, 8, [(enc_T_api_Type o22)]⟩)], 232⟩ rfl rfl rfl ?_
        refine Eq.trans (reg_pure (x := (idx o22.fFields o22.fKey)) (w := fun v32 => (V.pro (enc_T_api_Field v32))) rfl rfl rfl rfl (p_index (e := enc_T_api_Field) rfl rfl rfl Go.Proofs.Try.underlying53 rfl (by decide))) ?_
        refine bindE (fun v32 => ?_)
        exact bind_end rfl
theorem f29r16 (k : Nat) (a0 : T_api_Base) (x20 : Int) : RE k f29a16 f29o16 false ⟨[(1, (V.ptr 1 0 0)), (3, (I x20)), (117, (V.bool true))], [(1, ⟨false, 4, [(enc_T_api_Base a0)]⟩)], 232⟩ = some ⟨[(2, (V.bool false))], [], 232⟩ :=
  rE rfl
theorem f29r5 (k : Nat) (a0 : T_api_Base) (x20 : Int) : RE k f29a5 f29o5 false ⟨[(1, (V.ptr 1 0 0)), (3, (I x20)), (117, (V.bool false))], [(1, ⟨false, 4, [(enc_T_api_Base a0)]⟩)], 232⟩ = some ⟨[(1, (V.ptr 1 0 0)), (3, (I (Go.IntKind.wrap .i64 (x20 + 1))))], [(1, ⟨false, 4, [(enc_T_api_Base a0)]⟩)], 232⟩ :=
  rE rfl
theorem f29r17 (k : Nat) (a0 : T_api_Base) (x20 : Int) (o22 : T_api_Type) : RE k f29a17 f29o17 false ⟨[(1, (V.ptr 1 0 0)), (3, (I x20)), (4, (V.ptr 4 0 0)), (94, (V.bool false))], [(1, ⟨false, 4, [(enc_T_api_Base a0)]⟩), (4, ⟨false, 8, [(enc_T_api_Type o22)]⟩)], 232⟩ = ((bif (decide (o22.fParent < 0)) then (some (true)) else (bif (decide (o22.fParent ≥ x20)) then (some (true)) else (bif (o22.fParent != (Go.IntKind.wrap .i64 (x20 - 1))) then ((ref11_above k a0 o22.fParent (Go.IntKind.wrap .i64 (x20 - 1))).bind fun v34 => (bif (!v34) then (some (true)) else ((ref11_way k a0 x20).bind fun v35 => (some ((decide ((v35.length : Int) > 5))))))) else ((ref11_way k a0 x20).bind fun v36 => (some ((decide ((v36.length : Int) > 5))))))))).map (fun (o : Bool) => (⟨[(1, (V.ptr 1 0 0)), (3, (I x20)), (149, (V.bool o))], [(1, ⟨false, 4, [(enc_T_api_Base a0)]⟩)], 232⟩ : St)) := by
  refine rg ?_
  refine ra 4 4 ⟨[(1, (V.ptr 1 0 0)), (3, (I x20)), (4, (V.ptr 4 0 0)), (94, (V.bool false)), (118, (V.ptr 4 0 1)), (119, (I o22.fParent)), (120, (V.bool (decide (o22.fParent < 0)))), (121, (V.bool (decide (o22.fParent < 0))))], [(1, ⟨false, 4, [(enc_T_api_Base a0)]⟩), (4, ⟨false, 8, [(enc_T_api_Type o22)]⟩)], 232⟩ rfl rfl rfl ?_
  refine bifE (c := (decide (o22.fParent < 0))) (fun hc => ?_) fun hc => ?_
  · rw [hc]
    exact reg_end rfl
  · rw [hc]
    refine ra 6 10 ⟨[(1, (V.ptr 1 0 0)), (3, (I x20)), (4, (V.ptr 4 0 0)), (94, (V.bool false)), (118, (V.ptr 4 0 1)), (119, (I o22.fParent)), (120, (V.bool false)), (121, (V.bool false)), (122, (V.ptr 4 0 1)), (123, (I o22.fParent)), (124, (I x20)), (125, (V.bool (decide (o22.fParent ≥ x20)))), (126, (V.bool (decide (o22.fParent ≥ x20)))), (127, (V.bool (decide (o22.fParent ≥ x20))))], [(1, ⟨false, 4, [(enc_T_api_Base a0)]⟩), (4, ⟨false, 8, [(enc_T_api_Type o22)]⟩)], 232⟩ rfl rfl rfl ?_
    refine bifE (c := (decide (o22.fParent ≥ x20))) (fun hc => ?_) fun hc => ?_
    · rw [hc]
      exact reg_end rfl
    · rw [hc]
      refine ra 6 16 ⟨[(1, (V.ptr 1 0 0)), (3, (I x20)), (4, (V.ptr 4 0 0)), (94, (V.bool false)), (118, (V.ptr 4 0 1)), (119, (I o22.fParent)), (120, (V.bool false)), (121, (V.bool false)), (122, (V.ptr 4 0 1)), (123, (I o22.fParent)), (124, (I x20)), (125, (V.bool false)), (126, (V.bool false)), (127, (V.bool false)), (128, (V.ptr 4 0 1)), (129, (I o22.fParent)), (130, (I x20)), (131, (I (Go.IntKind.wrap .i64 (x20 - 1)))), (132, (V.bool (o22.fParent != (Go.IntKind.wrap .i64 (x20 - 1))))), (133, (V.bool (o22.fParent != (Go.IntKind.wrap .i64 (x20 - 1)))))], [(1, ⟨false, 4, [(enc_T_api_Base a0)]⟩), (4, ⟨false, 8, [(enc_T_api_Type o22)]⟩)], 232⟩ rfl rfl rfl ?_
      refine bifE (c := (o22.fParent != (Go.IntKind.wrap .i64 (x20 - 1)))) (fun hc => ?_) fun hc => ?_
      · rw [hc]
        refine ra 5 21 ⟨[(1, (V.ptr 1 0 0)), (3, (I x20)), (4, (V.ptr 4 0 0)), (94, (V.bool false)), (118, (V.ptr 4 0 1)), (119, (I o22.fParent)), (120, (V.bool false)), (121, (V.bool false)), (122, (V.ptr 4 0 1)), (123, (I o22.fParent)), (124, (I x20)), (125, (V.bool false)), (126, (V.bool false)), (127, (V.bool false)), (128, (V.ptr 4 0 1)), (129, (I o22.fParent)), (130, (I x20)), (131, (I (Go.IntKind.wrap .i64 (x20 - 1)))), (132, (V.bool true)), (133, (V.bool true)), (134, (enc_T_api_Base a0)), (135, (V.ptr 4 0 1)), (136, (I o22.fParent)), (137, (I x20)), (138, (I (Go.IntKind.wrap .i64 (x20 - 1))))], [(1, ⟨false, 4, [(enc_T_api_Base a0)]⟩), (4, ⟨false, 8, [(enc_T_api_Type o22)]⟩)], 232⟩ rfl rfl rfl ?_
        refine Eq.trans (reg_pure (x := (ref11_above k a0 o22.fParent (Go.IntKind.wrap .i64 (x20 - 1)))) (w := fun v34 => (V.bool v34)) rfl rfl rfl rfl (p_call rfl rfl rfl rfl rfl (ref11_above_ok k a0 o22.fParent (Go.IntKind.wrap .i64 (x20 - 1))) (.inl rfl))) ?_
        refine bindE (fun v34 => ?_)
        refine ba 4 26 ⟨[(1, (V.ptr 1 0 0)), (3, (I x20)), (4, (V.ptr 4 0 0)), (94, (V.bool false)), (118, (V.ptr 4 0 1)), (119, (I o22.fParent)), (120, (V.bool false)), (121, (V.bool false)), (122, (V.ptr 4 0 1)), (123, (I o22.fParent)), (124, (I x20)), (125, (V.bool false)), (126, (V.bool false)), (127, (V.bool false)), (128, (V.ptr 4 0 1)), (129, (I o22.fParent)), (130, (I x20)), (131, (I (Go.IntKind.wrap .i64 (x20 - 1)))), (132, (V.bool true)), (133, (V.bool true)), (134, (enc_T_api_Base a0)), (135, (V.ptr 4 0 1)), (136, (I o22.fParent)), (137, (I x20)), (138, (I (Go.IntKind.wrap .i64 (x20 - 1)))), (139, (V.bool v34)), (140, (V.bool (!v34))), (141, (V.bool (!v34))), (142, (V.bool (!v34))), (143, (V.bool (!v34)))], [(1, ⟨false, 4, [(enc_T_api_Base a0)]⟩), (4, ⟨false, 8, [(enc_T_api_Type o22)]⟩)], 232⟩ rfl rfl rfl ?_
        refine bifE (c := (!v34)) (fun hc => ?_) fun hc => ?_
        · rw [hc]
          exact reg_end rfl
        · rw [hc]
          refine ra 2 28 ⟨[(1, (V.ptr 1 0 0)), (3, (I x20)), (4, (V.ptr 4 0 0)), (94, (V.bool false)), (118, (V.ptr 4 0 1)), (119, (I o22.fParent)), (120, (V.bool false)), (121, (V.bool false)), (122, (V.ptr 4 0 1)), (123, (I o22.fParent)), (124, (I x20)), (125, (V.bool false)), (126, (V.bool false)), (127, (V.bool false)), (128, (V.ptr 4 0 1)), (129, (I o22.fParent)), (130, (I x20)), (131, (I (Go.IntKind.wrap .i64 (x20 - 1)))), (132, (V.bool true)), (133, (V.bool true)), (134, (enc_T_api_Base a0)), (135, (V.ptr 4 0 1)), (136, (I o22.fParent)), (137, (I x20)), (138, (I (Go.IntKind.wrap .i64 (x20 - 1)))), (139, (V.bool v34)), (140, (V.bool false)), (141, (V.bool false)), (142, (V.bool false)), (143, (V.bool false)), (144, (enc_T_api_Base a0)), (145, (I x20))], [(1, ⟨false, 4, [(enc_T_api_Base a0)]⟩), (4, ⟨false, 8, [(enc_T_api_Type o22)]⟩)], 232⟩ rfl rfl rfl ?_
          refine Eq.trans (reg_pure (x := (ref11_way k a0 x20)) (w := fun v35 => (sI v35)) rfl rfl rfl rfl (p_call rfl rfl rfl rfl rfl (ref11_way_ok k a0 x20) (.inl rfl))) ?_
          refine bindE (fun v35 => ?_)
          refine ba 0 29 ⟨[(1, (V.ptr 1 0 0)), (3, (I x20)), (4, (V.ptr 4 0 0)), (94, (V.bool false)), (118, (V.ptr 4 0 1)), (119, (I o22.fParent)), (120, (V.bool false)), (121, (V.bool false)), (122, (V.ptr 4 0 1)), (123, (I o22.fParent)), (124, (I x20)), (125, (V.bool false)), (126, (V.bool false)), (127, (V.bool false)), (128, (V.ptr 4 0 1)), (129, (I o22.fParent)), (130, (I x20)), (131, (I (Go.IntKind.wrap .i64 (x20 - 1)))), (132, (V.bool true)), (133, (V.bool true)), (134, (enc_T_api_Base a0)), (135, (V.ptr 4 0 1)), (136, (I o22.fParent)), (137, (I x20)), (138, (I (Go.IntKind.wrap .i64 (x20 - 1)))), (139, (V.bool v34)), (140, (V.bool false)), (141, (V.bool false)), (142, (V.bool false)), (143, (V.bool false)), (144, (enc_T_api_Base a0)), (145, (I x20)), (146, (sI v35))], [(1, ⟨false, 4, [(enc_T_api_Base a0)]⟩), (4, ⟨false, 8, [(enc_T_api_Type o22)]⟩)], 232⟩ rfl rfl rfl ?_
          refine Eq.trans (reg_pure (x := some ()) (w := fun _ => (I (v35.length : Int))) rfl rfl rfl rfl (p_len (e := I) rfl rfl rfl rfl rfl rfl Go.Proofs.Try.underlying28)) ?_
          refine Eq.trans some_bind ?_
          exact bind_end rfl
      · rw [hc]
        refine ra 12 28 ⟨[(1, (V.ptr 1 0 0)), (3, (I x20)), (4, (V.ptr 4 0 0)), (94, (V.bool false)), (118, (V.ptr 4 0 1)), (119, (I o22.fParent)), (120, (V.bool false)), (121, (V.bool false)), (122, (V.ptr 4 0 1)), (123, (I o22.fParent)), (124, (I x20)), (125, (V.bool false)), (126, (V.bool false)), (127, (V.bool false)), (128, (V.ptr 4 0 1)), (129, (I o22.fParent)), (130, (I x20)), (131, (I (Go.IntKind.wrap .i64 (x20 - 1)))), (132, (V.bool false)), (133, (V.bool false)), (134, (V.tup [])), (135, (V.tup [])), (136, (V.tup [])), (137, (V.tup [])), (138, (V.tup [])), (139, (V.tup [])), (140, (V.tup [])), (141, (V.bool false)), (142, (V.bool false)), (143, (V.bool false)), (144, (enc_T_api_Base a0)), (145, (I x20))], [(1, ⟨false, 4, [(enc_T_api_Base a0)]⟩), (4, ⟨false, 8, [(enc_T_api_Type o22)]⟩)], 232⟩ rfl rfl rfl ?_
        refine Eq.trans (reg_pure (x := (ref11_way k a0 x20)) (w := fun v36 => (sI v36)) rfl rfl rfl rfl (p_call rfl rfl rfl rfl rfl (ref11_way_ok k a0 x20) (.inl rfl))) ?_
        refine bindE (fun v36 => ?_)
        refine ba 0 29 ⟨[(1, (V.ptr 1 0 0)), (3, (I x20)), (4, (V.ptr 4 0 0)), (94, (V.bool false)), (118, (V.ptr 4 0 1)), (119, (I o22.fParent)), (120, (V.bool false)), (121, (V.bool false)), (122, (V.ptr 4 0 1)), (123, (I o22.fParent)), (124, (I x20)), (125, (V.bool false)), (126, (V.bool false)), (127, (V.bool false)), (128, (V.ptr 4 0 1)), (129, (I o22.fParent)), (130, (I x20)), (131, (I (Go.IntKind.wrap .i64 (x20 - 1)))), (132, (V.bool false)), (133, (V.bool false)), (134, (V.tup [])), (135, (V.tup [])), (136, (V.tup [])), (137, (V.tup [])), (138, (V.tup [])), (139, (V.tup [])), (140, (V.tup [])), (141, (V.bool false)), (142, (V.bool false)), (143, (V.bool false)), (144, (enc_T_api_Base a0)), (145, (I x20)), (146, (sI v36))], [(1, ⟨false, 4, [(enc_T_api_Base a0)]⟩), (4, ⟨false, 8, [(enc_T_api_Type o22)]⟩)], 232⟩ rfl rfl rfl ?_
        refine Eq.trans (reg_pure (x := some ()) (w := fun _ => (I (v36.length : Int))) rfl rfl rfl rfl (p_len (e := I) rfl rfl rfl rfl rfl rfl Go.Proofs.Try.underlying28)) ?_
        refine Eq.trans some_bind ?_
        exact bind_end rfl
theorem f29r18 (k : Nat) (a0 : T_api_Base) (x20 : Int) : RE k f29a18 f29o18 false ⟨[(1, (V.ptr 1 0 0)), (3, (I x20)), (149, (V.bool true))], [(1, ⟨false, 4, [(enc_T_api_Base a0)]⟩)], 232⟩ = some ⟨[(2, (V.bool false))], [], 232⟩ :=
  rE rfl
theorem ref11_Valid_r5' (k : Nat) (a0 : T_api_Base) (x20 : Int) : RE k f29a5 f29o5 false ⟨[(1, (V.ptr 1 0 0)), (3, (I x20)), (149, (V.bool false))], [(1, ⟨false, 4, [(enc_T_api_Base a0)]⟩)], 232⟩ = some ⟨[(1, (V.ptr 1 0 0)), (3, (I (Go.IntKind.wrap .i64 (x20 + 1))))], [(1, ⟨false, 4, [(enc_T_api_Base a0)]⟩)], 232⟩ :=
  rE rfl
theorem ref11_Valid_L1_ok (k : Nat) (a0 : T_api_Base)  (K0 : Int → Option Bool) (Kst : X × St → Option (V × List V)) (hK0 : ∀ (y0 : Int), Kst (X.exit 0, ⟨[(1, (V.ptr 1 0 0)), (3, (I y0)), (45, (V.bool false))], [(1, ⟨false, 4, [(enc_T_api_Base a0)]⟩)], 232⟩) = (K0 y0).map ref11_Valid_fin) (hret : ∀ s, Kst (X.ret, s) = endK prog 232 [(enc_T_api_Base a0)] [] [.tmp 2] (X.ret, s)) :
    ∀ (m : Nat) (x20 : Int), (iter (exec prog (EV k) f29n k f29b1) m ⟨[(1, (V.ptr 1 0 0)), (3, (I x20))], [(1, ⟨false, 4, [(enc_T_api_Base a0)]⟩)], 232⟩).bind Kst = (ref11_Valid_L1 k a0 K0 m x20).map ref11_Valid_fin := by
  intro m
  induction m with
  | zero => intros; rfl
  | succ m ih =>
    intro x20
    unfold ref11_Valid_L1
    refine Eq.trans k_round ?_
    refine Eq.trans k_assoc ?_
    refine Eq.trans (k_region0 rfl (f29r4 k a0 x20)) ?_
    refine Eq.trans (k_cond (t := (decide (x20 < (a0.fTypes.length : Int)))) rfl) ?_
    refine bifE2 (fun hc => ?_) fun hc => ?_
    · rw [hc]
      refine Eq.trans k_skip ?_
      refine Eq.trans k_block ?_
      refine Eq.trans (k_region rfl (f29r6 k a0 x20)) ?_
      refine bindE (fun o22 => ?_)
      refine Eq.trans k_assoc ?_
      refine Eq.trans (k_region rfl (f29r7 k a0 x20 o22)) ?_
      refine bindE (fun o25 => ?_)
      refine Eq.trans (k_cond (t := o25) rfl) ?_
      refine bifE2 (fun hc => ?_) fun hc => ?_
      · rw [hc]
        refine Eq.trans k_assoc ?_
        refine Eq.trans (k_region0 rfl (f29r8 k a0 x20 o22)) ?_
        refine Eq.trans k_ret ?_
        refine Eq.trans blk_ret ?_
        refine Eq.trans loop_ret ?_
        refine Eq.trans (hret _) ?_
        rfl
      · rw [hc]
        refine Eq.trans k_skip ?_
        refine Eq.trans k_assoc ?_
        refine Eq.trans (k_region0 rfl (f29r9 k a0 x20 o22)) ?_
        refine Eq.trans k_block ?_
        refine Eq.trans k_loop ?_
        refine ref11_Valid_L2_ok k a0 x20 o22 _ _ ?h_ref11_Valid_L2_0 ?hr_ref11_Valid_L2 k 0
        · intro y31
          refine Eq.trans blk_exit ?_
          refine Eq.trans k_assoc ?_
          refine Eq.trans (k_region0 rfl (f29r14 k a0 x20 o22 y31)) ?_
          refine Eq.trans (k_cond (t := (x20 == 0)) rfl) ?_
          refine bifE2 (fun hc => ?_) fun hc => ?_
          · rw [hc]
            refine Eq.trans k_assoc ?_
            refine Eq.trans k_assoc ?_
            refine Eq.trans (k_region rfl (f29r15 k a0 x20 o22)) ?_
            refine bindE (fun o33 => ?_)
            refine Eq.trans (k_cond (t := o33) rfl) ?_
            refine bifE2 (fun hc => ?_) fun hc => ?_
            · rw [hc]
              refine Eq.trans k_assoc ?_
              refine Eq.trans (k_region0 rfl (f29r16 k a0 x20)) ?_
              refine Eq.trans k_ret ?_
              refine Eq.trans blk_ret ?_
              refine Eq.trans loop_ret ?_
              refine Eq.trans (hret _) ?_
              rfl
            · rw [hc]
              refine Eq.trans k_skip ?_
              refine Eq.trans k_exit ?_
              refine Eq.trans blk_exit ?_
              refine Eq.trans (k_lregion0 rfl (f29r5 k a0 x20)) ?_
              refine Eq.trans loop_normal ?_
              exact ih (Go.IntKind.wrap .i64 (x20 + 1))
          · rw [hc]
            refine Eq.trans k_skip ?_
            refine Eq.trans (k_region rfl (f29r17 k a0 x20 o22)) ?_
            refine bindE (fun o37 => ?_)
            refine Eq.trans (k_lcond (t := o37) rfl) ?_
            refine bifE2 (fun hc => ?_) fun hc => ?_
            · rw [hc]
              refine Eq.trans (k_region0 rfl (f29r18 k a0 x20)) ?_
              refine Eq.trans k_lret ?_
              refine Eq.trans blk_ret ?_
              refine Eq.trans loop_ret ?_
              refine Eq.trans (hret _) ?_
              rfl
            · rw [hc]
              refine Eq.trans k_lskip ?_
              refine Eq.trans blk_normal ?_
              refine Eq.trans (k_lregion0 rfl (ref11_Valid_r5' k a0 x20)) ?_
              refine Eq.trans loop_normal ?_
              exact ih (Go.IntKind.wrap .i64 (x20 + 1))
        · intro s; exact hret s
    · rw [hc]
      refine Eq.trans k_exit ?_
      refine Eq.trans loop_exit ?_
      exact hK0 x20
theorem f29r19 (k : Nat) (a0 : T_api_Base) (y38 : Int) : RE k f29a19 f29o19 false ⟨[(1, (V.ptr 1 0 0)), (3, (I y38)), (45, (V.bool false))], [(1, ⟨false, 4, [(enc_T_api_Base a0)]⟩)], 232⟩ = some ⟨[(1, (V.ptr 1 0 0)), (6, (I 0))], [(1, ⟨false, 4, [(enc_T_api_Base a0)]⟩)], 232⟩ :=
  rE rfl
theorem f29r20 (k : Nat) (a0 : T_api_Base) (x52 : Int) : RE k f29a20 f29o20 false ⟨[(1, (V.ptr 1 0 0)), (6, (I x52))], [(1, ⟨false, 4, [(enc_T_api_Base a0)]⟩)], 232⟩ = some ⟨[(1, (V.ptr 1 0 0)), (6, (I x52)), (154, (V.bool (decide (x52 < (a0.fIndexes.length : Int)))))], [(1, ⟨false, 4, [(enc_T_api_Base a0)]⟩)], 232⟩ := by
  refine rg ?_
  refine ra 3 3 ⟨[(1, (V.ptr 1 0 0)), (6, (I x52)), (150, (I x52)), (151, (V.ptr 1 0 3)), (152, (sSearch (a0.fIndexes)))], [(1, ⟨false, 4, [(enc_T_api_Base a0)]⟩)], 232⟩ rfl rfl rfl ?_
  refine Eq.trans (reg_pure (x := some ()) (w := fun _ => (I (a0.fIndexes.length : Int))) rfl rfl rfl rfl (p_len (e := enc_T_api_Search) rfl rfl rfl rfl rfl rfl Go.Proofs.Try.underlying23)) ?_
  refine Eq.trans some_bind ?_
  exact bind_end rfl
theorem f29r22 (k : Nat) (a0 : T_api_Base) (x52 : Int) : RE k f29a22 f29o22 false ⟨[(1, (V.ptr 1 0 0)), (6, (I x52)), (154, (V.bool true))], [(1, ⟨false, 4, [(enc_T_api_Base a0)]⟩)], 232⟩ = ((idx a0.fIndexes x52)).map (fun (o : T_api_Search) => (⟨[(1, (V.ptr 1 0 0)), (6, (I x52)), (7, (V.ptr 7 0 0))], [(1, ⟨false, 4, [(enc_T_api_Base a0)]⟩), (7, ⟨false, 4, [(enc_T_api_Search o)]⟩)], 232⟩ : St)) := by
  refine rg ?_
  refine ra 3 3 ⟨[(1, (V.ptr 1 0 0)), (6, (I x52)), (154, (V.bool true)), (157, (V.ptr 1 0 3)), (158, (sSearch (a0.fIndexes))), (159, (I x52))], [(1, ⟨false, 4, [(enc_T_api_Base a0)]⟩)], 232⟩ rfl rfl rfl ?_
  refine Eq.trans (reg_pure (x := (idx a0.fIndexes x52)) (w := fun v53 => (V.pro (enc_T_api_Search v53))) rfl rfl rfl rfl (p_index (e := enc_T_api_Search) rfl rfl rfl Go.Proofs.Try.underlying23 rfl (by decide))) ?_
  refine bind_self (fun v53 => ?_)
  exact bind_end rfl
theorem f29r23 (k : Nat) (a0 : T_api_Base) (x52 : Int) (o54 : T_api_Search) : RE k f29a23 f29o23 true ⟨[(1, (V.ptr 1 0 0)), (6, (I x52)), (7, (V.ptr 7 0 0))], [(1, ⟨false, 4, [(enc_T_api_Base a0)]⟩), (7, ⟨false, 4, [(enc_T_api_Search o54)]⟩)], 232⟩ = (((ref11_IsName k o54.fName).bind fun v55 => (bif (!v55) then (some (true)) else (bif (decide (o54.fType < 0)) then (some (true)) else (bif (decide (o54.fType ≥ (a0.fTypes.length : Int))) then (some (true)) else (bif (decide (o54.fField < 0)) then (some (true)) else ((idx a0.fTypes o54.fType).bind fun v56 => (bif (decide (o54.fField ≥ (v56.fFields.length : Int))) then (some (true)) else ((idx a0.fTypes o54.fType).bind fun v57 => ((idx v57.fFields o54.fField).bind fun v58 => (bif (decide (v58.fBytes > 20)) then (some (true)) else (some ((decide ((o54.fSparse.length : Int) > 1))))))))))))))).map (fun (o : Bool) => (⟨[(1, (V.ptr 1 0 0)), (6, (I x52)), (7, (V.ptr 7 0 0)), (217, (V.bool o))], [(1, ⟨false, 4, [(enc_T_api_Base a0)]⟩), (7, ⟨false, 4, [(enc_T_api_Search o54)]⟩)], 232⟩ : St)) := by
  refine Eq.trans (regionE_regp (p := 56) (dk := true) (t := [(1, (V.ptr 1 0 0)), (6, (I x52)), (7, (V.ptr 7 0 0))]) (σ := [(1, ⟨false, 4, [(enc_T_api_Base a0)]⟩), (7, ⟨false, 4, [(enc_T_api_Search o54)]⟩)]) (n := 232) (by decide) (by decide) rfl) ?_
  refine Eq.trans (regp_adv (m := 2) (j := 2) (t' := [(1, (V.ptr 1 0 0)), (6, (I x52)), (7, (V.ptr 7 0 0)), (162, (V.ptr 7 0 0)), (163, (V.str o54.fName))]) rfl rfl rfl) ?_
  refine Eq.trans (regp_pure (x := (ref11_IsName k o54.fName)) (w := fun v55 => (V.bool v55)) rfl rfl rfl rfl rfl (p_call rfl rfl rfl rfl rfl (ref11_IsName_ok k o54.fName) (.inl rfl))) ?_
  refine bindE (fun v55 => ?_)
  refine Eq.trans (putp_adv (m := 2) (j := 5) (t' := [(1, (V.ptr 1 0 0)), (6, (I x52)), (7, (V.ptr 7 0 0)), (162, (V.ptr 7 0 0)), (163, (V.str o54.fName)), (164, (V.bool v55)), (165, (V.bool (!v55))), (166, (V.bool (!v55)))]) rfl rfl rfl) ?_
  refine bifE (c := (!v55)) (fun hc => ?_) fun hc => ?_
  · rw [hc]
    exact regp_end rfl
  · rw [hc]
    refine Eq.trans (regp_adv (m := 5) (j := 10) (t' := [(1, (V.ptr 1 0 0)), (6, (I x52)), (7, (V.ptr 7 0 0)), (162, (V.ptr 7 0 0)), (163, (V.str o54.fName)), (164, (V.bool v55)), (165, (V.bool false)), (166, (V.bool false)), (167, (V.ptr 7 0 1)), (168, (I o54.fType)), (169, (V.bool (decide (o54.fType < 0)))), (170, (V.bool (decide (o54.fType < 0)))), (171, (V.bool (decide (o54.fType < 0))))]) rfl rfl rfl) ?_
    refine bifE (c := (decide (o54.fType < 0))) (fun hc => ?_) fun hc => ?_
    · rw [hc]
      exact regp_end rfl
    · rw [hc]
      refine Eq.trans (regp_adv (m := 4) (j := 14) (t' := [(1, (V.ptr 1 0 0)), (6, (I x52)), (7, (V.ptr 7 0 0)), (162, (V.ptr 7 0 0)), (163, (V.str o54.fName)), (164, (V.bool v55)), (165, (V.bool false)), (166, (V.bool false)), (167, (V.ptr 7 0 1)), (168, (I o54.fType)), (169, (V.bool false)), (170, (V.bool false)), (171, (V.bool false)), (172, (V.ptr 7 0 1)), (173, (I o54.fType)), (174, (V.ptr 1 0 2)), (175, (sType (a0.fTypes)))]) rfl rfl rfl) ?_
      refine Eq.trans (regp_pure (x := some ()) (w := fun _ => (I (a0.fTypes.length : Int))) rfl rfl rfl rfl rfl (p_len (e := enc_T_api_Type) rfl rfl rfl rfl rfl rfl Go.Proofs.Try.underlying22)) ?_
      refine Eq.trans some_bind ?_
      refine Eq.trans (putp_adv (m := 3) (j := 18) (t' := [(1, (V.ptr 1 0 0)), (6, (I x52)), (7, (V.ptr 7 0 0)), (162, (V.ptr 7 0 0)), (163, (V.str o54.fName)), (164, (V.bool v55)), (165, (V.bool false)), (166, (V.bool false)), (167, (V.ptr 7 0 1)), (168, (I o54.fType)), (169, (V.bool false)), (170, (V.bool false)), (171, (V.bool false)), (172, (V.ptr 7 0 1)), (173, (I o54.fType)), (174, (V.ptr 1 0 2)), (175, (sType (a0.fTypes))), (176, (I (a0.fTypes.length : Int))), (177, (V.bool (decide (o54.fType ≥ (a0.fTypes.length : Int))))), (178, (V.bool (decide (o54.fType ≥ (a0.fTypes.length : Int))))), (179, (V.bool (decide (o54.fType ≥ (a0.fTypes.length : Int)))))]) rfl rfl rfl) ?_
      refine bifE (c := (decide (o54.fType ≥ (a0.fTypes.length : Int)))) (fun hc => ?_) fun hc => ?_
      · rw [hc]
        exact regp_end rfl
      · rw [hc]
        refine Eq.trans (regp_adv (m := 5) (j := 23) (t' := [(1, (V.ptr 1 0 0)), (6, (I x52)), (7, (V.ptr 7 0 0)), (162, (V.ptr 7 0 0)), (163, (V.str o54.fName)), (164, (V.bool v55)), (165, (V.bool false)), (166, (V.bool false)), (167, (V.ptr 7 0 1)), (168, (I o54.fType)), (169, (V.bool false)), (170, (V.bool false)), (171, (V.bool false)), (172, (V.ptr 7 0 1)), (173, (I o54.fType)), (174, (V.ptr 1 0 2)), (175, (sType (a0.fTypes))), (176, (I (a0.fTypes.length : Int))), (177, (V.bool false)), (178, (V.bool false)), (179, (V.bool false)), (180, (V.ptr 7 0 2)), (181, (I o54.fField)), (182, (V.bool (decide (o54.fField < 0)))), (183, (V.bool (decide (o54.fField < 0)))), (184, (V.bool (decide (o54.fField < 0))))]) rfl rfl rfl) ?_
        refine bifE (c := (decide (o54.fField < 0))) (fun hc => ?_) fun hc => ?_
        · rw [hc]
          exact regp_end rfl
        · rw [hc]
          refine Eq.trans (regp_adv (m := 6) (j := 29) (t' := [(1, (V.ptr 1 0 0)), (6, (I x52)), (7, (V.ptr 7 0 0)), (162, (V.ptr 7 0 0)), (163, (V.str o54.fName)), (164, (V.bool v55)), (165, (V.bool false)), (166, (V.bool false)), (167, (V.ptr 7 0 1)), (168, (I o54.fType)), (169, (V.bool false)), (170, (V.bool false)), (171, (V.bool false)), (172, (V.ptr 7 0 1)), (173, (I o54.fType)), (174, (V.ptr 1 0 2)), (175, (sType (a0.fTypes))), (176, (I (a0.fTypes.length : Int))), (177, (V.bool false)), (178, (V.bool false)), (179, (V.bool false)), (180, (V.ptr 7 0 2)), (181, (I o54.fField)), (182, (V.bool false)), (183, (V.bool false)), (184, (V.bool false)), (185, (V.ptr 7 0 2)), (186, (I o54.fField)), (187, (V.ptr 1 0 2)), (188, (sType (a0.fTypes))), (189, (V.ptr 7 0 1)), (190, (I o54.fType))]) rfl rfl rfl) ?_
          refine Eq.trans (regp_pure (x := (idx a0.fTypes o54.fType)) (w := fun v56 => (V.pro (enc_T_api_Type v56))) rfl rfl rfl rfl rfl (p_index (e := enc_T_api_Type) rfl rfl rfl Go.Proofs.Try.underlying22 rfl (by decide))) ?_
          refine bindE (fun v56 => ?_)
          refine Eq.trans (putp_adv (m := 2) (j := 32) (t' := [(1, (V.ptr 1 0 0)), (6, (I x52)), (7, (V.ptr 7 0 0)), (162, (V.ptr 7 0 0)), (163, (V.str o54.fName)), (164, (V.bool v55)), (165, (V.bool false)), (166, (V.bool false)), (167, (V.ptr 7 0 1)), (168, (I o54.fType)), (169, (V.bool false)), (170, (V.bool false)), (171, (V.bool false)), (172, (V.ptr 7 0 1)), (173, (I o54.fType)), (174, (V.ptr 1 0 2)), (175, (sType (a0.fTypes))), (176, (I (a0.fTypes.length : Int))), (177, (V.bool false)), (178, (V.bool false)), (179, (V.bool false)), (180, (V.ptr 7 0 2)), (181, (I o54.fField)), (182, (V.bool false)), (183, (V.bool false)), (184, (V.bool false)), (185, (V.ptr 7 0 2)), (186, (I o54.fField)), (187, (V.ptr 1 0 2)), (188, (sType (a0.fTypes))), (189, (V.ptr 7 0 1)), (190, (I o54.fType)), (191, (V.pro (enc_T_api_Type v56))), (192, (V.pro (sField (v56.fFields)))), (193, (sField (v56.fFields)))]) rfl rfl rfl) ?_
          refine Eq.trans (regp_pure (x := some ()) (w := fun _ => (I (v56.fFields.length : Int))) rfl rfl rfl rfl rfl (p_len (e := enc_T_api_Field) rfl rfl rfl rfl rfl rfl Go.Proofs.Try.underlying53)) ?_
          refine Eq.trans some_bind ?_
          refine Eq.trans (putp_adv (m := 3) (j := 36) (t' := [(1, (V.ptr 1 0 0)), (6, (I x52)), (7, (V.ptr 7 0 0)), (162, (V.ptr 7 0 0)), (163, (V.str o54.fName)), (164, (V.bool v55)), (165, (V.bool false)), (166, (V.bool false)), (167, (V.ptr 7 0 1)), (168, (I o54.fType)), (169, (V.bool false)), (170, (V.bool false)), (171, (V.bool false)), (172, (V.ptr 7 0 1)), (173, (I o54.fType)), (174, (V.ptr 1 0 2)), (175, (sType (a0.fTypes))), (176, (I (a0.fTypes.length : Int))), (177, (V.bool false)), (178, (V.bool false)), (179, (V.bool false)), (180, (V.ptr 7 0 2)), (181, (I o54.fField)), (182, (V.bool false)), (183, (V.bool false)), (184, (V.bool false)), (185, (V.ptr 7 0 2)), (186, (I o54.fField)), (187, (V.ptr 1 0 2)), (188, (sType (a0.fTypes))), (189, (V.ptr 7 0 1)), (190, (I o54.fType)), (191, (V.pro (enc_T_api_Type v56))), (192, (V.pro (sField (v56.fFields)))), (193, (sField (v56.fFields))), (194, (I (v56.fFields.length : Int))), (195, (V.bool (decide (o54.fField ≥ (v56.fFields.length : Int))))), (196, (V.bool (decide (o54.fField ≥ (v56.fFields.length : Int))))), (197, (V.bool (decide (o54.fField ≥ (v56.fFields.length : Int)))))]) rfl rfl rfl) ?_
          refine bifE (c := (decide (o54.fField ≥ (v56.fFields.length : Int)))) (fun hc => ?_) fun hc => ?_
          · rw [hc]
            exact regp_end rfl
          · rw [hc]
            refine Eq.trans (regp_adv (m := 4) (j := 40) (t' := [(1, (V.ptr 1 0 0)), (6, (I x52)), (7, (V.ptr 7 0 0)), (162, (V.ptr 7 0 0)), (163, (V.str o54.fName)), (164, (V.bool v55)), (165, (V.bool false)), (166, (V.bool false)), (167, (V.ptr 7 0 1)), (168, (I o54.fType)), (169, (V.bool false)), (170, (V.bool false)), (171, (V.bool false)), (172, (V.ptr 7 0 1)), (173, (I o54.fType)), (174, (V.ptr 1 0 2)), (175, (sType (a0.fTypes))), (176, (I (a0.fTypes.length : Int))), (177, (V.bool false)), (178, (V.bool false)), (179, (V.bool false)), (180, (V.ptr 7 0 2)), (181, (I o54.fField)), (182, (V.bool false)), (183, (V.bool false)), (184, (V.bool false)), (185, (V.ptr 7 0 2)), (186, (I o54.fField)), (187, (V.ptr 1 0 2)), (188, (sType (a0.fTypes))), (189, (V.ptr 7 0 1)), (190, (I o54.fType)), (191, (V.pro (enc_T_api_Type v56))), (192, (V.pro (sField (v56.fFields)))), (193, (sField (v56.fFields))), (194, (I (v56.fFields.length : Int))), (195, (V.bool false)), (196, (V.bool false)), (197, (V.bool false)), (198, (V.ptr 1 0 2)), (199, (sType (a0.fTypes))), (200, (V.ptr 7 0 1)), (201, (I o54.fType))]) rfl rfl rfl) ?_
            refine Eq.trans (regp_pure (x := (idx a0.fTypes o54.fType)) (w := fun v57 => (V.pro (enc_T_api_Type v57))) rfl rfl rfl rfl rfl (p_index (e := enc_T_api_Type) rfl rfl rfl Go.Proofs.Try.underlying22 rfl (by decide))) ?_
            refine bindE (fun v57 => ?_)
            refine Eq.trans (putp_adv (m := 4) (j := 45) (t' := [(1, (V.ptr 1 0 0)), (6, (I x52)), (7, (V.ptr 7 0 0)), (162, (V.ptr 7 0 0)), (163, (V.str o54.fName)), (164, (V.bool v55)), (165, (V.bool false)), (166, (V.bool false)), (167, (V.ptr 7 0 1)), (168, (I o54.fType)), (169, (V.bool false)), (170, (V.bool false)), (171, (V.bool false)), (172, (V.ptr 7 0 1)), (173, (I o54.fType)), (174, (V.ptr 1 0 2)), (175, (sType (a0.fTypes))), (176, (I (a0.fTypes.length : Int))), (177, (V.bool false)), (178, (V.bool false)), (179, (V.bool false)), (180, (V.ptr 7 0 2)), (181, (I o54.fField)), (182, (V.bool false)), (183, (V.bool false)), (184, (V.bool false)), (185, (V.ptr 7 0 2)), (186, (I o54.fField)), (187, (V.ptr 1 0 2)), (188, (sType (a0.fTypes))), (189, (V.ptr 7 0 1)), (190, (I o54.fType)), (191, (V.pro (enc_T_api_Type v56))), (192, (V.pro (sField (v56.fFields)))), (193, (sField (v56.fFields))), (194, (I (v56.fFields.length : Int))), (195, (V.bool false)), (196, (V.bool false)), (197, (V.bool false)), (198, (V.ptr 1 0 2)), (199, (sType (a0.fTypes))), (200, (V.ptr 7 0 1)), (201, (I o54.fType)), (202, (V.pro (enc_T_api_Type v57))), (203, (V.pro (sField (v57.fFields)))), (204, (sField (v57.fFields))), (205, (V.ptr 7 0 2)), (206, (I o54.fField))]) rfl rfl rfl) ?_
            refine Eq.trans (regp_pure (x := (idx v57.fFields o54.fField)) (w := fun v58 => (V.pro (enc_T_api_Field v58))) rfl rfl rfl rfl rfl (p_index (e := enc_T_api_Field) rfl rfl rfl Go.Proofs.Try.underlying53 rfl (by decide))) ?_
            refine bindE (fun v58 => ?_)
            refine Eq.trans (putp_adv (m := 5) (j := 51) (t' := [(1, (V.ptr 1 0 0)), (6, (I x52)), (7, (V.ptr 7 0 0)), (162, (V.ptr 7 0 0)), (163, (V.str o54.fName)), (164, (V.bool v55)), (165, (V.bool false)), (166, (V.bool false)), (167, (V.ptr 7 0 1)), (168, (I o54.fType)), (169, (V.bool false)), (170, (V.bool false)), (171, (V.bool false)), (172, (V.ptr 7 0 1)), (173, (I o54.fType)), (174, (V.ptr 1 0 2)), (175, (sType (a0.fTypes))), (176, (I (a0.fTypes.length : Int))), (177, (V.bool false)), (178, (V.bool false)), (179, (V.bool false)), (180, (V.ptr 7 0 2)), (181, (I o54.fField)), (182, (V.bool false)), (183, (V.bool false)), (184, (V.bool false)), (185, (V.ptr 7 0 2)), (186, (I o54.fField)), (187, (V.ptr 1 0 2)), (188, (sType (a0.fTypes))), (189, (V.ptr 7 0 1)), (190, (I o54.fType)), (191, (V.pro (enc_T_api_Type v56))), (192, (V.pro (sField (v56.fFields)))), (193, (sField (v56.fFields))), (194, (I (v56.fFields.length : Int))), (195, (V.bool false)), (196, (V.bool false)), (197, (V.bool false)), (198, (V.ptr 1 0 2)), (199, (sType (a0.fTypes))), (200, (V.ptr 7 0 1)), (201, (I o54.fType)), (202, (V.pro (enc_T_api_Type v57))), (203, (V.pro (sField (v57.fFields)))), (204, (sField (v57.fFields))), (205, (V.ptr 7 0 2)), (206, (I o54.fField)), (207, (V.pro (enc_T_api_Field v58))), (208, (V.pro (I v58.fBytes))), (209, (I v58.fBytes)), (210, (V.bool (decide (v58.fBytes > 20)))), (211, (V.bool (decide (v58.fBytes > 20)))), (212, (V.bool (decide (v58.fBytes > 20))))]) rfl rfl rfl) ?_
            refine bifE (c := (decide (v58.fBytes > 20))) (fun hc => ?_) fun hc => ?_
            · rw [hc]
              exact regp_end rfl
            · rw [hc]
              exact regp_end rfl
theorem f29r24 (k : Nat) (a0 : T_api_Base) (x52 : Int) (o54 : T_api_Search) : RE k f29a24 f29o24 false ⟨[(1, (V.ptr 1 0 0)), (6, (I x52)), (7, (V.ptr 7 0 0)), (217, (V.bool true))], [(1, ⟨false, 4, [(enc_T_api_Base a0)]⟩), (7, ⟨false, 4, [(enc_T_api_Search o54)]⟩)], 232⟩ = some ⟨[(2, (V.bool false))], [], 232⟩ :=
  rE rfl
theorem f29r25 (k : Nat) (a0 : T_api_Base) (x52 : Int) (o54 : T_api_Search) : RE k f29a25 f29o25 false ⟨[(1, (V.ptr 1 0 0)), (6, (I x52)), (7, (V.ptr 7 0 0)), (217, (V.bool false))], [(1, ⟨false, 4, [(enc_T_api_Base a0)]⟩), (7, ⟨false, 4, [(enc_T_api_Search o54)]⟩)], 232⟩ = some ⟨[(1, (V.ptr 1 0 0)), (6, (I x52)), (7, (V.ptr 7 0 0)), (8, (I 0))], [(1, ⟨false, 4, [(enc_T_api_Base a0)]⟩), (7, ⟨false, 4, [(enc_T_api_Search o54)]⟩)], 232⟩ :=
  rE rfl
theorem f29r26 (k : Nat) (a0 : T_api_Base) (x52 : Int) (o54 : T_api_Search) (x62 : Int) : RE k f29a26 f29o26 false ⟨[(1, (V.ptr 1 0 0)), (6, (I x52)), (7, (V.ptr 7 0 0)), (8, (I x62))], [(1, ⟨false, 4, [(enc_T_api_Base a0)]⟩), (7, ⟨false, 4, [(enc_T_api_Search o54)]⟩)], 232⟩ = some ⟨[(1, (V.ptr 1 0 0)), (6, (I x52)), (7, (V.ptr 7 0 0)), (8, (I x62)), (220, (V.bool (decide (x62 < x52))))], [(1, ⟨false, 4, [(enc_T_api_Base a0)]⟩), (7, ⟨false, 4, [(enc_T_api_Search o54)]⟩)], 232⟩ :=
  rE rfl
theorem f29r28 (k : Nat) (a0 : T_api_Base) (x52 : Int) (o54 : T_api_Search) (x62 : Int) : RE k f29a28 f29o28 true ⟨[(1, (V.ptr 1 0 0)), (6, (I x52)), (7, (V.ptr 7 0 0)), (8, (I x62)), (220, (V.bool true))], [(1, ⟨false, 4, [(enc_T_api_Base a0)]⟩), (7, ⟨false, 4, [(enc_T_api_Search o54)]⟩)], 232⟩ = (((idx a0.fIndexes x62).bind fun v63 => (some ((v63.fName == o54.fName))))).map (fun (o : Bool) => (⟨[(1, (V.ptr 1 0 0)), (6, (I x52)), (7, (V.ptr 7 0 0)), (8, (I x62)), (231, (V.bool o))], [(1, ⟨false, 4, [(enc_T_api_Base a0)]⟩), (7, ⟨false, 4, [(enc_T_api_Search o54)]⟩)], 232⟩ : St)) := by
  refine Eq.trans (regionE_regp (p := 9) (dk := true) (t := [(1, (V.ptr 1 0 0)), (6, (I x52)), (7, (V.ptr 7 0 0)), (8, (I x62)), (220, (V.bool true))]) (σ := [(1, ⟨false, 4, [(enc_T_api_Base a0)]⟩), (7, ⟨false, 4, [(enc_T_api_Search o54)]⟩)]) (n := 232) (by decide) (by decide) rfl) ?_
  refine Eq.trans (regp_adv (m := 3) (j := 3) (t' := [(1, (V.ptr 1 0 0)), (6, (I x52)), (7, (V.ptr 7 0 0)), (8, (I x62)), (220, (V.bool true)), (223, (V.ptr 1 0 3)), (224, (sSearch (a0.fIndexes))), (225, (I x62))]) rfl rfl rfl) ?_
  refine Eq.trans (regp_pure (x := (idx a0.fIndexes x62)) (w := fun v63 => (V.pro (enc_T_api_Search v63))) rfl rfl rfl rfl rfl (p_index (e := enc_T_api_Search) rfl rfl rfl Go.Proofs.Try.underlying23 rfl (by decide))) ?_
  refine bindE (fun v63 => ?_)
  exact regp_end rfl
theorem f29r29 (k : Nat) (a0 : T_api_Base) (x52 : Int) (o54 : T_api_Search) (x62 : Int) : RE k f29a29 f29o29 false ⟨[(1, (V.ptr 1 0 0)), (6, (I x52)), (7, (V.ptr 7 0 0)), (8, (I x62)), (231, (V.bool true))], [(1, ⟨false, 4, [(enc_T_api_Base a0)]⟩), (7, ⟨false, 4, [(enc_T_api_Search o54)]⟩)], 232⟩ = some ⟨[(2, (V.bool false))], [], 232⟩ :=
  rE rfl
theorem f29r27 (k : Nat) (a0 : T_api_Base) (x52 : Int) (o54 : T_api_Search) (x62 : Int) : RE k f29a27 f29o27 false ⟨[(1, (V.ptr 1 0 0)), (6, (I x52)), (7, (V.ptr 7 0 0)), (8, (I x62)), (231, (V.bool false))], [(1, ⟨false, 4, [(enc_T_api_Base a0)]⟩), (7, ⟨false, 4, [(enc_T_api_Search o54)]⟩)], 232⟩ = some ⟨[(1, (V.ptr 1 0 0)), (6, (I x52)), (7, (V.ptr 7 0 0)), (8, (I (Go.IntKind.wrap .i64 (x62 + 1))))], [(1, ⟨false, 4, [(enc_T_api_Base a0)]⟩), (7, ⟨false, 4, [(enc_T_api_Search o54)]⟩)], 232⟩ :=
  rE rfl
theorem ref11_Valid_L4_ok (k : Nat) (a0 : T_api_Base) (x52 : Int) (o54 : T_api_Search)  (K0 : Int → Option Bool) (Kst : X × St → Option (V × List V)) (hK0 : ∀ (y0 : Int), Kst (X.exit 6, ⟨[(1, (V.ptr 1 0 0)), (6, (I x52)), (7, (V.ptr 7 0 0)), (8, (I y0)), (220, (V.bool false))], [(1, ⟨false, 4, [(enc_T_api_Base a0)]⟩), (7, ⟨false, 4, [(enc_T_api_Search o54)]⟩)], 232⟩) = (K0 y0).map ref11_Valid_fin) (hret : ∀ s, Kst (X.ret, s) = endK prog 232 [(enc_T_api_Base a0)] [] [.tmp 2] (X.ret, s)) :
    ∀ (m : Nat) (x62 : Int), (iter (exec prog (EV k) f29n k f29b2) m ⟨[(1, (V.ptr 1 0 0)), (6, (I x52)), (7, (V.ptr 7 0 0)), (8, (I x62))], [(1, ⟨false, 4, [(enc_T_api_Base a0)]⟩), (7, ⟨false, 4, [(enc_T_api_Search o54)]⟩)], 232⟩).bind Kst = (ref11_Valid_L4 a0 x52 o54 K0 m x62).map ref11_Valid_fin := by
  intro m
  induction m with
  | zero => intros; rfl
  | succ m ih =>
    intro x62
    unfold ref11_Valid_L4
    refine Eq.trans k_round ?_
    refine Eq.trans k_assoc ?_
    refine Eq.trans (k_region0 rfl (f29r26 k a0 x52 o54 x62)) ?_
    refine Eq.trans (k_cond (t := (decide (x62 < x52))) rfl) ?_
    refine bifE2 (fun hc => ?_) fun hc => ?_
    · rw [hc]
      refine Eq.trans k_skip ?_
      refine Eq.trans k_block ?_
      refine Eq.trans (k_region rfl (f29r28 k a0 x52 o54 x62)) ?_
      refine bindE (fun o64 => ?_)
      refine Eq.trans (k_lcond (t := o64) rfl) ?_
      refine bifE2 (fun hc => ?_) fun hc => ?_
      · rw [hc]
        refine Eq.trans (k_region0 rfl (f29r29 k a0 x52 o54 x62)) ?_
        refine Eq.trans k_lret ?_
        refine Eq.trans blk_ret ?_
        refine Eq.trans loop_ret ?_
        refine Eq.trans (hret _) ?_
        rfl
      · rw [hc]
        refine Eq.trans k_lskip ?_
        refine Eq.trans blk_normal ?_
        refine Eq.trans (k_lregion0 rfl (f29r27 k a0 x52 o54 x62)) ?_
        refine Eq.trans loop_normal ?_
        exact ih (Go.IntKind.wrap .i64 (x62 + 1))
    · rw [hc]
      refine Eq.trans k_exit ?_
      refine Eq.trans loop_exit ?_
      exact hK0 x62
theorem f29r21 (k : Nat) (a0 : T_api_Base) (x52 : Int) (o54 : T_api_Search) (y65 : Int) : RE k f29a21 f29o21 false ⟨[(1, (V.ptr 1 0 0)), (6, (I x52)), (7, (V.ptr 7 0 0)), (8, (I y65)), (220, (V.bool false))], [(1, ⟨false, 4, [(enc_T_api_Base a0)]⟩), (7, ⟨false, 4, [(enc_T_api_Search o54)]⟩)], 232⟩ = some ⟨[(1, (V.ptr 1 0 0)), (6, (I (Go.IntKind.wrap .i64 (x52 + 1))))], [(1, ⟨false, 4, [(enc_T_api_Base a0)]⟩)], 232⟩ :=
  rE rfl
theorem ref11_Valid_L3_ok (k : Nat) (a0 : T_api_Base)  (K0 : Int → Option Bool) (Kst : X × St → Option (V × List V)) (hK0 : ∀ (y0 : Int), Kst (X.exit 4, ⟨[(1, (V.ptr 1 0 0)), (6, (I y0)), (154, (V.bool false))], [(1, ⟨false, 4, [(enc_T_api_Base a0)]⟩)], 232⟩) = (K0 y0).map ref11_Valid_fin) (hret : ∀ s, Kst (X.ret, s) = endK prog 232 [(enc_T_api_Base a0)] [] [.tmp 2] (X.ret, s)) :
    ∀ (m : Nat) (x52 : Int), (iter (exec prog (EV k) f29n k f29b3) m ⟨[(1, (V.ptr 1 0 0)), (6, (I x52))], [(1, ⟨false, 4, [(enc_T_api_Base a0)]⟩)], 232⟩).bind Kst = (ref11_Valid_L3 k a0 K0 m x52).map ref11_Valid_fin := by
  intro m
  induction m with
  | zero => intros; rfl
  | succ m ih =>
    intro x52
    unfold ref11_Valid_L3
    refine Eq.trans k_round ?_
    refine Eq.trans k_assoc ?_
    refine Eq.trans (k_region0 rfl (f29r20 k a0 x52)) ?_
    refine Eq.trans (k_cond (t := (decide (x52 < (a0.fIndexes.length : Int)))) rfl) ?_
    refine bifE2 (fun hc => ?_) fun hc => ?_
    · rw [hc]
      refine Eq.trans k_skip ?_
      refine Eq.trans k_block ?_
      refine Eq.trans (k_region rfl (f29r22 k a0 x52)) ?_
      refine bindE (fun o54 => ?_)
      refine Eq.trans k_assoc ?_
      refine Eq.trans (k_region rfl (f29r23 k a0 x52 o54)) ?_
      refine bindE (fun o59 => ?_)
      refine Eq.trans (k_cond (t := o59) rfl) ?_
      refine bifE2 (fun hc => ?_) fun hc => ?_
      · rw [hc]
        refine Eq.trans k_assoc ?_
        refine Eq.trans (k_region0 rfl (f29r24 k a0 x52 o54)) ?_
        refine Eq.trans k_ret ?_
        refine Eq.trans blk_ret ?_
        refine Eq.trans loop_ret ?_
        refine Eq.trans (hret _) ?_
        rfl
      · rw [hc]
        refine Eq.trans k_skip ?_
        refine Eq.trans (k_region0 rfl (f29r25 k a0 x52 o54)) ?_
        refine Eq.trans k_lblock ?_
        refine Eq.trans k_loop ?_
        refine ref11_Valid_L4_ok k a0 x52 o54 _ _ ?h_ref11_Valid_L4_0 ?hr_ref11_Valid_L4 k 0
        · intro y65
          refine Eq.trans blk_exit ?_
          refine Eq.trans k_lskip ?_
          refine Eq.trans blk_normal ?_
          refine Eq.trans (k_lregion0 rfl (f29r21 k a0 x52 o54 y65)) ?_
          refine Eq.trans loop_normal ?_
          exact ih (Go.IntKind.wrap .i64 (x52 + 1))
        · intro s; exact hret s
    · rw [hc]
      refine Eq.trans k_exit ?_
      refine Eq.trans loop_exit ?_
      exact hK0 x52
theorem f29r30 (k : Nat) (a0 : T_api_Base) (y66 : Int) : RE k f29a30 f29o30 false ⟨[(1, (V.ptr 1 0 0)), (6, (I y66)), (154, (V.bool false))], [(1, ⟨false, 4, [(enc_T_api_Base a0)]⟩)], 232⟩ = some ⟨[(2, (V.bool true))], [], 232⟩ :=
  rE rfl
theorem ref11_Valid_ok (k : Nat) (a0 : T_api_Base) : EV k 29 [(enc_T_api_Base a0)] = (ref11_Valid k a0).map ref11_Valid_fin := by
  cases k with
  | zero => rfl
  | succ k =>
    unfold ref11_Valid
    refine Eq.trans (evF_succ (c := f29c) (N := 232) (regs := f29n) rfl Go.Proofs.Try.func29 rfl (by decide) rfl rfl rfl) ?_
    refine Eq.trans (k_region0 rfl (f29r0 k a0)) ?_
    refine Eq.trans k_assoc ?_
    refine Eq.trans (k_region rfl (f29r1 k a0)) ?_
    refine bindE (fun o2 => ?_)
    refine Eq.trans (k_cond (t := o2) rfl) ?_
    refine bifE2 (fun hc => ?_) fun hc => ?_
    · rw [hc]
      refine Eq.trans k_assoc ?_
      refine Eq.trans (k_region0 rfl (f29r2 k a0)) ?_
      refine Eq.trans k_ret ?_
      rfl
    · rw [hc]
      refine Eq.trans k_skip ?_
      refine Eq.trans k_assoc ?_
      refine Eq.trans (k_region0 rfl (f29r3 k a0)) ?_
      refine Eq.trans k_block ?_
      refine Eq.trans k_loop ?_
      refine ref11_Valid_L1_ok k a0 _ _ ?h_ref11_Valid_L1_0 ?hr_ref11_Valid_L1 k 0
      · intro y38
        refine Eq.trans blk_exit ?_
        refine Eq.trans k_assoc ?_
        refine Eq.trans (k_region0 rfl (f29r19 k a0 y38)) ?_
        refine Eq.trans k_block ?_
        refine Eq.trans k_loop ?_
        refine ref11_Valid_L3_ok k a0 _ _ ?h_ref11_Valid_L3_0 ?hr_ref11_Valid_L3 k 0
        · intro y66
          refine Eq.trans blk_exit ?_
          refine Eq.trans (k_region0 rfl (f29r30 k a0 y66)) ?_
          refine Eq.trans k_lret ?_
          rfl
        · intro s; exact rfl
      · intro s; exact rfl
def ref11_isType_fin : Bool → V × List V := fun r => ((V.bool r), [])
theorem f61r0 (k : Nat) (a0 : T_api_Base) (a1 : Int) : RE k f61a0 f61o0 false ⟨[(0, (enc_T_api_Base a0)), (1, (I a1))], [], 14⟩ = some ⟨[(1, (I a1)), (2, (V.ptr 2 0 0))], [(2, ⟨false, 4, [(enc_T_api_Base a0)]⟩)], 14⟩ :=
  rE rfl
theorem f61r1 (k : Nat) (a0 : T_api_Base) (a1 : Int) : RE k f61a1 f61o1 false ⟨[(1, (I a1)), (2, (V.ptr 2 0 0))], [(2, ⟨false, 4, [(enc_T_api_Base a0)]⟩)], 14⟩ = ((bif (decide (a1 ≥ 0)) then (some ((decide (a1 < (a0.fTypes.length : Int))))) else (some (false)))).map (fun (o : Bool) => (⟨[(4, (V.bool o))], [], 14⟩ : St)) := by
  refine rg ?_
  refine ra 3 3 ⟨[(1, (I a1)), (2, (V.ptr 2 0 0)), (5, (I a1)), (6, (V.bool (decide (a1 ≥ 0)))), (7, (V.bool (decide (a1 ≥ 0))))], [(2, ⟨false, 4, [(enc_T_api_Base a0)]⟩)], 14⟩ rfl rfl rfl ?_
  refine bifE (c := (decide (a1 ≥ 0))) (fun hc => ?_) fun hc => ?_
  · rw [hc]
    refine ra 3 6 ⟨[(1, (I a1)), (2, (V.ptr 2 0 0)), (5, (I a1)), (6, (V.bool true)), (7, (V.bool true)), (8, (I a1)), (9, (V.ptr 2 0 2)), (10, (sType (a0.fTypes)))], [(2, ⟨false, 4, [(enc_T_api_Base a0)]⟩)], 14⟩ rfl rfl rfl ?_
    refine Eq.trans (reg_pure (x := some ()) (w := fun _ => (I (a0.fTypes.length : Int))) rfl rfl rfl rfl (p_len (e := enc_T_api_Type) rfl rfl rfl rfl rfl rfl Go.Proofs.Try.underlying22)) ?_
    refine Eq.trans some_bind ?_
    exact bind_end rfl
  · rw [hc]
    exact reg_end rfl
theorem ref11_isType_ok (k : Nat) (a0 : T_api_Base) (a1 : Int) : EV k 61 [(enc_T_api_Base a0), (I a1)] = (ref11_isType k a0 a1).map ref11_isType_fin := by
  cases k with
  | zero => rfl
  | succ k =>
    unfold ref11_isType
    refine Eq.trans (evF_succ (c := f61c) (N := 14) (regs := f61n) rfl Go.Proofs.Try.func61 rfl (by decide) rfl rfl rfl) ?_
    refine Eq.trans (k_region0 rfl (f61r0 k a0 a1)) ?_
    refine Eq.trans (k_region rfl (f61r1 k a0 a1)) ?_
    refine bindE (fun o1 => ?_)
    refine Eq.trans k_lret ?_
    rfl
def ref11_place_fin : Int → V × List V := fun r => ((I r), [])
theorem f55r0 (k : Nat) (a0 : (List Int)) (a1 : Int) : RE k f55a0 f55o0 false ⟨[(0, (sI a0)), (1, (I a1))], [], 19⟩ = some ⟨[(0, (sI a0)), (1, (I a1))], [], 19⟩ :=
  rE rfl
theorem f55r1 (k : Nat) (a0 : (List Int)) (a1 : Int) : RE k f55a1 f55o1 false ⟨[(0, (sI a0)), (1, (I a1))], [], 19⟩ = some ⟨[(0, (sI a0)), (1, (I a1)), (5, (I 0))], [], 19⟩ :=
  rE rfl
theorem f55r2 (k : Nat) (a0 : (List Int)) (a1 : Int) (x3 : Int) : RE k f55a2 f55o2 false ⟨[(0, (sI a0)), (1, (I a1)), (5, (I x3))], [], 19⟩ = some ⟨[(0, (sI a0)), (1, (I a1)), (5, (I x3)), (9, (V.bool (decide (x3 < (a0.length : Int)))))], [], 19⟩ := by
  refine rg ?_
  refine ra 2 2 ⟨[(0, (sI a0)), (1, (I a1)), (5, (I x3)), (6, (I x3)), (7, (sI a0))], [], 19⟩ rfl rfl rfl ?_
  refine Eq.trans (reg_pure (x := some ()) (w := fun _ => (I (a0.length : Int))) rfl rfl rfl rfl (p_len (e := I) rfl rfl rfl rfl rfl rfl Go.Proofs.Try.underlying28)) ?_
  refine Eq.trans some_bind ?_
  exact bind_end rfl
theorem f55r4 (k : Nat) (a0 : (List Int)) (a1 : Int) (x3 : Int) : RE k f55a4 f55o4 false ⟨[(0, (sI a0)), (1, (I a1)), (5, (I x3)), (9, (V.bool true))], [], 19⟩ = (((idx a0 x3).bind fun v4 => (some ((v4 == a1))))).map (fun (o : Bool) => (⟨[(0, (sI a0)), (1, (I a1)), (5, (I x3)), (17, (V.bool o))], [], 19⟩ : St)) := by
  refine rg ?_
  refine ra 2 2 ⟨[(0, (sI a0)), (1, (I a1)), (5, (I x3)), (9, (V.bool true)), (12, (sI a0)), (13, (I x3))], [], 19⟩ rfl rfl rfl ?_
  refine Eq.trans (reg_pure (x := (idx a0 x3)) (w := fun v4 => (V.pro (I v4))) rfl rfl rfl rfl (p_index (e := I) rfl rfl rfl Go.Proofs.Try.underlying28 rfl (by decide))) ?_
  refine bindE (fun v4 => ?_)
  exact bind_end rfl
theorem f55r5 (k : Nat) (a0 : (List Int)) (a1 : Int) (x3 : Int) : RE k f55a5 f55o5 false ⟨[(0, (sI a0)), (1, (I a1)), (5, (I x3)), (17, (V.bool true))], [], 19⟩ = some ⟨[(4, (I x3))], [], 19⟩ :=
  rE rfl
theorem f55r3 (k : Nat) (a0 : (List Int)) (a1 : Int) (x3 : Int) : RE k f55a3 f55o3 false ⟨[(0, (sI a0)), (1, (I a1)), (5, (I x3)), (17, (V.bool false))], [], 19⟩ = some ⟨[(0, (sI a0)), (1, (I a1)), (5, (I (Go.IntKind.wrap .i64 (x3 + 1))))], [], 19⟩ :=
  rE rfl
theorem ref11_place_L1_ok (k : Nat) (a0 : (List Int)) (a1 : Int)  (K0 : Int → Option Int) (Kst : X × St → Option (V × List V)) (hK0 : ∀ (y0 : Int), Kst (X.exit 0, ⟨[(0, (sI a0)), (1, (I a1)), (5, (I y0)), (9, (V.bool false))], [], 19⟩) = (K0 y0).map ref11_place_fin) (hret : ∀ s, Kst (X.ret, s) = endK prog 19 [(sI a0), (I a1)] [] [.tmp 4] (X.ret, s)) :
    ∀ (m : Nat) (x3 : Int), (iter (exec prog (EV k) f55n k f55b0) m ⟨[(0, (sI a0)), (1, (I a1)), (5, (I x3))], [], 19⟩).bind Kst = (ref11_place_L1 a0 a1 K0 m x3).map ref11_place_fin := by
  intro m
  induction m with
  | zero => intros; rfl
  | succ m ih =>
    intro x3
    unfold ref11_place_L1
    refine Eq.trans k_round ?_
    refine Eq.trans k_assoc ?_
    refine Eq.trans (k_region0 rfl (f55r2 k a0 a1 x3)) ?_
    refine Eq.trans (k_cond (t := (decide (x3 < (a0.length : Int)))) rfl) ?_
    refine bifE2 (fun hc => ?_) fun hc => ?_
    · rw [hc]
      refine Eq.trans k_skip ?_
      refine Eq.trans k_block ?_
      refine Eq.trans (k_region rfl (f55r4 k a0 a1 x3)) ?_
      refine bindE (fun o5 => ?_)
      refine Eq.trans (k_lcond (t := o5) rfl) ?_
      refine bifE2 (fun hc => ?_) fun hc => ?_
      · rw [hc]
        refine Eq.trans (k_region0 rfl (f55r5 k a0 a1 x3)) ?_
        refine Eq.trans k_lret ?_
        refine Eq.trans blk_ret ?_
        refine Eq.trans loop_ret ?_
        refine Eq.trans (hret _) ?_
        rfl
      · rw [hc]
        refine Eq.trans k_lskip ?_
        refine Eq.trans blk_normal ?_
        refine Eq.trans (k_lregion0 rfl (f55r3 k a0 a1 x3)) ?_
        refine Eq.trans loop_normal ?_
        exact ih (Go.IntKind.wrap .i64 (x3 + 1))
    · rw [hc]
      refine Eq.trans k_exit ?_
      refine Eq.trans loop_exit ?_
      exact hK0 x3
theorem f55r6 (k : Nat) (a0 : (List Int)) (a1 : Int) (y6 : Int) : RE k f55a6 f55o6 false ⟨[(0, (sI a0)), (1, (I a1)), (5, (I y6)), (9, (V.bool false))], [], 19⟩ = some ⟨[(4, (I (-1)))], [], 19⟩ :=
  rE rfl
theorem ref11_place_ok (k : Nat) (a0 : (List Int)) (a1 : Int) : EV k 55 [(sI a0), (I a1)] = (ref11_place k a0 a1).map ref11_place_fin := by
  cases k with
  | zero => rfl
  | succ k =>
    unfold ref11_place
    refine Eq.trans (evF_succ (c := f55c) (N := 19) (regs := f55n) rfl Go.Proofs.Try.func55 rfl (by decide) rfl rfl rfl) ?_
    refine Eq.trans (k_region0 rfl (f55r0 k a0 a1)) ?_
    refine Eq.trans k_assoc ?_
    refine Eq.trans (k_region0 rfl (f55r1 k a0 a1)) ?_
    refine Eq.trans k_block ?_
    refine Eq.trans k_loop ?_
    refine ref11_place_L1_ok k a0 a1 _ _ ?h_ref11_place_L1_0 ?hr_ref11_place_L1 k 0
    · intro y6
      refine Eq.trans blk_exit ?_
      refine Eq.trans (k_region0 rfl (f55r6 k a0 a1 y6)) ?_
      refine Eq.trans k_lret ?_
      rfl
    · intro s; exact rfl
def ref11_IsPart_fin : Bool → V × List V := fun r => ((V.bool r), [])
theorem f30r0 (k : Nat) (a0 : T_api_Base) (a1 : (List Int)) : RE k f30a0 f30o0 false ⟨[(0, (enc_T_api_Base a0)), (1, (sI a1))], [], 58⟩ = some ⟨[(1, (sI a1)), (2, (V.ptr 2 0 0))], [(2, ⟨false, 4, [(enc_T_api_Base a0)]⟩)], 58⟩ :=
  rE rfl
theorem f30r1 (k : Nat) (a0 : T_api_Base) (a1 : (List Int)) : RE k f30a1 f30o1 false ⟨[(1, (sI a1)), (2, (V.ptr 2 0 0))], [(2, ⟨false, 4, [(enc_T_api_Base a0)]⟩)], 58⟩ = some ⟨[(1, (sI a1)), (2, (V.ptr 2 0 0)), (5, (I 0))], [(2, ⟨false, 4, [(enc_T_api_Base a0)]⟩)], 58⟩ :=
  rE rfl
theorem f30r2 (k : Nat) (a0 : T_api_Base) (a1 : (List Int)) (x12 : Int) : RE k f30a2 f30o2 false ⟨[(1, (sI a1)), (2, (V.ptr 2 0 0)), (5, (I x12))], [(2, ⟨false, 4, [(enc_T_api_Base a0)]⟩)], 58⟩ = some ⟨[(1, (sI a1)), (2, (V.ptr 2 0 0)), (5, (I x12)), (10, (V.bool (decide (x12 < (a1.length : Int)))))], [(2, ⟨false, 4, [(enc_T_api_Base a0)]⟩)], 58⟩ := by
  refine rg ?_
  refine ra 2 2 ⟨[(1, (sI a1)), (2, (V.ptr 2 0 0)), (5, (I x12)), (7, (I x12)), (8, (sI a1))], [(2, ⟨false, 4, [(enc_T_api_Base a0)]⟩)], 58⟩ rfl rfl rfl ?_
  refine Eq.trans (reg_pure (x := some ()) (w := fun _ => (I (a1.length : Int))) rfl rfl rfl rfl (p_len (e := I) rfl rfl rfl rfl rfl rfl Go.Proofs.Try.underlying28)) ?_
  refine Eq.trans some_bind ?_
  exact bind_end rfl
theorem f30r4 (k : Nat) (a0 : T_api_Base) (a1 : (List Int)) (x12 : Int) : RE k f30a4 f30o4 true ⟨[(1, (sI a1)), (2, (V.ptr 2 0 0)), (5, (I x12)), (10, (V.bool true))], [(2, ⟨false, 4, [(enc_T_api_Base a0)]⟩)], 58⟩ = (((idx a1 x12).bind fun v13 => ((ref11_isType k a0 v13).bind fun v14 => (bif (!v14) then (some (true)) else (bif (decide (x12 > 0)) then ((idx a1 x12).bind fun v15 => ((idx a1 (Go.IntKind.wrap .i64 (x12 - 1))).bind fun v16 => (some ((decide (v15 ≤ v16)))))) else (some (false))))))).map (fun (o : Bool) => (⟨[(1, (sI a1)), (2, (V.ptr 2 0 0)), (5, (I x12)), (35, (V.bool o))], [(2, ⟨false, 4, [(enc_T_api_Base a0)]⟩)], 58⟩ : St)) := by
  refine Eq.trans (regionE_regp (p := 23) (dk := true) (t := [(1, (sI a1)), (2, (V.ptr 2 0 0)), (5, (I x12)), (10, (V.bool true))]) (σ := [(2, ⟨false, 4, [(enc_T_api_Base a0)]⟩)]) (n := 58) (by decide) (by decide) rfl) ?_
  refine Eq.trans (regp_adv (m := 3) (j := 3) (t' := [(1, (sI a1)), (2, (V.ptr 2 0 0)), (5, (I x12)), (10, (V.bool true)), (13, (enc_T_api_Base a0)), (14, (sI a1)), (15, (I x12))]) rfl rfl rfl) ?_
  refine Eq.trans (regp_pure (x := (idx a1 x12)) (w := fun v13 => (V.pro (I v13))) rfl rfl rfl rfl rfl (p_index (e := I) rfl rfl rfl Go.Proofs.Try.underlying28 rfl (by decide))) ?_
  refine bindE (fun v13 => ?_)
  refine Eq.trans (putp_adv (m := 1) (j := 5) (t' := [(1, (sI a1)), (2, (V.ptr 2 0 0)), (5, (I x12)), (10, (V.bool true)), (13, (enc_T_api_Base a0)), (14, (sI a1)), (15, (I x12)), (16, (V.pro (I v13))), (17, (I v13))]) rfl rfl rfl) ?_
  refine Eq.trans (regp_pure (x := (ref11_isType k a0 v13)) (w := fun v14 => (V.bool v14)) rfl rfl rfl rfl rfl (p_call rfl rfl rfl rfl rfl (ref11_isType_ok k a0 v13) (.inl rfl))) ?_
  refine bindE (fun v14 => ?_)
  refine Eq.trans (putp_adv (m := 2) (j := 8) (t' := [(1, (sI a1)), (2, (V.ptr 2 0 0)), (5, (I x12)), (10, (V.bool true)), (13, (enc_T_api_Base a0)), (14, (sI a1)), (15, (I x12)), (16, (V.pro (I v13))), (17, (I v13)), (18, (V.bool v14)), (19, (V.bool (!v14))), (20, (V.bool (!v14)))]) rfl rfl rfl) ?_
  refine bifE (c := (!v14)) (fun hc => ?_) fun hc => ?_
  · rw [hc]
    exact regp_end rfl
  · rw [hc]
    refine Eq.trans (regp_adv (m := 3) (j := 11) (t' := [(1, (sI a1)), (2, (V.ptr 2 0 0)), (5, (I x12)), (10, (V.bool true)), (13, (enc_T_api_Base a0)), (14, (sI a1)), (15, (I x12)), (16, (V.pro (I v13))), (17, (I v13)), (18, (V.bool v14)), (19, (V.bool false)), (20, (V.bool false)), (21, (I x12)), (22, (V.bool (decide (x12 > 0)))), (23, (V.bool (decide (x12 > 0))))]) rfl rfl rfl) ?_
    refine bifE (c := (decide (x12 > 0))) (fun hc => ?_) fun hc => ?_
    · rw [hc]
      refine Eq.trans (regp_adv (m := 2) (j := 13) (t' := [(1, (sI a1)), (2, (V.ptr 2 0 0)), (5, (I x12)), (10, (V.bool true)), (13, (enc_T_api_Base a0)), (14, (sI a1)), (15, (I x12)), (16, (V.pro (I v13))), (17, (I v13)), (18, (V.bool v14)), (19, (V.bool false)), (20, (V.bool false)), (21, (I x12)), (22, (V.bool true)), (23, (V.bool true)), (24, (sI a1)), (25, (I x12))]) rfl rfl rfl) ?_
      refine Eq.trans (regp_pure (x := (idx a1 x12)) (w := fun v15 => (V.pro (I v15))) rfl rfl rfl rfl rfl (p_index (e := I) rfl rfl rfl Go.Proofs.Try.underlying28 rfl (by decide))) ?_
      refine bindE (fun v15 => ?_)
      refine Eq.trans (putp_adv (m := 4) (j := 18) (t' := [(1, (sI a1)), (2, (V.ptr 2 0 0)), (5, (I x12)), (10, (V.bool true)), (13, (enc_T_api_Base a0)), (14, (sI a1)), (15, (I x12)), (16, (V.pro (I v13))), (17, (I v13)), (18, (V.bool v14)), (19, (V.bool false)), (20, (V.bool false)), (21, (I x12)), (22, (V.bool true)), (23, (V.bool true)), (24, (sI a1)), (25, (I x12)), (26, (V.pro (I v15))), (27, (I v15)), (28, (sI a1)), (29, (I x12)), (30, (I (Go.IntKind.wrap .i64 (x12 - 1))))]) rfl rfl rfl) ?_
      refine Eq.trans (regp_pure (x := (idx a1 (Go.IntKind.wrap .i64 (x12 - 1)))) (w := fun v16 => (V.pro (I v16))) rfl rfl rfl rfl rfl (p_index (e := I) rfl rfl rfl Go.Proofs.Try.underlying28 rfl (by decide))) ?_
      refine bindE (fun v16 => ?_)
      exact regp_end rfl
    · rw [hc]
      exact regp_end rfl
theorem f30r5 (k : Nat) (a0 : T_api_Base) (a1 : (List Int)) (x12 : Int) : RE k f30a5 f30o5 false ⟨[(1, (sI a1)), (2, (V.ptr 2 0 0)), (5, (I x12)), (35, (V.bool true))], [(2, ⟨false, 4, [(enc_T_api_Base a0)]⟩)], 58⟩ = some ⟨[(4, (V.bool false))], [], 58⟩ :=
  rE rfl
theorem f30r6 (k : Nat) (a0 : T_api_Base) (a1 : (List Int)) (x12 : Int) : RE k f30a6 f30o6 true ⟨[(1, (sI a1)), (2, (V.ptr 2 0 0)), (5, (I x12)), (35, (V.bool false))], [(2, ⟨false, 4, [(enc_T_api_Base a0)]⟩)], 58⟩ = (((idx a1 x12).bind fun v18 => ((idx a0.fTypes v18).bind fun v19 => (some (v19.fParent))))).map (fun (o : Int) => (⟨[(1, (sI a1)), (2, (V.ptr 2 0 0)), (5, (I x12)), (6, (I o))], [(2, ⟨false, 4, [(enc_T_api_Base a0)]⟩)], 58⟩ : St)) := by
  refine Eq.trans (regionE_regp (p := 10) (dk := true) (t := [(1, (sI a1)), (2, (V.ptr 2 0 0)), (5, (I x12)), (35, (V.bool false))]) (σ := [(2, ⟨false, 4, [(enc_T_api_Base a0)]⟩)]) (n := 58) (by decide) (by decide) rfl) ?_
  refine Eq.trans (regp_adv (m := 4) (j := 4) (t' := [(1, (sI a1)), (2, (V.ptr 2 0 0)), (5, (I x12)), (35, (V.bool false)), (36, (V.ptr 2 0 2)), (37, (sType (a0.fTypes))), (38, (sI a1)), (39, (I x12))]) rfl rfl rfl) ?_
  refine Eq.trans (regp_pure (x := (idx a1 x12)) (w := fun v18 => (V.pro (I v18))) rfl rfl rfl rfl rfl (p_index (e := I) rfl rfl rfl Go.Proofs.Try.underlying28 rfl (by decide))) ?_
  refine bindE (fun v18 => ?_)
  refine Eq.trans (putp_adv (m := 1) (j := 6) (t' := [(1, (sI a1)), (2, (V.ptr 2 0 0)), (5, (I x12)), (35, (V.bool false)), (36, (V.ptr 2 0 2)), (37, (sType (a0.fTypes))), (38, (sI a1)), (39, (I x12)), (40, (V.pro (I v18))), (41, (I v18))]) rfl rfl rfl) ?_
  refine Eq.trans (regp_pure (x := (idx a0.fTypes v18)) (w := fun v19 => (V.pro (enc_T_api_Type v19))) rfl rfl rfl rfl rfl (p_index (e := enc_T_api_Type) rfl rfl rfl Go.Proofs.Try.underlying22 rfl (by decide))) ?_
  refine bindE (fun v19 => ?_)
  exact regp_end rfl
theorem f30r7 (k : Nat) (a0 : T_api_Base) (a1 : (List Int)) (x12 : Int) (o20 : Int) : RE k f30a7 f30o7 false ⟨[(1, (sI a1)), (2, (V.ptr 2 0 0)), (5, (I x12)), (6, (I o20))], [(2, ⟨false, 4, [(enc_T_api_Base a0)]⟩)], 58⟩ = ((bif (decide (o20 ≥ 0)) then ((cut a1 0 x12).bind fun v21 => ((ref11_place k v21 o20).bind fun v22 => (some ((decide (v22 < 0)))))) else (some (false)))).map (fun (o : Bool) => (⟨[(1, (sI a1)), (2, (V.ptr 2 0 0)), (5, (I x12)), (54, (V.bool o))], [(2, ⟨false, 4, [(enc_T_api_Base a0)]⟩)], 58⟩ : St)) := by
  refine rg ?_
  refine ra 3 3 ⟨[(1, (sI a1)), (2, (V.ptr 2 0 0)), (5, (I x12)), (6, (I o20)), (45, (I o20)), (46, (V.bool (decide (o20 ≥ 0)))), (47, (V.bool (decide (o20 ≥ 0))))], [(2, ⟨false, 4, [(enc_T_api_Base a0)]⟩)], 58⟩ rfl rfl rfl ?_
  refine bifE (c := (decide (o20 ≥ 0))) (fun hc => ?_) fun hc => ?_
  · rw [hc]
    refine ra 2 5 ⟨[(1, (sI a1)), (2, (V.ptr 2 0 0)), (5, (I x12)), (6, (I o20)), (45, (I o20)), (46, (V.bool true)), (47, (V.bool true)), (48, (sI a1)), (49, (I x12))], [(2, ⟨false, 4, [(enc_T_api_Base a0)]⟩)], 58⟩ rfl rfl rfl ?_
    refine Eq.trans (reg_pure (x := (cut a1 0 x12)) (w := fun v21 => (sI v21)) rfl rfl rfl rfl (p_slice (e := I) rfl rfl rfl rfl rfl rfl Go.Proofs.Try.underlying28 rfl (by decide))) ?_
    refine bindE (fun v21 => ?_)
    refine ba 1 7 ⟨[(1, (sI a1)), (2, (V.ptr 2 0 0)), (5, (I x12)), (6, (I o20)), (45, (I o20)), (46, (V.bool true)), (47, (V.bool true)), (48, (sI a1)), (49, (I x12)), (50, (sI v21)), (51, (I o20))], [(2, ⟨false, 4, [(enc_T_api_Base a0)]⟩)], 58⟩ rfl rfl rfl ?_
    refine Eq.trans (reg_pure (x := (ref11_place k v21 o20)) (w := fun v22 => (I v22)) rfl rfl rfl rfl (p_call rfl rfl rfl rfl rfl (ref11_place_ok k v21 o20) (.inl rfl))) ?_
    refine bindE (fun v22 => ?_)
    exact bind_end rfl
  · rw [hc]
    exact reg_end rfl
theorem f30r8 (k : Nat) (a0 : T_api_Base) (a1 : (List Int)) (x12 : Int) : RE k f30a8 f30o8 false ⟨[(1, (sI a1)), (2, (V.ptr 2 0 0)), (5, (I x12)), (54, (V.bool true))], [(2, ⟨false, 4, [(enc_T_api_Base a0)]⟩)], 58⟩ = some ⟨[(4, (V.bool false))], [], 58⟩ :=
  rE rfl
theorem f30r3 (k : Nat) (a0 : T_api_Base) (a1 : (List Int)) (x12 : Int) : RE k f30a3 f30o3 false ⟨[(1, (sI a1)), (2, (V.ptr 2 0 0)), (5, (I x12)), (54, (V.bool false))], [(2, ⟨false, 4, [(enc_T_api_Base a0)]⟩)], 58⟩ = some ⟨[(1, (sI a1)), (2, (V.ptr 2 0 0)), (5, (I (Go.IntKind.wrap .i64 (x12 + 1))))], [(2, ⟨false, 4, [(enc_T_api_Base a0)]⟩)], 58⟩ :=
  rE rfl
theorem ref11_IsPart_L1_ok (k : Nat) (a0 : T_api_Base) (a1 : (List Int))  (K0 : Int → Option Bool) (Kst : X × St → Option (V × List V)) (hK0 : ∀ (y0 : Int), Kst (X.exit 0, ⟨[(1, (sI a1)), (2, (V.ptr 2 0 0)), (5, (I y0)), (10, (V.bool false))], [(2, ⟨false, 4, [(enc_T_api_Base a0)]⟩)], 58⟩) = (K0 y0).map ref11_IsPart_fin) (hret : ∀ s, Kst (X.ret, s) = endK prog 58 [(enc_T_api_Base a0), (sI a1)] [] [.tmp 4] (X.ret, s)) :
    ∀ (m : Nat) (x12 : Int), (iter (exec prog (EV k) f30n k f30b0) m ⟨[(1, (sI a1)), (2, (V.ptr 2 0 0)), (5, (I x12))], [(2, ⟨false, 4, [(enc_T_api_Base a0)]⟩)], 58⟩).bind Kst = (ref11_IsPart_L1 k a0 a1 K0 m x12).map ref11_IsPart_fin := by
  intro m
  induction m with
  | zero => intros; rfl
  | succ m ih =>
    intro x12
    unfold ref11_IsPart_L1
    refine Eq.trans k_round ?_
    refine Eq.trans k_assoc ?_
    refine Eq.trans (k_region0 rfl (f30r2 k a0 a1 x12)) ?_
    refine Eq.trans (k_cond (t := (decide (x12 < (a1.length : Int)))) rfl) ?_
    refine bifE2 (fun hc => ?_) fun hc => ?_
    · rw [hc]
      refine Eq.trans k_skip ?_
      refine Eq.trans k_block ?_
      refine Eq.trans k_assoc ?_
      refine Eq.trans (k_region rfl (f30r4 k a0 a1 x12)) ?_
      refine bindE (fun o17 => ?_)
      refine Eq.trans (k_cond (t := o17) rfl) ?_
      refine bifE2 (fun hc => ?_) fun hc => ?_
      · rw [hc]
        refine Eq.trans k_assoc ?_
        refine Eq.trans (k_region0 rfl (f30r5 k a0 a1 x12)) ?_
        refine Eq.trans k_ret ?_
        refine Eq.trans blk_ret ?_
        refine Eq.trans loop_ret ?_
        refine Eq.trans (hret _) ?_
        rfl
      · rw [hc]
        refine Eq.trans k_skip ?_
        refine Eq.trans (k_region rfl (f30r6 k a0 a1 x12)) ?_
        refine bindE (fun o20 => ?_)
        refine Eq.trans (k_region rfl (f30r7 k a0 a1 x12 o20)) ?_
        refine bindE (fun o23 => ?_)
        refine Eq.trans (k_lcond (t := o23) rfl) ?_
        refine bifE2 (fun hc => ?_) fun hc => ?_
        · rw [hc]
          refine Eq.trans (k_region0 rfl (f30r8 k a0 a1 x12)) ?_
          refine Eq.trans k_lret ?_
          refine Eq.trans blk_ret ?_
          refine Eq.trans loop_ret ?_
          refine Eq.trans (hret _) ?_
          rfl
        · rw [hc]
          refine Eq.trans k_lskip ?_
          refine Eq.trans blk_normal ?_
          refine Eq.trans (k_lregion0 rfl (f30r3 k a0 a1 x12)) ?_
          refine Eq.trans loop_normal ?_
          exact ih (Go.IntKind.wrap .i64 (x12 + 1))
    · rw [hc]
      refine Eq.trans k_exit ?_
      refine Eq.trans loop_exit ?_
      exact hK0 x12
theorem f30r9 (k : Nat) (a0 : T_api_Base) (a1 : (List Int)) (y24 : Int) : RE k f30a9 f30o9 false ⟨[(1, (sI a1)), (2, (V.ptr 2 0 0)), (5, (I y24)), (10, (V.bool false))], [(2, ⟨false, 4, [(enc_T_api_Base a0)]⟩)], 58⟩ = some ⟨[(4, (V.bool (decide ((a1.length : Int) > 0))))], [], 58⟩ := by
  refine rg ?_
  refine ra 1 1 ⟨[(1, (sI a1)), (2, (V.ptr 2 0 0)), (5, (I y24)), (10, (V.bool false)), (55, (sI a1))], [(2, ⟨false, 4, [(enc_T_api_Base a0)]⟩)], 58⟩ rfl rfl rfl ?_
  refine Eq.trans (reg_pure (x := some ()) (w := fun _ => (I (a1.length : Int))) rfl rfl rfl rfl (p_len (e := I) rfl rfl rfl rfl rfl rfl Go.Proofs.Try.underlying28)) ?_
  refine Eq.trans some_bind ?_
  exact bind_end rfl
theorem ref11_IsPart_ok (k : Nat) (a0 : T_api_Base) (a1 : (List Int)) : EV k 30 [(enc_T_api_Base a0), (sI a1)] = (ref11_IsPart k a0 a1).map ref11_IsPart_fin := by
  cases k with
  | zero => rfl
  | succ k =>
    unfold ref11_IsPart
    refine Eq.trans (evF_succ (c := f30c) (N := 58) (regs := f30n) rfl Go.Proofs.Try.func30 rfl (by decide) rfl rfl rfl) ?_
    refine Eq.trans (k_region0 rfl (f30r0 k a0 a1)) ?_
    refine Eq.trans k_assoc ?_
    refine Eq.trans (k_region0 rfl (f30r1 k a0 a1)) ?_
    refine Eq.trans k_block ?_
    refine Eq.trans k_loop ?_
    refine ref11_IsPart_L1_ok k a0 a1 _ _ ?h_ref11_IsPart_L1_0 ?hr_ref11_IsPart_L1 k 0
    · intro y24
      refine Eq.trans blk_exit ?_
      refine Eq.trans (k_region0 rfl (f30r9 k a0 a1 y24)) ?_
      refine Eq.trans k_lret ?_
      rfl
    · intro s; exact rfl
def ref11_Part_fin : (T_api_Base × Int) → V × List V := fun r => (.tup [(enc_T_api_Base r.1), (I r.2)], [])
theorem f27r0 (k : Nat) (a0 : T_api_Base) (a1 : (List Int)) : RE k f27a0 f27o0 false ⟨[(0, (enc_T_api_Base a0)), (1, (sI a1))], [], 83⟩ = some ⟨[(1, (sI a1)), (2, (V.ptr 2 0 0)), (4, (V.ptr 4 0 0))], [(2, ⟨false, 4, [(enc_T_api_Base a0)]⟩), (4, ⟨false, 4, [(V.agg [(V.str []), (I 0), (V.sl 2 8 (List.map enc_T_api_Type ([] : List T_api_Type))), (V.sl 2 4 (List.map enc_T_api_Search ([] : List T_api_Search)))])]⟩)], 83⟩ :=
  rE rfl
theorem f27r1 (k : Nat) (a0 : T_api_Base) (a1 : (List Int)) : RE k f27a1 f27o1 false ⟨[(1, (sI a1)), (2, (V.ptr 2 0 0)), (4, (V.ptr 4 0 0))], [(2, ⟨false, 4, [(enc_T_api_Base a0)]⟩), (4, ⟨false, 4, [(V.agg [(V.str []), (I 0), (V.sl 2 8 (List.map enc_T_api_Type ([] : List T_api_Type))), (V.sl 2 4 (List.map enc_T_api_Search ([] : List T_api_Search)))])]⟩)], 83⟩ = (((ref11_Valid k a0).bind fun v1 => (some ((!v1))))).map (fun (o : Bool) => (⟨[(1, (sI a1)), (2, (V.ptr 2 0 0)), (4, (V.ptr 4 0 0)), (14, (V.bool o))], [(2, ⟨false, 4, [(enc_T_api_Base a0)]⟩), (4, ⟨false, 4, [(V.agg [(V.str []), (I 0), (V.sl 2 8 (List.map enc_T_api_Type ([] : List T_api_Type))), (V.sl 2 4 (List.map enc_T_api_Search ([] : List T_api_Search)))])]⟩)], 83⟩ : St)) := by
  refine rg ?_
  refine ra 1 1 ⟨[(1, (sI a1)), (2, (V.ptr 2 0 0)), (4, (V.ptr 4 0 0)), (12, (enc_T_api_Base a0))], [(2, ⟨false, 4, [(enc_T_api_Base a0)]⟩), (4, ⟨false, 4, [(V.agg [(V.str []), (I 0), (V.sl 2 8 (List.map enc_T_api_Type ([] : List T_api_Type))), (V.sl 2 4 (List.map enc_T_api_Search ([] : List T_api_Search)))])]⟩)], 83⟩ rfl rfl rfl ?_
  refine Eq.trans (reg_pure (x := (ref11_Valid k a0)) (w := fun v1 => (V.bool v1)) rfl rfl rfl rfl (p_call rfl rfl rfl rfl rfl (ref11_Valid_ok k a0) (.inl rfl))) ?_
  refine bindE (fun v1 => ?_)
  exact bind_end rfl
theorem f27r2 (k : Nat) (a0 : T_api_Base) (a1 : (List Int)) : RE k f27a2 f27o2 false ⟨[(1, (sI a1)), (2, (V.ptr 2 0 0)), (4, (V.ptr 4 0 0)), (14, (V.bool true))], [(2, ⟨false, 4, [(enc_T_api_Base a0)]⟩), (4, ⟨false, 4, [(V.agg [(V.str []), (I 0), (V.sl 2 8 (List.map enc_T_api_Type ([] : List T_api_Type))), (V.sl 2 4 (List.map enc_T_api_Search ([] : List T_api_Search)))])]⟩)], 83⟩ = some ⟨[(4, (V.ptr 4 0 0)), (5, (I 100))], [(4, ⟨false, 4, [(enc_T_api_Base ({ fName := [], fKind := 0, fTypes := ([] : List T_api_Type), fIndexes := ([] : List T_api_Search) } : T_api_Base))]⟩)], 83⟩ :=
  rE rfl
theorem f27r3 (k : Nat) (a0 : T_api_Base) (a1 : (List Int)) : RE k f27a3 f27o3 false ⟨[(1, (sI a1)), (2, (V.ptr 2 0 0)), (4, (V.ptr 4 0 0)), (14, (V.bool false))], [(2, ⟨false, 4, [(enc_T_api_Base a0)]⟩), (4, ⟨false, 4, [(V.agg [(V.str []), (I 0), (V.sl 2 8 (List.map enc_T_api_Type ([] : List T_api_Type))), (V.sl 2 4 (List.map enc_T_api_Search ([] : List T_api_Search)))])]⟩)], 83⟩ = (((ref11_IsPart k a0 a1).bind fun v3 => (some ((!v3))))).map (fun (o : Bool) => (⟨[(1, (sI a1)), (2, (V.ptr 2 0 0)), (4, (V.ptr 4 0 0)), (19, (V.bool o))], [(2, ⟨false, 4, [(enc_T_api_Base a0)]⟩), (4, ⟨false, 4, [(V.agg [(V.str []), (I 0), (V.sl 2 8 (List.map enc_T_api_Type ([] : List T_api_Type))), (V.sl 2 4 (List.map enc_T_api_Search ([] : List T_api_Search)))])]⟩)], 83⟩ : St)) := by
  refine rg ?_
  refine ra 2 2 ⟨[(1, (sI a1)), (2, (V.ptr 2 0 0)), (4, (V.ptr 4 0 0)), (14, (V.bool false)), (16, (enc_T_api_Base a0)), (17, (sI a1))], [(2, ⟨false, 4, [(enc_T_api_Base a0)]⟩), (4, ⟨false, 4, [(V.agg [(V.str []), (I 0), (V.sl 2 8 (List.map enc_T_api_Type ([] : List T_api_Type))), (V.sl 2 4 (List.map enc_T_api_Search ([] : List T_api_Search)))])]⟩)], 83⟩ rfl rfl rfl ?_
  refine Eq.trans (reg_pure (x := (ref11_IsPart k a0 a1)) (w := fun v3 => (V.bool v3)) rfl rfl rfl rfl (p_call rfl rfl rfl rfl rfl (ref11_IsPart_ok k a0 a1) (.inl rfl))) ?_
  refine bindE (fun v3 => ?_)
  exact bind_end rfl
theorem f27r4 (k : Nat) (a0 : T_api_Base) (a1 : (List Int)) : RE k f27a4 f27o4 false ⟨[(1, (sI a1)), (2, (V.ptr 2 0 0)), (4, (V.ptr 4 0 0)), (19, (V.bool true))], [(2, ⟨false, 4, [(enc_T_api_Base a0)]⟩), (4, ⟨false, 4, [(V.agg [(V.str []), (I 0), (V.sl 2 8 (List.map enc_T_api_Type ([] : List T_api_Type))), (V.sl 2 4 (List.map enc_T_api_Search ([] : List T_api_Search)))])]⟩)], 83⟩ = some ⟨[(4, (V.ptr 4 0 0)), (5, (I 2))], [(4, ⟨false, 4, [(enc_T_api_Base ({ fName := [], fKind := 0, fTypes := ([] : List T_api_Type), fIndexes := ([] : List T_api_Search) } : T_api_Base))]⟩)], 83⟩ :=
  rE rfl
theorem f27r5 (k : Nat) (a0 : T_api_Base) (a1 : (List Int)) : RE k f27a5 f27o5 false ⟨[(1, (sI a1)), (2, (V.ptr 2 0 0)), (4, (V.ptr 4 0 0)), (19, (V.bool false))], [(2, ⟨false, 4, [(enc_T_api_Base a0)]⟩), (4, ⟨false, 4, [(V.agg [(V.str []), (I 0), (V.sl 2 8 (List.map enc_T_api_Type ([] : List T_api_Type))), (V.sl 2 4 (List.map enc_T_api_Search ([] : List T_api_Search)))])]⟩)], 83⟩ = some ⟨[(1, (sI a1)), (2, (V.ptr 2 0 0)), (4, (V.ptr 4 0 0)), (6, (V.ptr 6 0 0))], [(2, ⟨false, 4, [(enc_T_api_Base a0)]⟩), (4, ⟨false, 4, [(V.agg [(V.str []), (I 0), (V.sl 2 8 (List.map enc_T_api_Type ([] : List T_api_Type))), (V.sl 2 4 (List.map enc_T_api_Search ([] : List T_api_Search)))])]⟩), (6, ⟨false, 4, [(V.agg [(V.str a0.fName), (I a0.fKind), (V.sl 1 8 (List.map enc_T_api_Type ([] : List T_api_Type))), (V.sl 1 4 (List.map enc_T_api_Search ([] : List T_api_Search)))])]⟩)], 83⟩ :=
  rE rfl
theorem f27r6 (k : Nat) (a0 : T_api_Base) (a1 : (List Int)) : RE k f27a6 f27o6 false ⟨[(1, (sI a1)), (2, (V.ptr 2 0 0)), (4, (V.ptr 4 0 0)), (6, (V.ptr 6 0 0))], [(2, ⟨false, 4, [(enc_T_api_Base a0)]⟩), (4, ⟨false, 4, [(V.agg [(V.str []), (I 0), (V.sl 2 8 (List.map enc_T_api_Type ([] : List T_api_Type))), (V.sl 2 4 (List.map enc_T_api_Search ([] : List T_api_Search)))])]⟩), (6, ⟨false, 4, [(V.agg [(V.str a0.fName), (I a0.fKind), (V.sl 1 8 (List.map enc_T_api_Type ([] : List T_api_Type))), (V.sl 1 4 (List.map enc_T_api_Search ([] : List T_api_Search)))])]⟩)], 83⟩ = some ⟨[(1, (sI a1)), (2, (V.ptr 2 0 0)), (4, (V.ptr 4 0 0)), (6, (V.ptr 6 0 0)), (7, (I 0))], [(2, ⟨false, 4, [(enc_T_api_Base a0)]⟩), (4, ⟨false, 4, [(V.agg [(V.str []), (I 0), (V.sl 2 8 (List.map enc_T_api_Type ([] : List T_api_Type))), (V.sl 2 4 (List.map enc_T_api_Search ([] : List T_api_Search)))])]⟩), (6, ⟨false, 4, [(V.agg [(V.str a0.fName), (I a0.fKind), (V.sl 1 8 (List.map enc_T_api_Type ([] : List T_api_Type))), (V.sl 1 4 (List.map enc_T_api_Search ([] : List T_api_Search)))])]⟩)], 83⟩ :=
  rE rfl
theorem f27r7 (k : Nat) (a0 : T_api_Base) (a1 : (List Int)) (x14 : Int) (x15 : (List T_api_Type)) : RE k f27a7 f27o7 false ⟨[(1, (sI a1)), (2, (V.ptr 2 0 0)), (4, (V.ptr 4 0 0)), (6, (V.ptr 6 0 0)), (7, (I x14))], [(2, ⟨false, 4, [(enc_T_api_Base a0)]⟩), (4, ⟨false, 4, [(V.agg [(V.str []), (I 0), (V.sl 2 8 (List.map enc_T_api_Type ([] : List T_api_Type))), (V.sl 2 4 (List.map enc_T_api_Search ([] : List T_api_Search)))])]⟩), (6, ⟨false, 4, [(V.agg [(V.str a0.fName), (I a0.fKind), (V.sl 1 8 (List.map enc_T_api_Type x15)), (V.sl 1 4 (List.map enc_T_api_Search ([] : List T_api_Search)))])]⟩)], 83⟩ = some ⟨[(1, (sI a1)), (2, (V.ptr 2 0 0)), (4, (V.ptr 4 0 0)), (6, (V.ptr 6 0 0)), (7, (I x14)), (29, (V.bool (decide (x14 < (a1.length : Int)))))], [(2, ⟨false, 4, [(enc_T_api_Base a0)]⟩), (4, ⟨false, 4, [(V.agg [(V.str []), (I 0), (V.sl 2 8 (List.map enc_T_api_Type ([] : List T_api_Type))), (V.sl 2 4 (List.map enc_T_api_Search ([] : List T_api_Search)))])]⟩), (6, ⟨false, 4, [(V.agg [(V.str a0.fName), (I a0.fKind), (V.sl 1 8 (List.map enc_T_api_Type x15)), (V.sl 1 4 (List.map enc_T_api_Search ([] : List T_api_Search)))])]⟩)], 83⟩ := by
  refine rg ?_
  refine ra 2 2 ⟨[(1, (sI a1)), (2, (V.ptr 2 0 0)), (4, (V.ptr 4 0 0)), (6, (V.ptr 6 0 0)), (7, (I x14)), (26, (I x14)), (27, (sI a1))], [(2, ⟨false, 4, [(enc_T_api_Base a0)]⟩), (4, ⟨false, 4, [(V.agg [(V.str []), (I 0), (V.sl 2 8 (List.map enc_T_api_Type ([] : List T_api_Type))), (V.sl 2 4 (List.map enc_T_api_Search ([] : List T_api_Search)))])]⟩), (6, ⟨false, 4, [(V.agg [(V.str a0.fName), (I a0.fKind), (V.sl 1 8 (List.map enc_T_api_Type x15)), (V.sl 1 4 (List.map enc_T_api_Search ([] : List T_api_Search)))])]⟩)], 83⟩ rfl rfl rfl ?_
  refine Eq.trans (reg_pure (x := some ()) (w := fun _ => (I (a1.length : Int))) rfl rfl rfl rfl (p_len (e := I) rfl rfl rfl rfl rfl rfl Go.Proofs.Try.underlying28)) ?_
  refine Eq.trans some_bind ?_
  exact bind_end rfl
theorem f27r9 (k : Nat) (a0 : T_api_Base) (a1 : (List Int)) (x14 : Int) (x15 : (List T_api_Type)) : RE k f27a9 f27o9 true ⟨[(1, (sI a1)), (2, (V.ptr 2 0 0)), (4, (V.ptr 4 0 0)), (6, (V.ptr 6 0 0)), (7, (I x14)), (29, (V.bool true))], [(2, ⟨false, 4, [(enc_T_api_Base a0)]⟩), (4, ⟨false, 4, [(V.agg [(V.str []), (I 0), (V.sl 2 8 (List.map enc_T_api_Type ([] : List T_api_Type))), (V.sl 2 4 (List.map enc_T_api_Search ([] : List T_api_Search)))])]⟩), (6, ⟨false, 4, [(V.agg [(V.str a0.fName), (I a0.fKind), (V.sl 1 8 (List.map enc_T_api_Type x15)), (V.sl 1 4 (List.map enc_T_api_Search ([] : List T_api_Search)))])]⟩)], 83⟩ = (((idx a1 x14).bind fun v16 => (idx a0.fTypes v16))).map (fun (o : T_api_Type) => (⟨[(1, (sI a1)), (2, (V.ptr 2 0 0)), (4, (V.ptr 4 0 0)), (6, (V.ptr 6 0 0)), (7, (I x14)), (8, (V.ptr 8 0 0))], [(2, ⟨false, 4, [(enc_T_api_Base a0)]⟩), (4, ⟨false, 4, [(V.agg [(V.str []), (I 0), (V.sl 2 8 (List.map enc_T_api_Type ([] : List T_api_Type))), (V.sl 2 4 (List.map enc_T_api_Search ([] : List T_api_Search)))])]⟩), (6, ⟨false, 4, [(V.agg [(V.str a0.fName), (I a0.fKind), (V.sl 1 8 (List.map enc_T_api_Type x15)), (V.sl 1 4 (List.map enc_T_api_Search ([] : List T_api_Search)))])]⟩), (8, ⟨false, 8, [(enc_T_api_Type o)]⟩)], 83⟩ : St)) := by
  refine Eq.trans (regionE_regp (p := 9) (dk := true) (t := [(1, (sI a1)), (2, (V.ptr 2 0 0)), (4, (V.ptr 4 0 0)), (6, (V.ptr 6 0 0)), (7, (I x14)), (29, (V.bool true))]) (σ := [(2, ⟨false, 4, [(enc_T_api_Base a0)]⟩), (4, ⟨false, 4, [(V.agg [(V.str []), (I 0), (V.sl 2 8 (List.map enc_T_api_Type ([] : List T_api_Type))), (V.sl 2 4 (List.map enc_T_api_Search ([] : List T_api_Search)))])]⟩), (6, ⟨false, 4, [(V.agg [(V.str a0.fName), (I a0.fKind), (V.sl 1 8 (List.map enc_T_api_Type x15)), (V.sl 1 4 (List.map enc_T_api_Search ([] : List T_api_Search)))])]⟩)]) (n := 83) (by decide) (by decide) rfl) ?_
  refine Eq.trans (regp_adv (m := 4) (j := 4) (t' := [(1, (sI a1)), (2, (V.ptr 2 0 0)), (4, (V.ptr 4 0 0)), (6, (V.ptr 6 0 0)), (7, (I x14)), (29, (V.bool true)), (32, (V.ptr 2 0 2)), (33, (sType (a0.fTypes))), (34, (sI a1)), (35, (I x14))]) rfl rfl rfl) ?_
  refine Eq.trans (regp_pure (x := (idx a1 x14)) (w := fun v16 => (V.pro (I v16))) rfl rfl rfl rfl rfl (p_index (e := I) rfl rfl rfl Go.Proofs.Try.underlying28 rfl (by decide))) ?_
  refine bindE (fun v16 => ?_)
  refine Eq.trans (putp_adv (m := 1) (j := 6) (t' := [(1, (sI a1)), (2, (V.ptr 2 0 0)), (4, (V.ptr 4 0 0)), (6, (V.ptr 6 0 0)), (7, (I x14)), (29, (V.bool true)), (32, (V.ptr 2 0 2)), (33, (sType (a0.fTypes))), (34, (sI a1)), (35, (I x14)), (36, (V.pro (I v16))), (37, (I v16))]) rfl rfl rfl) ?_
  refine Eq.trans (regp_pure (x := (idx a0.fTypes v16)) (w := fun v17 => (V.pro (enc_T_api_Type v17))) rfl rfl rfl rfl rfl (p_index (e := enc_T_api_Type) rfl rfl rfl Go.Proofs.Try.underlying22 rfl (by decide))) ?_
  refine bind_self (fun v17 => ?_)
  exact regp_end rfl
theorem f27r10 (k : Nat) (a0 : T_api_Base) (a1 : (List Int)) (x14 : Int) (x15 : (List T_api_Type)) (o18 : T_api_Type) : RE k f27a10 f27o10 false ⟨[(1, (sI a1)), (2, (V.ptr 2 0 0)), (4, (V.ptr 4 0 0)), (6, (V.ptr 6 0 0)), (7, (I x14)), (8, (V.ptr 8 0 0))], [(2, ⟨false, 4, [(enc_T_api_Base a0)]⟩), (4, ⟨false, 4, [(V.agg [(V.str []), (I 0), (V.sl 2 8 (List.map enc_T_api_Type ([] : List T_api_Type))), (V.sl 2 4 (List.map enc_T_api_Search ([] : List T_api_Search)))])]⟩), (6, ⟨false, 4, [(V.agg [(V.str a0.fName), (I a0.fKind), (V.sl 1 8 (List.map enc_T_api_Type x15)), (V.sl 1 4 (List.map enc_T_api_Search ([] : List T_api_Search)))])]⟩), (8, ⟨false, 8, [(enc_T_api_Type o18)]⟩)], 83⟩ = (((app ([] : List T_api_Field) o18.fFields).bind fun v19 => (some ({ o18 with fFields := v19 })))).map (fun (o : T_api_Type) => (⟨[(1, (sI a1)), (2, (V.ptr 2 0 0)), (4, (V.ptr 4 0 0)), (6, (V.ptr 6 0 0)), (7, (I x14)), (8, (V.ptr 8 0 0))], [(2, ⟨false, 4, [(enc_T_api_Base a0)]⟩), (4, ⟨false, 4, [(V.agg [(V.str []), (I 0), (V.sl 2 8 (List.map enc_T_api_Type ([] : List T_api_Type))), (V.sl 2 4 (List.map enc_T_api_Search ([] : List T_api_Search)))])]⟩), (6, ⟨false, 4, [(V.agg [(V.str a0.fName), (I a0.fKind), (V.sl 1 8 (List.map enc_T_api_Type x15)), (V.sl 1 4 (List.map enc_T_api_Search ([] : List T_api_Search)))])]⟩), (8, ⟨false, 8, [(enc_T_api_Type o)]⟩)], 83⟩ : St)) := by
  refine rg ?_
  refine ra 3 3 ⟨[(1, (sI a1)), (2, (V.ptr 2 0 0)), (4, (V.ptr 4 0 0)), (6, (V.ptr 6 0 0)), (7, (I x14)), (8, (V.ptr 8 0 0)), (40, (V.sl 1 3 (List.map enc_T_api_Field ([] : List T_api_Field)))), (41, (V.ptr 8 0 4)), (42, (sField (o18.fFields)))], [(2, ⟨false, 4, [(enc_T_api_Base a0)]⟩), (4, ⟨false, 4, [(V.agg [(V.str []), (I 0), (V.sl 2 8 (List.map enc_T_api_Type ([] : List T_api_Type))), (V.sl 2 4 (List.map enc_T_api_Search ([] : List T_api_Search)))])]⟩), (6, ⟨false, 4, [(V.agg [(V.str a0.fName), (I a0.fKind), (V.sl 1 8 (List.map enc_T_api_Type x15)), (V.sl 1 4 (List.map enc_T_api_Search ([] : List T_api_Search)))])]⟩), (8, ⟨false, 8, [(enc_T_api_Type o18)]⟩)], 83⟩ rfl rfl rfl ?_
  refine Eq.trans (reg_eff (x := (app ([] : List T_api_Field) o18.fFields)) (w := fun v19 => ((V.sl 1 3 (List.map enc_T_api_Field v19)), _)) rfl rfl rfl rfl (p_app (e := enc_T_api_Field) rfl rfl rfl rfl rfl rfl rfl rfl rfl rfl (by decide))) ?_
  refine bindE (fun v19 => ?_)
  exact bind_end rfl
theorem f27r11 (k : Nat) (a0 : T_api_Base) (a1 : (List Int)) (x14 : Int) (x15 : (List T_api_Type)) (o20 : T_api_Type) : RE k f27a11 f27o11 false ⟨[(1, (sI a1)), (2, (V.ptr 2 0 0)), (4, (V.ptr 4 0 0)), (6, (V.ptr 6 0 0)), (7, (I x14)), (8, (V.ptr 8 0 0))], [(2, ⟨false, 4, [(enc_T_api_Base a0)]⟩), (4, ⟨false, 4, [(V.agg [(V.str []), (I 0), (V.sl 2 8 (List.map enc_T_api_Type ([] : List T_api_Type))), (V.sl 2 4 (List.map enc_T_api_Search ([] : List T_api_Search)))])]⟩), (6, ⟨false, 4, [(V.agg [(V.str a0.fName), (I a0.fKind), (V.sl 1 8 (List.map enc_T_api_Type x15)), (V.sl 1 4 (List.map enc_T_api_Search ([] : List T_api_Search)))])]⟩), (8, ⟨false, 8, [(enc_T_api_Type o20)]⟩)], 83⟩ = (((ref11_place k a1 o20.fParent).bind fun v21 => (some ({ o20 with fParent := v21 })))).map (fun (o : T_api_Type) => (⟨[(1, (sI a1)), (2, (V.ptr 2 0 0)), (4, (V.ptr 4 0 0)), (6, (V.ptr 6 0 0)), (7, (I x14)), (8, (V.ptr 8 0 0))], [(2, ⟨false, 4, [(enc_T_api_Base a0)]⟩), (4, ⟨false, 4, [(V.agg [(V.str []), (I 0), (V.sl 2 8 (List.map enc_T_api_Type ([] : List T_api_Type))), (V.sl 2 4 (List.map enc_T_api_Search ([] : List T_api_Search)))])]⟩), (6, ⟨false, 4, [(V.agg [(V.str a0.fName), (I a0.fKind), (V.sl 1 8 (List.map enc_T_api_Type x15)), (V.sl 1 4 (List.map enc_T_api_Search ([] : List T_api_Search)))])]⟩), (8, ⟨false, 8, [(enc_T_api_Type o)]⟩)], 83⟩ : St)) := by
  refine rg ?_
  refine ra 3 3 ⟨[(1, (sI a1)), (2, (V.ptr 2 0 0)), (4, (V.ptr 4 0 0)), (6, (V.ptr 6 0 0)), (7, (I x14)), (8, (V.ptr 8 0 0)), (45, (sI a1)), (46, (V.ptr 8 0 1)), (47, (I o20.fParent))], [(2, ⟨false, 4, [(enc_T_api_Base a0)]⟩), (4, ⟨false, 4, [(V.agg [(V.str []), (I 0), (V.sl 2 8 (List.map enc_T_api_Type ([] : List T_api_Type))), (V.sl 2 4 (List.map enc_T_api_Search ([] : List T_api_Search)))])]⟩), (6, ⟨false, 4, [(V.agg [(V.str a0.fName), (I a0.fKind), (V.sl 1 8 (List.map enc_T_api_Type x15)), (V.sl 1 4 (List.map enc_T_api_Search ([] : List T_api_Search)))])]⟩), (8, ⟨false, 8, [(enc_T_api_Type o20)]⟩)], 83⟩ rfl rfl rfl ?_
  refine Eq.trans (reg_pure (x := (ref11_place k a1 o20.fParent)) (w := fun v21 => (I v21)) rfl rfl rfl rfl (p_call rfl rfl rfl rfl rfl (ref11_place_ok k a1 o20.fParent) (.inl rfl))) ?_
  refine bindE (fun v21 => ?_)
  exact bind_end rfl
theorem f27r12 (k : Nat) (a0 : T_api_Base) (a1 : (List Int)) (x14 : Int) (x15 : (List T_api_Type)) (o22 : T_api_Type) : RE k f27a12 f27o12 false ⟨[(1, (sI a1)), (2, (V.ptr 2 0 0)), (4, (V.ptr 4 0 0)), (6, (V.ptr 6 0 0)), (7, (I x14)), (8, (V.ptr 8 0 0))], [(2, ⟨false, 4, [(enc_T_api_Base a0)]⟩), (4, ⟨false, 4, [(V.agg [(V.str []), (I 0), (V.sl 2 8 (List.map enc_T_api_Type ([] : List T_api_Type))), (V.sl 2 4 (List.map enc_T_api_Search ([] : List T_api_Search)))])]⟩), (6, ⟨false, 4, [(V.agg [(V.str a0.fName), (I a0.fKind), (V.sl 1 8 (List.map enc_T_api_Type x15)), (V.sl 1 4 (List.map enc_T_api_Search ([] : List T_api_Search)))])]⟩), (8, ⟨false, 8, [(enc_T_api_Type o22)]⟩)], 83⟩ = ((app x15 ([o22] : List T_api_Type))).map (fun (o : (List T_api_Type)) => (⟨[(1, (sI a1)), (2, (V.ptr 2 0 0)), (4, (V.ptr 4 0 0)), (6, (V.ptr 6 0 0)), (7, (I x14))], [(2, ⟨false, 4, [(enc_T_api_Base a0)]⟩), (4, ⟨false, 4, [(V.agg [(V.str []), (I 0), (V.sl 2 8 (List.map enc_T_api_Type ([] : List T_api_Type))), (V.sl 2 4 (List.map enc_T_api_Search ([] : List T_api_Search)))])]⟩), (6, ⟨false, 4, [(V.agg [(V.str a0.fName), (I a0.fKind), (V.sl 1 8 (List.map enc_T_api_Type o)), (V.sl 1 4 (List.map enc_T_api_Search ([] : List T_api_Search)))])]⟩)], 83⟩ : St)) := by
  refine rg ?_
  refine ra 4 4 ⟨[(1, (sI a1)), (2, (V.ptr 2 0 0)), (4, (V.ptr 4 0 0)), (6, (V.ptr 6 0 0)), (7, (I x14)), (8, (V.ptr 8 0 0)), (50, (V.ptr 6 0 2)), (51, (V.sl 1 8 (List.map enc_T_api_Type x15))), (52, (enc_T_api_Type o22)), (53, (sType (([o22] : List T_api_Type))))], [(2, ⟨false, 4, [(enc_T_api_Base a0)]⟩), (4, ⟨false, 4, [(V.agg [(V.str []), (I 0), (V.sl 2 8 (List.map enc_T_api_Type ([] : List T_api_Type))), (V.sl 2 4 (List.map enc_T_api_Search ([] : List T_api_Search)))])]⟩), (6, ⟨false, 4, [(V.agg [(V.str a0.fName), (I a0.fKind), (sType x15), (V.sl 1 4 (List.map enc_T_api_Search ([] : List T_api_Search)))])]⟩), (8, ⟨false, 8, [(enc_T_api_Type o22)]⟩)], 83⟩ rfl rfl rfl ?_
  refine Eq.trans (reg_eff (x := (app x15 ([o22] : List T_api_Type))) (w := fun v23 => ((V.sl 1 8 (List.map enc_T_api_Type v23)), _)) rfl rfl rfl rfl (p_app (e := enc_T_api_Type) rfl rfl rfl rfl rfl rfl rfl rfl rfl rfl (by decide))) ?_
  refine bind_self (fun v23 => ?_)
  exact bind_end rfl
theorem f27r8 (k : Nat) (a0 : T_api_Base) (a1 : (List Int)) (x14 : Int) (o24 : (List T_api_Type)) : RE k f27a8 f27o8 false ⟨[(1, (sI a1)), (2, (V.ptr 2 0 0)), (4, (V.ptr 4 0 0)), (6, (V.ptr 6 0 0)), (7, (I x14))], [(2, ⟨false, 4, [(enc_T_api_Base a0)]⟩), (4, ⟨false, 4, [(V.agg [(V.str []), (I 0), (V.sl 2 8 (List.map enc_T_api_Type ([] : List T_api_Type))), (V.sl 2 4 (List.map enc_T_api_Search ([] : List T_api_Search)))])]⟩), (6, ⟨false, 4, [(V.agg [(V.str a0.fName), (I a0.fKind), (V.sl 1 8 (List.map enc_T_api_Type o24)), (V.sl 1 4 (List.map enc_T_api_Search ([] : List T_api_Search)))])]⟩)], 83⟩ = some ⟨[(1, (sI a1)), (2, (V.ptr 2 0 0)), (4, (V.ptr 4 0 0)), (6, (V.ptr 6 0 0)), (7, (I (Go.IntKind.wrap .i64 (x14 + 1))))], [(2, ⟨false, 4, [(enc_T_api_Base a0)]⟩), (4, ⟨false, 4, [(V.agg [(V.str []), (I 0), (V.sl 2 8 (List.map enc_T_api_Type ([] : List T_api_Type))), (V.sl 2 4 (List.map enc_T_api_Search ([] : List T_api_Search)))])]⟩), (6, ⟨false, 4, [(V.agg [(V.str a0.fName), (I a0.fKind), (V.sl 1 8 (List.map enc_T_api_Type o24)), (V.sl 1 4 (List.map enc_T_api_Search ([] : List T_api_Search)))])]⟩)], 83⟩ :=
  rE rfl
theorem ref11_Part_L1_ok (k : Nat) (a0 : T_api_Base) (a1 : (List Int))  (K0 : Int → (List T_api_Type) → Option (T_api_Base × Int)) (Kst : X × St → Option (V × List V)) (hK0 : ∀ (y0 : Int) (y1 : (List T_api_Type)), Kst (X.exit 0, ⟨[(1, (sI a1)), (2, (V.ptr 2 0 0)), (4, (V.ptr 4 0 0)), (6, (V.ptr 6 0 0)), (7, (I y0)), (29, (V.bool false))], [(2, ⟨false, 4, [(enc_T_api_Base a0)]⟩), (4, ⟨false, 4, [(V.agg [(V.str []), (I 0), (V.sl 2 8 (List.map enc_T_api_Type ([] : List T_api_Type))), (V.sl 2 4 (List.map enc_T_api_Search ([] : List T_api_Search)))])]⟩), (6, ⟨false, 4, [(V.agg [(V.str a0.fName), (I a0.fKind), (V.sl 1 8 (List.map enc_T_api_Type y1)), (V.sl 1 4 (List.map enc_T_api_Search ([] : List T_api_Search)))])]⟩)], 83⟩) = (K0 y0 y1).map ref11_Part_fin) (hret : ∀ s, Kst (X.ret, s) = endK prog 83 [(enc_T_api_Base a0), (sI a1)] [] [.cell 4 25, .tmp 5] (X.ret, s)) :
    ∀ (m : Nat) (x14 : Int) (x15 : (List T_api_Type)), (iter (exec prog (EV k) f27n k f27b0) m ⟨[(1, (sI a1)), (2, (V.ptr 2 0 0)), (4, (V.ptr 4 0 0)), (6, (V.ptr 6 0 0)), (7, (I x14))], [(2, ⟨false, 4, [(enc_T_api_Base a0)]⟩), (4, ⟨false, 4, [(V.agg [(V.str []), (I 0), (V.sl 2 8 (List.map enc_T_api_Type ([] : List T_api_Type))), (V.sl 2 4 (List.map enc_T_api_Search ([] : List T_api_Search)))])]⟩), (6, ⟨false, 4, [(V.agg [(V.str a0.fName), (I a0.fKind), (V.sl 1 8 (List.map enc_T_api_Type x15)), (V.sl 1 4 (List.map enc_T_api_Search ([] : List T_api_Search)))])]⟩)], 83⟩).bind Kst = (ref11_Part_L1 k a0 a1 K0 m x14 x15).map ref11_Part_fin := by
  intro m
  induction m with
  | zero => intros; rfl
  | succ m ih =>
    intro x14 x15
    unfold ref11_Part_L1
    refine Eq.trans k_round ?_
    refine Eq.trans k_assoc ?_
    refine Eq.trans (k_region0 rfl (f27r7 k a0 a1 x14 x15)) ?_
    refine Eq.trans (k_cond (t := (decide (x14 < (a1.length : Int)))) rfl) ?_
    refine bifE2 (fun hc => ?_) fun hc => ?_
    · rw [hc]
      refine Eq.trans k_skip ?_
      refine Eq.trans k_block ?_
      refine Eq.trans (k_region rfl (f27r9 k a0 a1 x14 x15)) ?_
      refine bindE (fun o18 => ?_)
      refine Eq.trans (k_region rfl (f27r10 k a0 a1 x14 x15 o18)) ?_
      refine bindE (fun o20 => ?_)
      refine Eq.trans (k_region rfl (f27r11 k a0 a1 x14 x15 o20)) ?_
      refine bindE (fun o22 => ?_)
      refine Eq.trans (k_lregion rfl (f27r12 k a0 a1 x14 x15 o22)) ?_
      refine bindE (fun o24 => ?_)
      refine Eq.trans blk_normal ?_
      refine Eq.trans (k_lregion0 rfl (f27r8 k a0 a1 x14 o24)) ?_
      refine Eq.trans loop_normal ?_
      exact ih (Go.IntKind.wrap .i64 (x14 + 1)) o24
    · rw [hc]
      refine Eq.trans k_exit ?_
      refine Eq.trans loop_exit ?_
      exact hK0 x14 x15
theorem f27r13 (k : Nat) (a0 : T_api_Base) (a1 : (List Int)) (y25 : Int) (y26 : (List T_api_Type)) : RE k f27a13 f27o13 false ⟨[(1, (sI a1)), (2, (V.ptr 2 0 0)), (4, (V.ptr 4 0 0)), (6, (V.ptr 6 0 0)), (7, (I y25)), (29, (V.bool false))], [(2, ⟨false, 4, [(enc_T_api_Base a0)]⟩), (4, ⟨false, 4, [(V.agg [(V.str []), (I 0), (V.sl 2 8 (List.map enc_T_api_Type ([] : List T_api_Type))), (V.sl 2 4 (List.map enc_T_api_Search ([] : List T_api_Search)))])]⟩), (6, ⟨false, 4, [(V.agg [(V.str a0.fName), (I a0.fKind), (V.sl 1 8 (List.map enc_T_api_Type y26)), (V.sl 1 4 (List.map enc_T_api_Search ([] : List T_api_Search)))])]⟩)], 83⟩ = some ⟨[(1, (sI a1)), (2, (V.ptr 2 0 0)), (4, (V.ptr 4 0 0)), (6, (V.ptr 6 0 0)), (9, (I 0))], [(2, ⟨false, 4, [(enc_T_api_Base a0)]⟩), (4, ⟨false, 4, [(V.agg [(V.str []), (I 0), (V.sl 2 8 (List.map enc_T_api_Type ([] : List T_api_Type))), (V.sl 2 4 (List.map enc_T_api_Search ([] : List T_api_Search)))])]⟩), (6, ⟨false, 4, [(V.agg [(V.str a0.fName), (I a0.fKind), (V.sl 1 8 (List.map enc_T_api_Type y26)), (V.sl 1 4 (List.map enc_T_api_Search ([] : List T_api_Search)))])]⟩)], 83⟩ :=
  rE rfl
theorem f27r14 (k : Nat) (a0 : T_api_Base) (a1 : (List Int)) (y26 : (List T_api_Type)) (x33 : Int) (x34 : (List T_api_Search)) : RE k f27a14 f27o14 false ⟨[(1, (sI a1)), (2, (V.ptr 2 0 0)), (4, (V.ptr 4 0 0)), (6, (V.ptr 6 0 0)), (9, (I x33))], [(2, ⟨false, 4, [(enc_T_api_Base a0)]⟩), (4, ⟨false, 4, [(V.agg [(V.str []), (I 0), (V.sl 2 8 (List.map enc_T_api_Type ([] : List T_api_Type))), (V.sl 2 4 (List.map enc_T_api_Search ([] : List T_api_Search)))])]⟩), (6, ⟨false, 4, [(V.agg [(V.str a0.fName), (I a0.fKind), (V.sl 1 8 (List.map enc_T_api_Type y26)), (V.sl 1 4 (List.map enc_T_api_Search x34))])]⟩)], 83⟩ = some ⟨[(1, (sI a1)), (2, (V.ptr 2 0 0)), (4, (V.ptr 4 0 0)), (6, (V.ptr 6 0 0)), (9, (I x33)), (60, (V.bool (decide (x33 < (a0.fIndexes.length : Int)))))], [(2, ⟨false, 4, [(enc_T_api_Base a0)]⟩), (4, ⟨false, 4, [(V.agg [(V.str []), (I 0), (V.sl 2 8 (List.map enc_T_api_Type ([] : List T_api_Type))), (V.sl 2 4 (List.map enc_T_api_Search ([] : List T_api_Search)))])]⟩), (6, ⟨false, 4, [(V.agg [(V.str a0.fName), (I a0.fKind), (V.sl 1 8 (List.map enc_T_api_Type y26)), (V.sl 1 4 (List.map enc_T_api_Search x34))])]⟩)], 83⟩ := by
  refine rg ?_
  refine ra 3 3 ⟨[(1, (sI a1)), (2, (V.ptr 2 0 0)), (4, (V.ptr 4 0 0)), (6, (V.ptr 6 0 0)), (9, (I x33)), (56, (I x33)), (57, (V.ptr 2 0 3)), (58, (sSearch (a0.fIndexes)))], [(2, ⟨false, 4, [(enc_T_api_Base a0)]⟩), (4, ⟨false, 4, [(V.agg [(V.str []), (I 0), (V.sl 2 8 (List.map enc_T_api_Type ([] : List T_api_Type))), (V.sl 2 4 (List.map enc_T_api_Search ([] : List T_api_Search)))])]⟩), (6, ⟨false, 4, [(V.agg [(V.str a0.fName), (I a0.fKind), (V.sl 1 8 (List.map enc_T_api_Type y26)), (V.sl 1 4 (List.map enc_T_api_Search x34))])]⟩)], 83⟩ rfl rfl rfl ?_
  refine Eq.trans (reg_pure (x := some ()) (w := fun _ => (I (a0.fIndexes.length : Int))) rfl rfl rfl rfl (p_len (e := enc_T_api_Search) rfl rfl rfl rfl rfl rfl Go.Proofs.Try.underlying23)) ?_
  refine Eq.trans some_bind ?_
  exact bind_end rfl
theorem f27r16 (k : Nat) (a0 : T_api_Base) (a1 : (List Int)) (y26 : (List T_api_Type)) (x33 : Int) (x34 : (List T_api_Search)) : RE k f27a16 f27o16 false ⟨[(1, (sI a1)), (2, (V.ptr 2 0 0)), (4, (V.ptr 4 0 0)), (6, (V.ptr 6 0 0)), (9, (I x33)), (60, (V.bool true))], [(2, ⟨false, 4, [(enc_T_api_Base a0)]⟩), (4, ⟨false, 4, [(V.agg [(V.str []), (I 0), (V.sl 2 8 (List.map enc_T_api_Type ([] : List T_api_Type))), (V.sl 2 4 (List.map enc_T_api_Search ([] : List T_api_Search)))])]⟩), (6, ⟨false, 4, [(V.agg [(V.str a0.fName), (I a0.fKind), (V.sl 1 8 (List.map enc_T_api_Type y26)), (V.sl 1 4 (List.map enc_T_api_Search x34))])]⟩)], 83⟩ = ((idx a0.fIndexes x33)).map (fun (o : T_api_Search) => (⟨[(1, (sI a1)), (2, (V.ptr 2 0 0)), (4, (V.ptr 4 0 0)), (6, (V.ptr 6 0 0)), (9, (I x33)), (10, (V.ptr 10 0 0))], [(2, ⟨false, 4, [(enc_T_api_Base a0)]⟩), (4, ⟨false, 4, [(V.agg [(V.str []), (I 0), (V.sl 2 8 (List.map enc_T_api_Type ([] : List T_api_Type))), (V.sl 2 4 (List.map enc_T_api_Search ([] : List T_api_Search)))])]⟩), (6, ⟨false, 4, [(V.agg [(V.str a0.fName), (I a0.fKind), (V.sl 1 8 (List.map enc_T_api_Type y26)), (V.sl 1 4 (List.map enc_T_api_Search x34))])]⟩), (10, ⟨false, 4, [(enc_T_api_Search o)]⟩)], 83⟩ : St)) := by
  refine rg ?_
  refine ra 3 3 ⟨[(1, (sI a1)), (2, (V.ptr 2 0 0)), (4, (V.ptr 4 0 0)), (6, (V.ptr 6 0 0)), (9, (I x33)), (60, (V.bool true)), (63, (V.ptr 2 0 3)), (64, (sSearch (a0.fIndexes))), (65, (I x33))], [(2, ⟨false, 4, [(enc_T_api_Base a0)]⟩), (4, ⟨false, 4, [(V.agg [(V.str []), (I 0), (V.sl 2 8 (List.map enc_T_api_Type ([] : List T_api_Type))), (V.sl 2 4 (List.map enc_T_api_Search ([] : List T_api_Search)))])]⟩), (6, ⟨false, 4, [(V.agg [(V.str a0.fName), (I a0.fKind), (V.sl 1 8 (List.map enc_T_api_Type y26)), (V.sl 1 4 (List.map enc_T_api_Search x34))])]⟩)], 83⟩ rfl rfl rfl ?_
  refine Eq.trans (reg_pure (x := (idx a0.fIndexes x33)) (w := fun v35 => (V.pro (enc_T_api_Search v35))) rfl rfl rfl rfl (p_index (e := enc_T_api_Search) rfl rfl rfl Go.Proofs.Try.underlying23 rfl (by decide))) ?_
  refine bind_self (fun v35 => ?_)
  exact bind_end rfl
theorem f27r17 (k : Nat) (a0 : T_api_Base) (a1 : (List Int)) (y26 : (List T_api_Type)) (x33 : Int) (x34 : (List T_api_Search)) (o36 : T_api_Search) : RE k f27a17 f27o17 false ⟨[(1, (sI a1)), (2, (V.ptr 2 0 0)), (4, (V.ptr 4 0 0)), (6, (V.ptr 6 0 0)), (9, (I x33)), (10, (V.ptr 10 0 0))], [(2, ⟨false, 4, [(enc_T_api_Base a0)]⟩), (4, ⟨false, 4, [(V.agg [(V.str []), (I 0), (V.sl 2 8 (List.map enc_T_api_Type ([] : List T_api_Type))), (V.sl 2 4 (List.map enc_T_api_Search ([] : List T_api_Search)))])]⟩), (6, ⟨false, 4, [(V.agg [(V.str a0.fName), (I a0.fKind), (V.sl 1 8 (List.map enc_T_api_Type y26)), (V.sl 1 4 (List.map enc_T_api_Search x34))])]⟩), (10, ⟨false, 4, [(enc_T_api_Search o36)]⟩)], 83⟩ = ((ref11_place k a1 o36.fType)).map (fun (o : Int) => (⟨[(1, (sI a1)), (2, (V.ptr 2 0 0)), (4, (V.ptr 4 0 0)), (6, (V.ptr 6 0 0)), (9, (I x33)), (10, (V.ptr 10 0 0)), (11, (I o))], [(2, ⟨false, 4, [(enc_T_api_Base a0)]⟩), (4, ⟨false, 4, [(V.agg [(V.str []), (I 0), (V.sl 2 8 (List.map enc_T_api_Type ([] : List T_api_Type))), (V.sl 2 4 (List.map enc_T_api_Search ([] : List T_api_Search)))])]⟩), (6, ⟨false, 4, [(V.agg [(V.str a0.fName), (I a0.fKind), (V.sl 1 8 (List.map enc_T_api_Type y26)), (V.sl 1 4 (List.map enc_T_api_Search x34))])]⟩), (10, ⟨false, 4, [(enc_T_api_Search o36)]⟩)], 83⟩ : St)) := by
  refine rg ?_
  refine ra 3 3 ⟨[(1, (sI a1)), (2, (V.ptr 2 0 0)), (4, (V.ptr 4 0 0)), (6, (V.ptr 6 0 0)), (9, (I x33)), (10, (V.ptr 10 0 0)), (68, (sI a1)), (69, (V.ptr 10 0 1)), (70, (I o36.fType))], [(2, ⟨false, 4, [(enc_T_api_Base a0)]⟩), (4, ⟨false, 4, [(V.agg [(V.str []), (I 0), (V.sl 2 8 (List.map enc_T_api_Type ([] : List T_api_Type))), (V.sl 2 4 (List.map enc_T_api_Search ([] : List T_api_Search)))])]⟩), (6, ⟨false, 4, [(V.agg [(V.str a0.fName), (I a0.fKind), (V.sl 1 8 (List.map enc_T_api_Type y26)), (V.sl 1 4 (List.map enc_T_api_Search x34))])]⟩), (10, ⟨false, 4, [(enc_T_api_Search o36)]⟩)], 83⟩ rfl rfl rfl ?_
  refine Eq.trans (reg_pure (x := (ref11_place k a1 o36.fType)) (w := fun v37 => (I v37)) rfl rfl rfl rfl (p_call rfl rfl rfl rfl rfl (ref11_place_ok k a1 o36.fType) (.inl rfl))) ?_
  refine bind_self (fun v37 => ?_)
  exact bind_end rfl
theorem f27r18 (k : Nat) (a0 : T_api_Base) (a1 : (List Int)) (y26 : (List T_api_Type)) (x33 : Int) (x34 : (List T_api_Search)) (o36 : T_api_Search) (o38 : Int) : RE k f27a18 f27o18 false ⟨[(1, (sI a1)), (2, (V.ptr 2 0 0)), (4, (V.ptr 4 0 0)), (6, (V.ptr 6 0 0)), (9, (I x33)), (10, (V.ptr 10 0 0)), (11, (I o38))], [(2, ⟨false, 4, [(enc_T_api_Base a0)]⟩), (4, ⟨false, 4, [(V.agg [(V.str []), (I 0), (V.sl 2 8 (List.map enc_T_api_Type ([] : List T_api_Type))), (V.sl 2 4 (List.map enc_T_api_Search ([] : List T_api_Search)))])]⟩), (6, ⟨false, 4, [(V.agg [(V.str a0.fName), (I a0.fKind), (V.sl 1 8 (List.map enc_T_api_Type y26)), (V.sl 1 4 (List.map enc_T_api_Search x34))])]⟩), (10, ⟨false, 4, [(enc_T_api_Search o36)]⟩)], 83⟩ = some ⟨[(1, (sI a1)), (2, (V.ptr 2 0 0)), (4, (V.ptr 4 0 0)), (6, (V.ptr 6 0 0)), (9, (I x33)), (10, (V.ptr 10 0 0)), (11, (I o38)), (73, (V.bool (decide (o38 ≥ 0))))], [(2, ⟨false, 4, [(enc_T_api_Base a0)]⟩), (4, ⟨false, 4, [(V.agg [(V.str []), (I 0), (V.sl 2 8 (List.map enc_T_api_Type ([] : List T_api_Type))), (V.sl 2 4 (List.map enc_T_api_Search ([] : List T_api_Search)))])]⟩), (6, ⟨false, 4, [(V.agg [(V.str a0.fName), (I a0.fKind), (V.sl 1 8 (List.map enc_T_api_Type y26)), (V.sl 1 4 (List.map enc_T_api_Search x34))])]⟩), (10, ⟨false, 4, [(enc_T_api_Search o36)]⟩)], 83⟩ :=
  rE rfl
theorem f27r19 (k : Nat) (a0 : T_api_Base) (a1 : (List Int)) (y26 : (List T_api_Type)) (x33 : Int) (x34 : (List T_api_Search)) (o36 : T_api_Search) (o38 : Int) : RE k f27a19 f27o19 false ⟨[(1, (sI a1)), (2, (V.ptr 2 0 0)), (4, (V.ptr 4 0 0)), (6, (V.ptr 6 0 0)), (9, (I x33)), (10, (V.ptr 10 0 0)), (11, (I o38)), (73, (V.bool true))], [(2, ⟨false, 4, [(enc_T_api_Base a0)]⟩), (4, ⟨false, 4, [(V.agg [(V.str []), (I 0), (V.sl 2 8 (List.map enc_T_api_Type ([] : List T_api_Type))), (V.sl 2 4 (List.map enc_T_api_Search ([] : List T_api_Search)))])]⟩), (6, ⟨false, 4, [(V.agg [(V.str a0.fName), (I a0.fKind), (V.sl 1 8 (List.map enc_T_api_Type y26)), (V.sl 1 4 (List.map enc_T_api_Search x34))])]⟩), (10, ⟨false, 4, [(enc_T_api_Search o36)]⟩)], 83⟩ = some ⟨[(1, (sI a1)), (2, (V.ptr 2 0 0)), (4, (V.ptr 4 0 0)), (6, (V.ptr 6 0 0)), (9, (I x33)), (10, (V.ptr 10 0 0))], [(2, ⟨false, 4, [(enc_T_api_Base a0)]⟩), (4, ⟨false, 4, [(V.agg [(V.str []), (I 0), (V.sl 2 8 (List.map enc_T_api_Type ([] : List T_api_Type))), (V.sl 2 4 (List.map enc_T_api_Search ([] : List T_api_Search)))])]⟩), (6, ⟨false, 4, [(V.agg [(V.str a0.fName), (I a0.fKind), (V.sl 1 8 (List.map enc_T_api_Type y26)), (V.sl 1 4 (List.map enc_T_api_Search x34))])]⟩), (10, ⟨false, 4, [(enc_T_api_Search { o36 with fType := o38 })]⟩)], 83⟩ :=
  rE rfl
theorem f27r20 (k : Nat) (a0 : T_api_Base) (a1 : (List Int)) (y26 : (List T_api_Type)) (x33 : Int) (x34 : (List T_api_Search)) (o36 : T_api_Search) (o38 : Int) : RE k f27a20 f27o20 false ⟨[(1, (sI a1)), (2, (V.ptr 2 0 0)), (4, (V.ptr 4 0 0)), (6, (V.ptr 6 0 0)), (9, (I x33)), (10, (V.ptr 10 0 0))], [(2, ⟨false, 4, [(enc_T_api_Base a0)]⟩), (4, ⟨false, 4, [(V.agg [(V.str []), (I 0), (V.sl 2 8 (List.map enc_T_api_Type ([] : List T_api_Type))), (V.sl 2 4 (List.map enc_T_api_Search ([] : List T_api_Search)))])]⟩), (6, ⟨false, 4, [(V.agg [(V.str a0.fName), (I a0.fKind), (V.sl 1 8 (List.map enc_T_api_Type y26)), (V.sl 1 4 (List.map enc_T_api_Search x34))])]⟩), (10, ⟨false, 4, [(enc_T_api_Search { o36 with fType := o38 })]⟩)], 83⟩ = ((app x34 ([{ o36 with fType := o38 }] : List T_api_Search))).map (fun (o : (List T_api_Search)) => (⟨[(1, (sI a1)), (2, (V.ptr 2 0 0)), (4, (V.ptr 4 0 0)), (6, (V.ptr 6 0 0)), (9, (I x33))], [(2, ⟨false, 4, [(enc_T_api_Base a0)]⟩), (4, ⟨false, 4, [(V.agg [(V.str []), (I 0), (V.sl 2 8 (List.map enc_T_api_Type ([] : List T_api_Type))), (V.sl 2 4 (List.map enc_T_api_Search ([] : List T_api_Search)))])]⟩), (6, ⟨false, 4, [(V.agg [(V.str a0.fName), (I a0.fKind), (V.sl 1 8 (List.map enc_T_api_Type y26)), (V.sl 1 4 (List.map enc_T_api_Search o))])]⟩)], 83⟩ : St)) := by
  refine rg ?_
  refine ra 4 4 ⟨[(1, (sI a1)), (2, (V.ptr 2 0 0)), (4, (V.ptr 4 0 0)), (6, (V.ptr 6 0 0)), (9, (I x33)), (10, (V.ptr 10 0 0)), (76, (V.ptr 6 0 3)), (77, (V.sl 1 4 (List.map enc_T_api_Search x34))), (78, (enc_T_api_Search { o36 with fType := o38 })), (79, (sSearch (([{ o36 with fType := o38 }] : List T_api_Search))))], [(2, ⟨false, 4, [(enc_T_api_Base a0)]⟩), (4, ⟨false, 4, [(V.agg [(V.str []), (I 0), (V.sl 2 8 (List.map enc_T_api_Type ([] : List T_api_Type))), (V.sl 2 4 (List.map enc_T_api_Search ([] : List T_api_Search)))])]⟩), (6, ⟨false, 4, [(V.agg [(V.str a0.fName), (I a0.fKind), (V.sl 1 8 (List.map enc_T_api_Type y26)), (sSearch x34)])]⟩), (10, ⟨false, 4, [(enc_T_api_Search { o36 with fType := o38 })]⟩)], 83⟩ rfl rfl rfl ?_
  refine Eq.trans (reg_eff (x := (app x34 ([{ o36 with fType := o38 }] : List T_api_Search))) (w := fun v39 => ((V.sl 1 4 (List.map enc_T_api_Search v39)), _)) rfl rfl rfl rfl (p_app (e := enc_T_api_Search) rfl rfl rfl rfl rfl rfl rfl rfl rfl rfl (by decide))) ?_
  refine bind_self (fun v39 => ?_)
  exact bind_end rfl
theorem f27r15 (k : Nat) (a0 : T_api_Base) (a1 : (List Int)) (y26 : (List T_api_Type)) (x33 : Int) (o40 : (List T_api_Search)) : RE k f27a15 f27o15 false ⟨[(1, (sI a1)), (2, (V.ptr 2 0 0)), (4, (V.ptr 4 0 0)), (6, (V.ptr 6 0 0)), (9, (I x33))], [(2, ⟨false, 4, [(enc_T_api_Base a0)]⟩), (4, ⟨false, 4, [(V.agg [(V.str []), (I 0), (V.sl 2 8 (List.map enc_T_api_Type ([] : List T_api_Type))), (V.sl 2 4 (List.map enc_T_api_Search ([] : List T_api_Search)))])]⟩), (6, ⟨false, 4, [(V.agg [(V.str a0.fName), (I a0.fKind), (V.sl 1 8 (List.map enc_T_api_Type y26)), (V.sl 1 4 (List.map enc_T_api_Search o40))])]⟩)], 83⟩ = some ⟨[(1, (sI a1)), (2, (V.ptr 2 0 0)), (4, (V.ptr 4 0 0)), (6, (V.ptr 6 0 0)), (9, (I (Go.IntKind.wrap .i64 (x33 + 1))))], [(2, ⟨false, 4, [(enc_T_api_Base a0)]⟩), (4, ⟨false, 4, [(V.agg [(V.str []), (I 0), (V.sl 2 8 (List.map enc_T_api_Type ([] : List T_api_Type))), (V.sl 2 4 (List.map enc_T_api_Search ([] : List T_api_Search)))])]⟩), (6, ⟨false, 4, [(V.agg [(V.str a0.fName), (I a0.fKind), (V.sl 1 8 (List.map enc_T_api_Type y26)), (V.sl 1 4 (List.map enc_T_api_Search o40))])]⟩)], 83⟩ :=
  rE rfl
theorem ref11_Part_r15' (k : Nat) (a0 : T_api_Base) (a1 : (List Int)) (y26 : (List T_api_Type)) (x33 : Int) (x34 : (List T_api_Search)) (o36 : T_api_Search) (o38 : Int) : RE k f27a15 f27o15 false ⟨[(1, (sI a1)), (2, (V.ptr 2 0 0)), (4, (V.ptr 4 0 0)), (6, (V.ptr 6 0 0)), (9, (I x33)), (10, (V.ptr 10 0 0)), (11, (I o38)), (73, (V.bool false))], [(2, ⟨false, 4, [(enc_T_api_Base a0)]⟩), (4, ⟨false, 4, [(V.agg [(V.str []), (I 0), (V.sl 2 8 (List.map enc_T_api_Type ([] : List T_api_Type))), (V.sl 2 4 (List.map enc_T_api_Search ([] : List T_api_Search)))])]⟩), (6, ⟨false, 4, [(V.agg [(V.str a0.fName), (I a0.fKind), (V.sl 1 8 (List.map enc_T_api_Type y26)), (V.sl 1 4 (List.map enc_T_api_Search x34))])]⟩), (10, ⟨false, 4, [(enc_T_api_Search o36)]⟩)], 83⟩ = some ⟨[(1, (sI a1)), (2, (V.ptr 2 0 0)), (4, (V.ptr 4 0 0)), (6, (V.ptr 6 0 0)), (9, (I (Go.IntKind.wrap .i64 (x33 + 1))))], [(2, ⟨false, 4, [(enc_T_api_Base a0)]⟩), (4, ⟨false, 4, [(V.agg [(V.str []), (I 0), (V.sl 2 8 (List.map enc_T_api_Type ([] : List T_api_Type))), (V.sl 2 4 (List.map enc_T_api_Search ([] : List T_api_Search)))])]⟩), (6, ⟨false, 4, [(V.agg [(V.str a0.fName), (I a0.fKind), (V.sl 1 8 (List.map enc_T_api_Type y26)), (V.sl 1 4 (List.map enc_T_api_Search x34))])]⟩)], 83⟩ :=
  rE rfl
theorem ref11_Part_L2_ok (k : Nat) (a0 : T_api_Base) (a1 : (List Int)) (y26 : (List T_api_Type))  (K0 : Int → (List T_api_Search) → Option (T_api_Base × Int)) (Kst : X × St → Option (V × List V)) (hK0 : ∀ (y0 : Int) (y1 : (List T_api_Search)), Kst (X.exit 2, ⟨[(1, (sI a1)), (2, (V.ptr 2 0 0)), (4, (V.ptr 4 0 0)), (6, (V.ptr 6 0 0)), (9, (I y0)), (60, (V.bool false))], [(2, ⟨false, 4, [(enc_T_api_Base a0)]⟩), (4, ⟨false, 4, [(V.agg [(V.str []), (I 0), (V.sl 2 8 (List.map enc_T_api_Type ([] : List T_api_Type))), (V.sl 2 4 (List.map enc_T_api_Search ([] : List T_api_Search)))])]⟩), (6, ⟨false, 4, [(V.agg [(V.str a0.fName), (I a0.fKind), (V.sl 1 8 (List.map enc_T_api_Type y26)), (V.sl 1 4 (List.map enc_T_api_Search y1))])]⟩)], 83⟩) = (K0 y0 y1).map ref11_Part_fin) (hret : ∀ s, Kst (X.ret, s) = endK prog 83 [(enc_T_api_Base a0), (sI a1)] [] [.cell 4 25, .tmp 5] (X.ret, s)) :
    ∀ (m : Nat) (x33 : Int) (x34 : (List T_api_Search)), (iter (exec prog (EV k) f27n k f27b1) m ⟨[(1, (sI a1)), (2, (V.ptr 2 0 0)), (4, (V.ptr 4 0 0)), (6, (V.ptr 6 0 0)), (9, (I x33))], [(2, ⟨false, 4, [(enc_T_api_Base a0)]⟩), (4, ⟨false, 4, [(V.agg [(V.str []), (I 0), (V.sl 2 8 (List.map enc_T_api_Type ([] : List T_api_Type))), (V.sl 2 4 (List.map enc_T_api_Search ([] : List T_api_Search)))])]⟩), (6, ⟨false, 4, [(V.agg [(V.str a0.fName), (I a0.fKind), (V.sl 1 8 (List.map enc_T_api_Type y26)), (V.sl 1 4 (List.map enc_T_api_Search x34))])]⟩)], 83⟩).bind Kst = (ref11_Part_L2 k a0 a1 K0 m x33 x34).map ref11_Part_fin := by
  intro m
  induction m with
  | zero => intros; rfl
  | succ m ih =>
    intro x33 x34
    unfold ref11_Part_L2
    refine Eq.trans k_round ?_
    refine Eq.trans k_assoc ?_
    refine Eq.trans (k_region0 rfl (f27r14 k a0 a1 y26 x33 x34)) ?_
    refine Eq.trans (k_cond (t := (decide (x33 < (a0.fIndexes.length : Int)))) rfl) ?_
    refine bifE2 (fun hc => ?_) fun hc => ?_
    · rw [hc]
      refine Eq.trans k_skip ?_
      refine Eq.trans k_block ?_
      refine Eq.trans (k_region rfl (f27r16 k a0 a1 y26 x33 x34)) ?_
      refine bindE (fun o36 => ?_)
      refine Eq.trans (k_region rfl (f27r17 k a0 a1 y26 x33 x34 o36)) ?_
      refine bindE (fun o38 => ?_)
      refine Eq.trans (k_region0 rfl (f27r18 k a0 a1 y26 x33 x34 o36 o38)) ?_
      refine Eq.trans (k_lcond (t := (decide (o38 ≥ 0))) rfl) ?_
      refine bifE2 (fun hc => ?_) fun hc => ?_
      · rw [hc]
        refine Eq.trans (k_region0 rfl (f27r19 k a0 a1 y26 x33 x34 o36 o38)) ?_
        refine Eq.trans (k_lregion rfl (f27r20 k a0 a1 y26 x33 x34 o36 o38)) ?_
        refine bindE (fun o40 => ?_)
        refine Eq.trans blk_normal ?_
        refine Eq.trans (k_lregion0 rfl (f27r15 k a0 a1 y26 x33 o40)) ?_
        refine Eq.trans loop_normal ?_
        exact ih (Go.IntKind.wrap .i64 (x33 + 1)) o40
      · rw [hc]
        refine Eq.trans k_lskip ?_
        refine Eq.trans blk_normal ?_
        refine Eq.trans (k_lregion0 rfl (ref11_Part_r15' k a0 a1 y26 x33 x34 o36 o38)) ?_
        refine Eq.trans loop_normal ?_
        exact ih (Go.IntKind.wrap .i64 (x33 + 1)) x34
    · rw [hc]
      refine Eq.trans k_exit ?_
      refine Eq.trans loop_exit ?_
      exact hK0 x33 x34
theorem f27r21 (k : Nat) (a0 : T_api_Base) (a1 : (List Int)) (y26 : (List T_api_Type)) (y41 : Int) (y42 : (List T_api_Search)) : RE k f27a21 f27o21 false ⟨[(1, (sI a1)), (2, (V.ptr 2 0 0)), (4, (V.ptr 4 0 0)), (6, (V.ptr 6 0 0)), (9, (I y41)), (60, (V.bool false))], [(2, ⟨false, 4, [(enc_T_api_Base a0)]⟩), (4, ⟨false, 4, [(V.agg [(V.str []), (I 0), (V.sl 2 8 (List.map enc_T_api_Type ([] : List T_api_Type))), (V.sl 2 4 (List.map enc_T_api_Search ([] : List T_api_Search)))])]⟩), (6, ⟨false, 4, [(V.agg [(V.str a0.fName), (I a0.fKind), (V.sl 1 8 (List.map enc_T_api_Type y26)), (V.sl 1 4 (List.map enc_T_api_Search y42))])]⟩)], 83⟩ = some ⟨[(4, (V.ptr 4 0 0)), (5, (I 0))], [(4, ⟨false, 4, [(enc_T_api_Base ({ fName := a0.fName, fKind := a0.fKind, fTypes := y26, fIndexes := y42 } : T_api_Base))]⟩)], 83⟩ :=
  rE rfl
theorem ref11_Part_ok (k : Nat) (a0 : T_api_Base) (a1 : (List Int)) : EV k 27 [(enc_T_api_Base a0), (sI a1)] = (ref11_Part k a0 a1).map ref11_Part_fin := by
  cases k with
  | zero => rfl
  | succ k =>
    unfold ref11_Part
    refine Eq.trans (evF_succ (c := f27c) (N := 83) (regs := f27n) rfl Go.Proofs.Try.func27 rfl (by decide) rfl rfl rfl) ?_
    refine Eq.trans (k_region0 rfl (f27r0 k a0 a1)) ?_
    refine Eq.trans k_assoc ?_
    refine Eq.trans (k_region rfl (f27r1 k a0 a1)) ?_
    refine bindE (fun o2 => ?_)
    refine Eq.trans (k_cond (t := o2) rfl) ?_
    refine bifE2 (fun hc => ?_) fun hc => ?_
    · rw [hc]
      refine Eq.trans k_assoc ?_
      refine Eq.trans (k_region0 rfl (f27r2 k a0 a1)) ?_
      refine Eq.trans k_ret ?_
      rfl
    · rw [hc]
      refine Eq.trans k_skip ?_
      refine Eq.trans k_assoc ?_
      refine Eq.trans (k_region rfl (f27r3 k a0 a1)) ?_
      refine bindE (fun o4 => ?_)
      refine Eq.trans (k_cond (t := o4) rfl) ?_
      refine bifE2 (fun hc => ?_) fun hc => ?_
      · rw [hc]
        refine Eq.trans k_assoc ?_
        refine Eq.trans (k_region0 rfl (f27r4 k a0 a1)) ?_
        refine Eq.trans k_ret ?_
        rfl
      · rw [hc]
        refine Eq.trans k_skip ?_
        refine Eq.trans (k_region0 rfl (f27r5 k a0 a1)) ?_
        refine Eq.trans k_assoc ?_
        refine Eq.trans (k_region0 rfl (f27r6 k a0 a1)) ?_
        refine Eq.trans k_block ?_
        refine Eq.trans k_loop ?_
        refine ref11_Part_L1_ok k a0 a1 _ _ ?h_ref11_Part_L1_0 ?hr_ref11_Part_L1 k 0 ([] : List T_api_Type)
        · intro y25 y26
          refine Eq.trans blk_exit ?_
          refine Eq.trans k_assoc ?_
          refine Eq.trans (k_region0 rfl (f27r13 k a0 a1 y25 y26)) ?_
          refine Eq.trans k_block ?_
          refine Eq.trans k_loop ?_
          refine ref11_Part_L2_ok k a0 a1 y26 _ _ ?h_ref11_Part_L2_0 ?hr_ref11_Part_L2 k 0 ([] : List T_api_Search)
          · intro y41 y42
            refine Eq.trans blk_exit ?_
            refine Eq.trans (k_region0 rfl (f27r21 k a0 a1 y26 y41 y42)) ?_
            refine Eq.trans k_lret ?_
            rfl
          · intro s; exact rfl
        · intro s; exact rfl
def ref11_Same_fin : Bool → V × List V := fun r => ((V.bool r), [])
theorem f25r0 (k : Nat) (a0 : T_api_Base) (a1 : T_api_Base) : RE k f25a0 f25o0 false ⟨[(0, (enc_T_api_Base a0)), (1, (enc_T_api_Base a1))], [], 149⟩ = some ⟨[(2, (V.ptr 2 0 0)), (3, (V.ptr 3 0 0))], [(2, ⟨false, 4, [(enc_T_api_Base a0)]⟩), (3, ⟨false, 4, [(enc_T_api_Base a1)]⟩)], 149⟩ :=
  rE rfl
theorem f25r1 (k : Nat) (a0 : T_api_Base) (a1 : T_api_Base) : RE k f25a1 f25o1 false ⟨[(2, (V.ptr 2 0 0)), (3, (V.ptr 3 0 0))], [(2, ⟨false, 4, [(enc_T_api_Base a0)]⟩), (3, ⟨false, 4, [(enc_T_api_Base a1)]⟩)], 149⟩ = ((bif (!(a0.fName == a1.fName)) then (some (true)) else (bif (a0.fKind != a1.fKind) then (some (true)) else (bif ((a0.fTypes.length : Int) != (a1.fTypes.length : Int)) then (some (true)) else (some (((a0.fIndexes.length : Int) != (a1.fIndexes.length : Int)))))))).map (fun (o : Bool) => (⟨[(2, (V.ptr 2 0 0)), (3, (V.ptr 3 0 0)), (39, (V.bool o))], [(2, ⟨false, 4, [(enc_T_api_Base a0)]⟩), (3, ⟨false, 4, [(enc_T_api_Base a1)]⟩)], 149⟩ : St)) := by
  refine rg ?_
  refine ra 6 6 ⟨[(2, (V.ptr 2 0 0)), (3, (V.ptr 3 0 0)), (10, (V.ptr 2 0 0)), (11, (V.str a0.fName)), (12, (V.ptr 3 0 0)), (13, (V.str a1.fName)), (14, (V.bool (!(a0.fName == a1.fName)))), (15, (V.bool (!(a0.fName == a1.fName))))], [(2, ⟨false, 4, [(enc_T_api_Base a0)]⟩), (3, ⟨false, 4, [(enc_T_api_Base a1)]⟩)], 149⟩ rfl rfl rfl ?_
  refine bifE (c := (!(a0.fName == a1.fName))) (fun hc => ?_) fun hc => ?_
  · rw [hc]
    exact reg_end rfl
  · rw [hc]
    refine ra 7 13 ⟨[(2, (V.ptr 2 0 0)), (3, (V.ptr 3 0 0)), (10, (V.ptr 2 0 0)), (11, (V.str a0.fName)), (12, (V.ptr 3 0 0)), (13, (V.str a1.fName)), (14, (V.bool false)), (15, (V.bool false)), (16, (V.ptr 2 0 1)), (17, (I a0.fKind)), (18, (V.ptr 3 0 1)), (19, (I a1.fKind)), (20, (V.bool (a0.fKind != a1.fKind))), (21, (V.bool (a0.fKind != a1.fKind))), (22, (V.bool (a0.fKind != a1.fKind)))], [(2, ⟨false, 4, [(enc_T_api_Base a0)]⟩), (3, ⟨false, 4, [(enc_T_api_Base a1)]⟩)], 149⟩ rfl rfl rfl ?_
    refine bifE (c := (a0.fKind != a1.fKind)) (fun hc => ?_) fun hc => ?_
    · rw [hc]
      exact reg_end rfl
    · rw [hc]
      refine ra 2 15 ⟨[(2, (V.ptr 2 0 0)), (3, (V.ptr 3 0 0)), (10, (V.ptr 2 0 0)), (11, (V.str a0.fName)), (12, (V.ptr 3 0 0)), (13, (V.str a1.fName)), (14, (V.bool false)), (15, (V.bool false)), (16, (V.ptr 2 0 1)), (17, (I a0.fKind)), (18, (V.ptr 3 0 1)), (19, (I a1.fKind)), (20, (V.bool false)), (21, (V.bool false)), (22, (V.bool false)), (23, (V.ptr 2 0 2)), (24, (sType (a0.fTypes)))], [(2, ⟨false, 4, [(enc_T_api_Base a0)]⟩), (3, ⟨false, 4, [(enc_T_api_Base a1)]⟩)], 149⟩ rfl rfl rfl ?_
      refine Eq.trans (reg_pure (x := some ()) (w := fun _ => (I (a0.fTypes.length : Int))) rfl rfl rfl rfl (p_len (e := enc_T_api_Type) rfl rfl rfl rfl rfl rfl Go.Proofs.Try.underlying22)) ?_
      refine Eq.trans some_bind ?_
      refine ba 2 18 ⟨[(2, (V.ptr 2 0 0)), (3, (V.ptr 3 0 0)), (10, (V.ptr 2 0 0)), (11, (V.str a0.fName)), (12, (V.ptr 3 0 0)), (13, (V.str a1.fName)), (14, (V.bool false)), (15, (V.bool false)), (16, (V.ptr 2 0 1)), (17, (I a0.fKind)), (18, (V.ptr 3 0 1)), (19, (I a1.fKind)), (20, (V.bool false)), (21, (V.bool false)), (22, (V.bool false)), (23, (V.ptr 2 0 2)), (24, (sType (a0.fTypes))), (25, (I (a0.fTypes.length : Int))), (26, (V.ptr 3 0 2)), (27, (sType (a1.fTypes)))], [(2, ⟨false, 4, [(enc_T_api_Base a0)]⟩), (3, ⟨false, 4, [(enc_T_api_Base a1)]⟩)], 149⟩ rfl rfl rfl ?_
      refine Eq.trans (reg_pure (x := some ()) (w := fun _ => (I (a1.fTypes.length : Int))) rfl rfl rfl rfl (p_len (e := enc_T_api_Type) rfl rfl rfl rfl rfl rfl Go.Proofs.Try.underlying22)) ?_
      refine Eq.trans some_bind ?_
      refine ba 3 22 ⟨[(2, (V.ptr 2 0 0)), (3, (V.ptr 3 0 0)), (10, (V.ptr 2 0 0)), (11, (V.str a0.fName)), (12, (V.ptr 3 0 0)), (13, (V.str a1.fName)), (14, (V.bool false)), (15, (V.bool false)), (16, (V.ptr 2 0 1)), (17, (I a0.fKind)), (18, (V.ptr 3 0 1)), (19, (I a1.fKind)), (20, (V.bool false)), (21, (V.bool false)), (22, (V.bool false)), (23, (V.ptr 2 0 2)), (24, (sType (a0.fTypes))), (25, (I (a0.fTypes.length : Int))), (26, (V.ptr 3 0 2)), (27, (sType (a1.fTypes))), (28, (I (a1.fTypes.length : Int))), (29, (V.bool ((a0.fTypes.length : Int) != (a1.fTypes.length : Int)))), (30, (V.bool ((a0.fTypes.length : Int) != (a1.fTypes.length : Int)))), (31, (V.bool ((a0.fTypes.length : Int) != (a1.fTypes.length : Int))))], [(2, ⟨false, 4, [(enc_T_api_Base a0)]⟩), (3, ⟨false, 4, [(enc_T_api_Base a1)]⟩)], 149⟩ rfl rfl rfl ?_
      refine bifE (c := ((a0.fTypes.length : Int) != (a1.fTypes.length : Int))) (fun hc => ?_) fun hc => ?_
      · rw [hc]
        exact reg_end rfl
      · rw [hc]
        refine ra 2 24 ⟨[(2, (V.ptr 2 0 0)), (3, (V.ptr 3 0 0)), (10, (V.ptr 2 0 0)), (11, (V.str a0.fName)), (12, (V.ptr 3 0 0)), (13, (V.str a1.fName)), (14, (V.bool false)), (15, (V.bool false)), (16, (V.ptr 2 0 1)), (17, (I a0.fKind)), (18, (V.ptr 3 0 1)), (19, (I a1.fKind)), (20, (V.bool false)), (21, (V.bool false)), (22, (V.bool false)), (23, (V.ptr 2 0 2)), (24, (sType (a0.fTypes))), (25, (I (a0.fTypes.length : Int))), (26, (V.ptr 3 0 2)), (27, (sType (a1.fTypes))), (28, (I (a1.fTypes.length : Int))), (29, (V.bool false)), (30, (V.bool false)), (31, (V.bool false)), (32, (V.ptr 2 0 3)), (33, (sSearch (a0.fIndexes)))], [(2, ⟨false, 4, [(enc_T_api_Base a0)]⟩), (3, ⟨false, 4, [(enc_T_api_Base a1)]⟩)], 149⟩ rfl rfl rfl ?_
        refine Eq.trans (reg_pure (x := some ()) (w := fun _ => (I (a0.fIndexes.length : Int))) rfl rfl rfl rfl (p_len (e := enc_T_api_Search) rfl rfl rfl rfl rfl rfl Go.Proofs.Try.underlying23)) ?_
        refine Eq.trans some_bind ?_
        refine ba 2 27 ⟨[(2, (V.ptr 2 0 0)), (3, (V.ptr 3 0 0)), (10, (V.ptr 2 0 0)), (11, (V.str a0.fName)), (12, (V.ptr 3 0 0)), (13, (V.str a1.fName)), (14, (V.bool false)), (15, (V.bool false)), (16, (V.ptr 2 0 1)), (17, (I a0.fKind)), (18, (V.ptr 3 0 1)), (19, (I a1.fKind)), (20, (V.bool false)), (21, (V.bool false)), (22, (V.bool false)), (23, (V.ptr 2 0 2)), (24, (sType (a0.fTypes))), (25, (I (a0.fTypes.length : Int))), (26, (V.ptr 3 0 2)), (27, (sType (a1.fTypes))), (28, (I (a1.fTypes.length : Int))), (29, (V.bool false)), (30, (V.bool false)), (31, (V.bool false)), (32, (V.ptr 2 0 3)), (33, (sSearch (a0.fIndexes))), (34, (I (a0.fIndexes.length : Int))), (35, (V.ptr 3 0 3)), (36, (sSearch (a1.fIndexes)))], [(2, ⟨false, 4, [(enc_T_api_Base a0)]⟩), (3, ⟨false, 4, [(enc_T_api_Base a1)]⟩)], 149⟩ rfl rfl rfl ?_
        refine Eq.trans (reg_pure (x := some ()) (w := fun _ => (I (a1.fIndexes.length : Int))) rfl rfl rfl rfl (p_len (e := enc_T_api_Search) rfl rfl rfl rfl rfl rfl Go.Proofs.Try.underlying23)) ?_
        refine Eq.trans some_bind ?_
        exact bind_end rfl
theorem f25r2 (k : Nat) (a0 : T_api_Base) (a1 : T_api_Base) : RE k f25a2 f25o2 false ⟨[(2, (V.ptr 2 0 0)), (3, (V.ptr 3 0 0)), (39, (V.bool true))], [(2, ⟨false, 4, [(enc_T_api_Base a0)]⟩), (3, ⟨false, 4, [(enc_T_api_Base a1)]⟩)], 149⟩ = some ⟨[(4, (V.bool false))], [], 149⟩ :=
  rE rfl
theorem f25r3 (k : Nat) (a0 : T_api_Base) (a1 : T_api_Base) : RE k f25a3 f25o3 false ⟨[(2, (V.ptr 2 0 0)), (3, (V.ptr 3 0 0)), (39, (V.bool false))], [(2, ⟨false, 4, [(enc_T_api_Base a0)]⟩), (3, ⟨false, 4, [(enc_T_api_Base a1)]⟩)], 149⟩ = some ⟨[(2, (V.ptr 2 0 0)), (3, (V.ptr 3 0 0)), (5, (I 0))], [(2, ⟨false, 4, [(enc_T_api_Base a0)]⟩), (3, ⟨false, 4, [(enc_T_api_Base a1)]⟩)], 149⟩ :=
  rE rfl
theorem f25r4 (k : Nat) (a0 : T_api_Base) (a1 : T_api_Base) (x14 : Int) : RE k f25a4 f25o4 false ⟨[(2, (V.ptr 2 0 0)), (3, (V.ptr 3 0 0)), (5, (I x14))], [(2, ⟨false, 4, [(enc_T_api_Base a0)]⟩), (3, ⟨false, 4, [(enc_T_api_Base a1)]⟩)], 149⟩ = some ⟨[(2, (V.ptr 2 0 0)), (3, (V.ptr 3 0 0)), (5, (I x14)), (44, (V.bool (decide (x14 < (a0.fTypes.length : Int)))))], [(2, ⟨false, 4, [(enc_T_api_Base a0)]⟩), (3, ⟨false, 4, [(enc_T_api_Base a1)]⟩)], 149⟩ := by
  refine rg ?_
  refine ra 3 3 ⟨[(2, (V.ptr 2 0 0)), (3, (V.ptr 3 0 0)), (5, (I x14)), (40, (I x14)), (41, (V.ptr 2 0 2)), (42, (sType (a0.fTypes)))], [(2, ⟨false, 4, [(enc_T_api_Base a0)]⟩), (3, ⟨false, 4, [(enc_T_api_Base a1)]⟩)], 149⟩ rfl rfl rfl ?_
  refine Eq.trans (reg_pure (x := some ()) (w := fun _ => (I (a0.fTypes.length : Int))) rfl rfl rfl rfl (p_len (e := enc_T_api_Type) rfl rfl rfl rfl rfl rfl Go.Proofs.Try.underlying22)) ?_
  refine Eq.trans some_bind ?_
  exact bind_end rfl
theorem f25r6 (k : Nat) (a0 : T_api_Base) (a1 : T_api_Base) (x14 : Int) : RE k f25a6 f25o6 true ⟨[(2, (V.ptr 2 0 0)), (3, (V.ptr 3 0 0)), (5, (I x14)), (44, (V.bool true))], [(2, ⟨false, 4, [(enc_T_api_Base a0)]⟩), (3, ⟨false, 4, [(enc_T_api_Base a1)]⟩)], 149⟩ = (((idx a0.fTypes x14).bind fun v15 => ((idx a1.fTypes x14).bind fun v16 => (some (v15, v16))))).map (fun (o : T_api_Type × T_api_Type) => (⟨[(2, (V.ptr 2 0 0)), (3, (V.ptr 3 0 0)), (5, (I x14)), (6, (V.ptr 6 0 0)), (7, (V.ptr 7 0 0))], [(2, ⟨false, 4, [(enc_T_api_Base a0)]⟩), (3, ⟨false, 4, [(enc_T_api_Base a1)]⟩), (6, ⟨false, 8, [(enc_T_api_Type o.1)]⟩), (7, ⟨false, 8, [(enc_T_api_Type o.2)]⟩)], 149⟩ : St)) := by
  refine Eq.trans (regionE_regp (p := 12) (dk := false) (t := [(2, (V.ptr 2 0 0)), (3, (V.ptr 3 0 0)), (5, (I x14)), (44, (V.bool true))]) (σ := [(2, ⟨false, 4, [(enc_T_api_Base a0)]⟩), (3, ⟨false, 4, [(enc_T_api_Base a1)]⟩)]) (n := 149) (by decide) (by decide) rfl) ?_
  refine Eq.trans (regp_adv (m := 3) (j := 3) (t' := [(2, (V.ptr 2 0 0)), (3, (V.ptr 3 0 0)), (5, (I x14)), (44, (V.bool true)), (47, (V.ptr 2 0 2)), (48, (sType (a0.fTypes))), (49, (I x14))]) rfl rfl rfl) ?_
  refine Eq.trans (regp_pure (x := (idx a0.fTypes x14)) (w := fun v15 => (V.pro (enc_T_api_Type v15))) rfl rfl rfl rfl rfl (p_index (e := enc_T_api_Type) rfl rfl rfl Go.Proofs.Try.underlying22 rfl (by decide))) ?_
  refine bindE (fun v15 => ?_)
  refine Eq.trans (putp_adv (m := 4) (j := 8) (t' := [(2, (V.ptr 2 0 0)), (3, (V.ptr 3 0 0)), (5, (I x14)), (44, (V.bool true)), (47, (V.ptr 2 0 2)), (48, (sType (a0.fTypes))), (49, (I x14)), (50, (V.pro (enc_T_api_Type v15))), (51, (enc_T_api_Type v15)), (52, (V.ptr 3 0 2)), (53, (sType (a1.fTypes))), (54, (I x14))]) rfl rfl rfl) ?_
  refine Eq.trans (regp_pure (x := (idx a1.fTypes x14)) (w := fun v16 => (V.pro (enc_T_api_Type v16))) rfl rfl rfl rfl rfl (p_index (e := enc_T_api_Type) rfl rfl rfl Go.Proofs.Try.underlying22 rfl (by decide))) ?_
  refine bindE (fun v16 => ?_)
  exact regp_end rfl
theorem f25r7 (k : Nat) (a0 : T_api_Base) (a1 : T_api_Base) (x14 : Int) (o17 : T_api_Type × T_api_Type) : RE k f25a7 f25o7 false ⟨[(2, (V.ptr 2 0 0)), (3, (V.ptr 3 0 0)), (5, (I x14)), (6, (V.ptr 6 0 0)), (7, (V.ptr 7 0 0))], [(2, ⟨false, 4, [(enc_T_api_Base a0)]⟩), (3, ⟨false, 4, [(enc_T_api_Base a1)]⟩), (6, ⟨false, 8, [(enc_T_api_Type o17.1)]⟩), (7, ⟨false, 8, [(enc_T_api_Type o17.2)]⟩)], 149⟩ = ((bif (!(o17.1.fName == o17.2.fName)) then (some (true)) else (bif (o17.1.fParent != o17.2.fParent) then (some (true)) else (bif (o17.1.fMin != o17.2.fMin) then (some (true)) else (bif (o17.1.fSize != o17.2.fSize) then (some (true)) else (bif (o17.1.fKey != o17.2.fKey) then (some (true)) else (bif (!(o17.1.fUnique == o17.2.fUnique)) then (some (true)) else (bif (!(o17.1.fLast == o17.2.fLast)) then (some (true)) else (some (((o17.1.fFields.length : Int) != (o17.2.fFields.length : Int)))))))))))).map (fun (o : Bool) => (⟨[(2, (V.ptr 2 0 0)), (3, (V.ptr 3 0 0)), (5, (I x14)), (6, (V.ptr 6 0 0)), (7, (V.ptr 7 0 0)), (112, (V.bool o))], [(2, ⟨false, 4, [(enc_T_api_Base a0)]⟩), (3, ⟨false, 4, [(enc_T_api_Base a1)]⟩), (6, ⟨false, 8, [(enc_T_api_Type o17.1)]⟩), (7, ⟨false, 8, [(enc_T_api_Type o17.2)]⟩)], 149⟩ : St)) := by
  refine rg ?_
  refine ra 6 6 ⟨[(2, (V.ptr 2 0 0)), (3, (V.ptr 3 0 0)), (5, (I x14)), (6, (V.ptr 6 0 0)), (7, (V.ptr 7 0 0)), (57, (V.ptr 6 0 0)), (58, (V.str o17.1.fName)), (59, (V.ptr 7 0 0)), (60, (V.str o17.2.fName)), (61, (V.bool (!(o17.1.fName == o17.2.fName)))), (62, (V.bool (!(o17.1.fName == o17.2.fName))))], [(2, ⟨false, 4, [(enc_T_api_Base a0)]⟩), (3, ⟨false, 4, [(enc_T_api_Base a1)]⟩), (6, ⟨false, 8, [(enc_T_api_Type o17.1)]⟩), (7, ⟨false, 8, [(enc_T_api_Type o17.2)]⟩)], 149⟩ rfl rfl rfl ?_
  refine bifE (c := (!(o17.1.fName == o17.2.fName))) (fun hc => ?_) fun hc => ?_
  · rw [hc]
    exact reg_end rfl
  · rw [hc]
    refine ra 7 13 ⟨[(2, (V.ptr 2 0 0)), (3, (V.ptr 3 0 0)), (5, (I x14)), (6, (V.ptr 6 0 0)), (7, (V.ptr 7 0 0)), (57, (V.ptr 6 0 0)), (58, (V.str o17.1.fName)), (59, (V.ptr 7 0 0)), (60, (V.str o17.2.fName)), (61, (V.bool false)), (62, (V.bool false)), (63, (V.ptr 6 0 1)), (64, (I o17.1.fParent)), (65, (V.ptr 7 0 1)), (66, (I o17.2.fParent)), (67, (V.bool (o17.1.fParent != o17.2.fParent))), (68, (V.bool (o17.1.fParent != o17.2.fParent))), (69, (V.bool (o17.1.fParent != o17.2.fParent)))], [(2, ⟨false, 4, [(enc_T_api_Base a0)]⟩), (3, ⟨false, 4, [(enc_T_api_Base a1)]⟩), (6, ⟨false, 8, [(enc_T_api_Type o17.1)]⟩), (7, ⟨false, 8, [(enc_T_api_Type o17.2)]⟩)], 149⟩ rfl rfl rfl ?_
    refine bifE (c := (o17.1.fParent != o17.2.fParent)) (fun hc => ?_) fun hc => ?_
    · rw [hc]
      exact reg_end rfl
    · rw [hc]
      refine ra 7 20 ⟨[(2, (V.ptr 2 0 0)), (3, (V.ptr 3 0 0)), (5, (I x14)), (6, (V.ptr 6 0 0)), (7, (V.ptr 7 0 0)), (57, (V.ptr 6 0 0)), (58, (V.str o17.1.fName)), (59, (V.ptr 7 0 0)), (60, (V.str o17.2.fName)), (61, (V.bool false)), (62, (V.bool false)), (63, (V.ptr 6 0 1)), (64, (I o17.1.fParent)), (65, (V.ptr 7 0 1)), (66, (I o17.2.fParent)), (67, (V.bool false)), (68, (V.bool false)), (69, (V.bool false)), (70, (V.ptr 6 0 2)), (71, (I o17.1.fMin)), (72, (V.ptr 7 0 2)), (73, (I o17.2.fMin)), (74, (V.bool (o17.1.fMin != o17.2.fMin))), (75, (V.bool (o17.1.fMin != o17.2.fMin))), (76, (V.bool (o17.1.fMin != o17.2.fMin)))], [(2, ⟨false, 4, [(enc_T_api_Base a0)]⟩), (3, ⟨false, 4, [(enc_T_api_Base a1)]⟩), (6, ⟨false, 8, [(enc_T_api_Type o17.1)]⟩), (7, ⟨false, 8, [(enc_T_api_Type o17.2)]⟩)], 149⟩ rfl rfl rfl ?_
      refine bifE (c := (o17.1.fMin != o17.2.fMin)) (fun hc => ?_) fun hc => ?_
      · rw [hc]
        exact reg_end rfl
      · rw [hc]
        refine ra 7 27 ⟨[(2, (V.ptr 2 0 0)), (3, (V.ptr 3 0 0)), (5, (I x14)), (6, (V.ptr 6 0 0)), (7, (V.ptr 7 0 0)), (57, (V.ptr 6 0 0)), (58, (V.str o17.1.fName)), (59, (V.ptr 7 0 0)), (60, (V.str o17.2.fName)), (61, (V.bool false)), (62, (V.bool false)), (63, (V.ptr 6 0 1)), (64, (I o17.1.fParent)), (65, (V.ptr 7 0 1)), (66, (I o17.2.fParent)), (67, (V.bool false)), (68, (V.bool false)), (69, (V.bool false)), (70, (V.ptr 6 0 2)), (71, (I o17.1.fMin)), (72, (V.ptr 7 0 2)), (73, (I o17.2.fMin)), (74, (V.bool false)), (75, (V.bool false)), (76, (V.bool false)), (77, (V.ptr 6 0 3)), (78, (I o17.1.fSize)), (79, (V.ptr 7 0 3)), (80, (I o17.2.fSize)), (81, (V.bool (o17.1.fSize != o17.2.fSize))), (82, (V.bool (o17.1.fSize != o17.2.fSize))), (83, (V.bool (o17.1.fSize != o17.2.fSize)))], [(2, ⟨false, 4, [(enc_T_api_Base a0)]⟩), (3, ⟨false, 4, [(enc_T_api_Base a1)]⟩), (6, ⟨false, 8, [(enc_T_api_Type o17.1)]⟩), (7, ⟨false, 8, [(enc_T_api_Type o17.2)]⟩)], 149⟩ rfl rfl rfl ?_
        refine bifE (c := (o17.1.fSize != o17.2.fSize)) (fun hc => ?_) fun hc => ?_
        · rw [hc]
          exact reg_end rfl
        · rw [hc]
          refine ra 7 34 ⟨[(2, (V.ptr 2 0 0)), (3, (V.ptr 3 0 0)), (5, (I x14)), (6, (V.ptr 6 0 0)), (7, (V.ptr 7 0 0)), (57, (V.ptr 6 0 0)), (58, (V.str o17.1.fName)), (59, (V.ptr 7 0 0)), (60, (V.str o17.2.fName)), (61, (V.bool false)), (62, (V.bool false)), (63, (V.ptr 6 0 1)), (64, (I o17.1.fParent)), (65, (V.ptr 7 0 1)), (66, (I o17.2.fParent)), (67, (V.bool false)), (68, (V.bool false)), (69, (V.bool false)), (70, (V.ptr 6 0 2)), (71, (I o17.1.fMin)), (72, (V.ptr 7 0 2)), (73, (I o17.2.fMin)), (74, (V.bool false)), (75, (V.bool false)), (76, (V.bool false)), (77, (V.ptr 6 0 3)), (78, (I o17.1.fSize)), (79, (V.ptr 7 0 3)), (80, (I o17.2.fSize)), (81, (V.bool false)), (82, (V.bool false)), (83, (V.bool false)), (84, (V.ptr 6 0 5)), (85, (I o17.1.fKey)), (86, (V.ptr 7 0 5)), (87, (I o17.2.fKey)), (88, (V.bool (o17.1.fKey != o17.2.fKey))), (89, (V.bool (o17.1.fKey != o17.2.fKey))), (90, (V.bool (o17.1.fKey != o17.2.fKey)))], [(2, ⟨false, 4, [(enc_T_api_Base a0)]⟩), (3, ⟨false, 4, [(enc_T_api_Base a1)]⟩), (6, ⟨false, 8, [(enc_T_api_Type o17.1)]⟩), (7, ⟨false, 8, [(enc_T_api_Type o17.2)]⟩)], 149⟩ rfl rfl rfl ?_
          refine bifE (c := (o17.1.fKey != o17.2.fKey)) (fun hc => ?_) fun hc => ?_
          · rw [hc]
            exact reg_end rfl
          · rw [hc]
            refine ra 7 41 ⟨[(2, (V.ptr 2 0 0)), (3, (V.ptr 3 0 0)), (5, (I x14)), (6, (V.ptr 6 0 0)), (7, (V.ptr 7 0 0)), (57, (V.ptr 6 0 0)), (58, (V.str o17.1.fName)), (59, (V.ptr 7 0 0)), (60, (V.str o17.2.fName)), (61, (V.bool false)), (62, (V.bool false)), (63, (V.ptr 6 0 1)), (64, (I o17.1.fParent)), (65, (V.ptr 7 0 1)), (66, (I o17.2.fParent)), (67, (V.bool false)), (68, (V.bool false)), (69, (V.bool false)), (70, (V.ptr 6 0 2)), (71, (I o17.1.fMin)), (72, (V.ptr 7 0 2)), (73, (I o17.2.fMin)), (74, (V.bool false)), (75, (V.bool false)), (76, (V.bool false)), (77, (V.ptr 6 0 3)), (78, (I o17.1.fSize)), (79, (V.ptr 7 0 3)), (80, (I o17.2.fSize)), (81, (V.bool false)), (82, (V.bool false)), (83, (V.bool false)), (84, (V.ptr 6 0 5)), (85, (I o17.1.fKey)), (86, (V.ptr 7 0 5)), (87, (I o17.2.fKey)), (88, (V.bool false)), (89, (V.bool false)), (90, (V.bool false)), (91, (V.ptr 6 0 6)), (92, (V.bool o17.1.fUnique)), (93, (V.ptr 7 0 6)), (94, (V.bool o17.2.fUnique)), (95, (V.bool (!(o17.1.fUnique == o17.2.fUnique)))), (96, (V.bool (!(o17.1.fUnique == o17.2.fUnique)))), (97, (V.bool (!(o17.1.fUnique == o17.2.fUnique))))], [(2, ⟨false, 4, [(enc_T_api_Base a0)]⟩), (3, ⟨false, 4, [(enc_T_api_Base a1)]⟩), (6, ⟨false, 8, [(enc_T_api_Type o17.1)]⟩), (7, ⟨false, 8, [(enc_T_api_Type o17.2)]⟩)], 149⟩ rfl rfl rfl ?_
            refine bifE (c := (!(o17.1.fUnique == o17.2.fUnique))) (fun hc => ?_) fun hc => ?_
            · rw [hc]
              exact reg_end rfl
            · rw [hc]
              refine ra 7 48 ⟨[(2, (V.ptr 2 0 0)), (3, (V.ptr 3 0 0)), (5, (I x14)), (6, (V.ptr 6 0 0)), (7, (V.ptr 7 0 0)), (57, (V.ptr 6 0 0)), (58, (V.str o17.1.fName)), (59, (V.ptr 7 0 0)), (60, (V.str o17.2.fName)), (61, (V.bool false)), (62, (V.bool false)), (63, (V.ptr 6 0 1)), (64, (I o17.1.fParent)), (65, (V.ptr 7 0 1)), (66, (I o17.2.fParent)), (67, (V.bool false)), (68, (V.bool false)), (69, (V.bool false)), (70, (V.ptr 6 0 2)), (71, (I o17.1.fMin)), (72, (V.ptr 7 0 2)), (73, (I o17.2.fMin)), (74, (V.bool false)), (75, (V.bool false)), (76, (V.bool false)), (77, (V.ptr 6 0 3)), (78, (I o17.1.fSize)), (79, (V.ptr 7 0 3)), (80, (I o17.2.fSize)), (81, (V.bool false)), (82, (V.bool false)), (83, (V.bool false)), (84, (V.ptr 6 0 5)), (85, (I o17.1.fKey)), (86, (V.ptr 7 0 5)), (87, (I o17.2.fKey)), (88, (V.bool false)), (89, (V.bool false)), (90, (V.bool false)), (91, (V.ptr 6 0 6)), (92, (V.bool o17.1.fUnique)), (93, (V.ptr 7 0 6)), (94, (V.bool o17.2.fUnique)), (95, (V.bool false)), (96, (V.bool false)), (97, (V.bool false)), (98, (V.ptr 6 0 7)), (99, (V.bool o17.1.fLast)), (100, (V.ptr 7 0 7)), (101, (V.bool o17.2.fLast)), (102, (V.bool (!(o17.1.fLast == o17.2.fLast)))), (103, (V.bool (!(o17.1.fLast == o17.2.fLast)))), (104, (V.bool (!(o17.1.fLast == o17.2.fLast))))], [(2, ⟨false, 4, [(enc_T_api_Base a0)]⟩), (3, ⟨false, 4, [(enc_T_api_Base a1)]⟩), (6, ⟨false, 8, [(enc_T_api_Type o17.1)]⟩), (7, ⟨false, 8, [(enc_T_api_Type o17.2)]⟩)], 149⟩ rfl rfl rfl ?_
              refine bifE (c := (!(o17.1.fLast == o17.2.fLast))) (fun hc => ?_) fun hc => ?_
              · rw [hc]
                exact reg_end rfl
              · rw [hc]
                refine ra 2 50 ⟨[(2, (V.ptr 2 0 0)), (3, (V.ptr 3 0 0)), (5, (I x14)), (6, (V.ptr 6 0 0)), (7, (V.ptr 7 0 0)), (57, (V.ptr 6 0 0)), (58, (V.str o17.1.fName)), (59, (V.ptr 7 0 0)), (60, (V.str o17.2.fName)), (61, (V.bool false)), (62, (V.bool false)), (63, (V.ptr 6 0 1)), (64, (I o17.1.fParent)), (65, (V.ptr 7 0 1)), (66, (I o17.2.fParent)), (67, (V.bool false)), (68, (V.bool false)), (69, (V.bool false)), (70, (V.ptr 6 0 2)), (71, (I o17.1.fMin)), (72, (V.ptr 7 0 2)), (73, (I o17.2.fMin)), (74, (V.bool false)), (75, (V.bool false)), (76, (V.bool false)), (77, (V.ptr 6 0 3)), (78, (I o17.1.fSize)), (79, (V.ptr 7 0 3)), (80, (I o17.2.fSize)), (81, (V.bool false)), (82, (V.bool false)), (83, (V.bool false)), (84, (V.ptr 6 0 5)), (85, (I o17.1.fKey)), (86, (V.ptr 7 0 5)), (87, (I o17.2.fKey)), (88, (V.bool false)), (89, (V.bool false)), (90, (V.bool false)), (91, (V.ptr 6 0 6)), (92, (V.bool o17.1.fUnique)), (93, (V.ptr 7 0 6)), (94, (V.bool o17.2.fUnique)), (95, (V.bool false)), (96, (V.bool false)), (97, (V.bool false)), (98, (V.ptr 6 0 7)), (99, (V.bool o17.1.fLast)), (100, (V.ptr 7 0 7)), (101, (V.bool o17.2.fLast)), (102, (V.bool false)), (103, (V.bool false)), (104, (V.bool false)), (105, (V.ptr 6 0 4)), (106, (sField (o17.1.fFields)))], [(2, ⟨false, 4, [(enc_T_api_Base a0)]⟩), (3, ⟨false, 4, [(enc_T_api_Base a1)]⟩), (6, ⟨false, 8, [(enc_T_api_Type o17.1)]⟩), (7, ⟨false, 8, [(enc_T_api_Type o17.2)]⟩)], 149⟩ rfl rfl rfl ?_
                refine Eq.trans (reg_pure (x := some ()) (w := fun _ => (I (o17.1.fFields.length : Int))) rfl rfl rfl rfl (p_len (e := enc_T_api_Field) rfl rfl rfl rfl rfl rfl Go.Proofs.Try.underlying53)) ?_
                refine Eq.trans some_bind ?_
                refine ba 2 53 ⟨[(2, (V.ptr 2 0 0)), (3, (V.ptr 3 0 0)), (5, (I x14)), (6, (V.ptr 6 0 0)), (7, (V.ptr 7 0 0)), (57, (V.ptr 6 0 0)), (58, (V.str o17.1.fName)), (59, (V.ptr 7 0 0)), (60, (V.str o17.2.fName)), (61, (V.bool false)), (62, (V.bool false)), (63, (V.ptr 6 0 1)), (64, (I o17.1.fParent)), (65, (V.ptr 7 0 1)), (66, (I o17.2.fParent)), (67, (V.bool false)), (68, (V.bool false)), (69, (V.bool false)), (70, (V.ptr 6 0 2)), (71, (I o17.1.fMin)), (72, (V.ptr 7 0 2)), (73, (I o17.2.fMin)), (74, (V.bool false)), (75, (V.bool false)), (76, (V.bool false)), (77, (V.ptr 6 0 3)), (78, (I o17.1.fSize)), (79, (V.ptr 7 0 3)), (80, (I o17.2.fSize)), (81, (V.bool false)), (82, (V.bool false)), (83, (V.bool false)), (84, (V.ptr 6 0 5)), (85, (I o17.1.fKey)), (86, (V.ptr 7 0 5)), (87, (I o17.2.fKey)), (88, (V.bool false)), (89, (V.bool false)), (90, (V.bool false)), (91, (V.ptr 6 0 6)), (92, (V.bool o17.1.fUnique)), (93, (V.ptr 7 0 6)), (94, (V.bool o17.2.fUnique)), (95, (V.bool false)), (96, (V.bool false)), (97, (V.bool false)), (98, (V.ptr 6 0 7)), (99, (V.bool o17.1.fLast)), (100, (V.ptr 7 0 7)), (101, (V.bool o17.2.fLast)), (102, (V.bool false)), (103, (V.bool false)), (104, (V.bool false)), (105, (V.ptr 6 0 4)), (106, (sField (o17.1.fFields))), (107, (I (o17.1.fFields.length : Int))), (108, (V.ptr 7 0 4)), (109, (sField (o17.2.fFields)))], [(2, ⟨false, 4, [(enc_T_api_Base a0)]⟩), (3, ⟨false, 4, [(enc_T_api_Base a1)]⟩), (6, ⟨false, 8, [(enc_T_api_Type o17.1)]⟩), (7, ⟨false, 8, [(enc_T_api_Type o17.2)]⟩)], 149⟩ rfl rfl rfl ?_
                refine Eq.trans (reg_pure (x := some ()) (w := fun _ => (I (o17.2.fFields.length : Int))) rfl rfl rfl rfl (p_len (e := enc_T_api_Field) rfl rfl rfl rfl rfl rfl Go.Proofs.Try.underlying53)) ?_
                refine Eq.trans some_bind ?_
                exact bind_end rfl
theorem f25r8 (k : Nat) (a0 : T_api_Base) (a1 : T_api_Base) (x14 : Int) (o17 : T_api_Type × T_api_Type) : RE k f25a8 f25o8 false ⟨[(2, (V.ptr 2 0 0)), (3, (V.ptr 3 0 0)), (5, (I x14)), (6, (V.ptr 6 0 0)), (7, (V.ptr 7 0 0)), (112, (V.bool true))], [(2, ⟨false, 4, [(enc_T_api_Base a0)]⟩), (3, ⟨false, 4, [(enc_T_api_Base a1)]⟩), (6, ⟨false, 8, [(enc_T_api_Type o17.1)]⟩), (7, ⟨false, 8, [(enc_T_api_Type o17.2)]⟩)], 149⟩ = some ⟨[(4, (V.bool false))], [], 149⟩ :=
  rE rfl
theorem f25r9 (k : Nat) (a0 : T_api_Base) (a1 : T_api_Base) (x14 : Int) (o17 : T_api_Type × T_api_Type) : RE k f25a9 f25o9 false ⟨[(2, (V.ptr 2 0 0)), (3, (V.ptr 3 0 0)), (5, (I x14)), (6, (V.ptr 6 0 0)), (7, (V.ptr 7 0 0)), (112, (V.bool false))], [(2, ⟨false, 4, [(enc_T_api_Base a0)]⟩), (3, ⟨false, 4, [(enc_T_api_Base a1)]⟩), (6, ⟨false, 8, [(enc_T_api_Type o17.1)]⟩), (7, ⟨false, 8, [(enc_T_api_Type o17.2)]⟩)], 149⟩ = some ⟨[(2, (V.ptr 2 0 0)), (3, (V.ptr 3 0 0)), (5, (I x14)), (6, (V.ptr 6 0 0)), (7, (V.ptr 7 0 0)), (8, (I 0))], [(2, ⟨false, 4, [(enc_T_api_Base a0)]⟩), (3, ⟨false, 4, [(enc_T_api_Base a1)]⟩), (6, ⟨false, 8, [(enc_T_api_Type o17.1)]⟩), (7, ⟨false, 8, [(enc_T_api_Type o17.2)]⟩)], 149⟩ :=
  rE rfl
theorem f25r10 (k : Nat) (a0 : T_api_Base) (a1 : T_api_Base) (x14 : Int) (o17 : T_api_Type × T_api_Type) (x22 : Int) : RE k f25a10 f25o10 false ⟨[(2, (V.ptr 2 0 0)), (3, (V.ptr 3 0 0)), (5, (I x14)), (6, (V.ptr 6 0 0)), (7, (V.ptr 7 0 0)), (8, (I x22))], [(2, ⟨false, 4, [(enc_T_api_Base a0)]⟩), (3, ⟨false, 4, [(enc_T_api_Base a1)]⟩), (6, ⟨false, 8, [(enc_T_api_Type o17.1)]⟩), (7, ⟨false, 8, [(enc_T_api_Type o17.2)]⟩)], 149⟩ = some ⟨[(2, (V.ptr 2 0 0)), (3, (V.ptr 3 0 0)), (5, (I x14)), (6, (V.ptr 6 0 0)), (7, (V.ptr 7 0 0)), (8, (I x22)), (117, (V.bool (decide (x22 < (o17.1.fFields.length : Int)))))], [(2, ⟨false, 4, [(enc_T_api_Base a0)]⟩), (3, ⟨false, 4, [(enc_T_api_Base a1)]⟩), (6, ⟨false, 8, [(enc_T_api_Type o17.1)]⟩), (7, ⟨false, 8, [(enc_T_api_Type o17.2)]⟩)], 149⟩ := by
  refine rg ?_
  refine ra 3 3 ⟨[(2, (V.ptr 2 0 0)), (3, (V.ptr 3 0 0)), (5, (I x14)), (6, (V.ptr 6 0 0)), (7, (V.ptr 7 0 0)), (8, (I x22)), (113, (I x22)), (114, (V.ptr 6 0 4)), (115, (sField (o17.1.fFields)))], [(2, ⟨false, 4, [(enc_T_api_Base a0)]⟩), (3, ⟨false, 4, [(enc_T_api_Base a1)]⟩), (6, ⟨false, 8, [(enc_T_api_Type o17.1)]⟩), (7, ⟨false, 8, [(enc_T_api_Type o17.2)]⟩)], 149⟩ rfl rfl rfl ?_
  refine Eq.trans (reg_pure (x := some ()) (w := fun _ => (I (o17.1.fFields.length : Int))) rfl rfl rfl rfl (p_len (e := enc_T_api_Field) rfl rfl rfl rfl rfl rfl Go.Proofs.Try.underlying53)) ?_
  refine Eq.trans some_bind ?_
  exact bind_end rfl
theorem f25r12 (k : Nat) (a0 : T_api_Base) (a1 : T_api_Base) (x14 : Int) (o17 : T_api_Type × T_api_Type) (x22 : Int) : RE k f25a12 f25o12 true ⟨[(2, (V.ptr 2 0 0)), (3, (V.ptr 3 0 0)), (5, (I x14)), (6, (V.ptr 6 0 0)), (7, (V.ptr 7 0 0)), (8, (I x22)), (117, (V.bool true))], [(2, ⟨false, 4, [(enc_T_api_Base a0)]⟩), (3, ⟨false, 4, [(enc_T_api_Base a1)]⟩), (6, ⟨false, 8, [(enc_T_api_Type o17.1)]⟩), (7, ⟨false, 8, [(enc_T_api_Type o17.2)]⟩)], 149⟩ = (((idx o17.1.fFields x22).bind fun v23 => ((idx o17.2.fFields x22).bind fun v24 => (some ((!(v23.fName == v24.fName && (v23.fAt == v24.fAt && (v23.fBytes == v24.fBytes && true))))))))).map (fun (o : Bool) => (⟨[(2, (V.ptr 2 0 0)), (3, (V.ptr 3 0 0)), (5, (I x14)), (6, (V.ptr 6 0 0)), (7, (V.ptr 7 0 0)), (8, (I x22)), (130, (V.bool o))], [(2, ⟨false, 4, [(enc_T_api_Base a0)]⟩), (3, ⟨false, 4, [(enc_T_api_Base a1)]⟩), (6, ⟨false, 8, [(enc_T_api_Type o17.1)]⟩), (7, ⟨false, 8, [(enc_T_api_Type o17.2)]⟩)], 149⟩ : St)) := by
  refine Eq.trans (regionE_regp (p := 11) (dk := true) (t := [(2, (V.ptr 2 0 0)), (3, (V.ptr 3 0 0)), (5, (I x14)), (6, (V.ptr 6 0 0)), (7, (V.ptr 7 0 0)), (8, (I x22)), (117, (V.bool true))]) (σ := [(2, ⟨false, 4, [(enc_T_api_Base a0)]⟩), (3, ⟨false, 4, [(enc_T_api_Base a1)]⟩), (6, ⟨false, 8, [(enc_T_api_Type o17.1)]⟩), (7, ⟨false, 8, [(enc_T_api_Type o17.2)]⟩)]) (n := 149) (by decide) (by decide) rfl) ?_
  refine Eq.trans (regp_adv (m := 3) (j := 3) (t' := [(2, (V.ptr 2 0 0)), (3, (V.ptr 3 0 0)), (5, (I x14)), (6, (V.ptr 6 0 0)), (7, (V.ptr 7 0 0)), (8, (I x22)), (117, (V.bool true)), (120, (V.ptr 6 0 4)), (121, (sField (o17.1.fFields))), (122, (I x22))]) rfl rfl rfl) ?_
  refine Eq.trans (regp_pure (x := (idx o17.1.fFields x22)) (w := fun v23 => (V.pro (enc_T_api_Field v23))) rfl rfl rfl rfl rfl (p_index (e := enc_T_api_Field) rfl rfl rfl Go.Proofs.Try.underlying53 rfl (by decide))) ?_
  refine bindE (fun v23 => ?_)
  refine Eq.trans (putp_adv (m := 4) (j := 8) (t' := [(2, (V.ptr 2 0 0)), (3, (V.ptr 3 0 0)), (5, (I x14)), (6, (V.ptr 6 0 0)), (7, (V.ptr 7 0 0)), (8, (I x22)), (117, (V.bool true)), (120, (V.ptr 6 0 4)), (121, (sField (o17.1.fFields))), (122, (I x22)), (123, (V.pro (enc_T_api_Field v23))), (124, (enc_T_api_Field v23)), (125, (V.ptr 7 0 4)), (126, (sField (o17.2.fFields))), (127, (I x22))]) rfl rfl rfl) ?_
  refine Eq.trans (regp_pure (x := (idx o17.2.fFields x22)) (w := fun v24 => (V.pro (enc_T_api_Field v24))) rfl rfl rfl rfl rfl (p_index (e := enc_T_api_Field) rfl rfl rfl Go.Proofs.Try.underlying53 rfl (by decide))) ?_
  refine bindE (fun v24 => ?_)
  refine Eq.trans (putp_adv (m := 1) (j := 10) (t' := [(2, (V.ptr 2 0 0)), (3, (V.ptr 3 0 0)), (5, (I x14)), (6, (V.ptr 6 0 0)), (7, (V.ptr 7 0 0)), (8, (I x22)), (117, (V.bool true)), (120, (V.ptr 6 0 4)), (121, (sField (o17.1.fFields))), (122, (I x22)), (123, (V.pro (enc_T_api_Field v23))), (124, (enc_T_api_Field v23)), (125, (V.ptr 7 0 4)), (126, (sField (o17.2.fFields))), (127, (I x22)), (128, (V.pro (enc_T_api_Field v24))), (129, (enc_T_api_Field v24))]) rfl rfl rfl) ?_
  refine Eq.trans (regp_pure (x := some ()) (w := fun _ => (V.bool (!(v23.fName == v24.fName && (v23.fAt == v24.fAt && (v23.fBytes == v24.fBytes && true)))))) rfl rfl rfl rfl rfl (p_neS rfl rfl rfl Go.Proofs.Try.underlying65 sih65 eqg65 rfl)) ?_
  refine Eq.trans some_bind ?_
  exact regp_end rfl
theorem f25r13 (k : Nat) (a0 : T_api_Base) (a1 : T_api_Base) (x14 : Int) (o17 : T_api_Type × T_api_Type) (x22 : Int) : RE k f25a13 f25o13 false ⟨[(2, (V.ptr 2 0 0)), (3, (V.ptr 3 0 0)), (5, (I x14)), (6, (V.ptr 6 0 0)), (7, (V.ptr 7 0 0)), (8, (I x22)), (130, (V.bool true))], [(2, ⟨false, 4, [(enc_T_api_Base a0)]⟩), (3, ⟨false, 4, [(enc_T_api_Base a1)]⟩), (6, ⟨false, 8, [(enc_T_api_Type o17.1)]⟩), (7, ⟨false, 8, [(enc_T_api_Type o17.2)]⟩)], 149⟩ = some ⟨[(4, (V.bool false))], [], 149⟩ :=
  rE rfl
theorem f25r11 (k : Nat) (a0 : T_api_Base) (a1 : T_api_Base) (x14 : Int) (o17 : T_api_Type × T_api_Type) (x22 : Int) : RE k f25a11 f25o11 false ⟨[(2, (V.ptr 2 0 0)), (3, (V.ptr 3 0 0)), (5, (I x14)), (6, (V.ptr 6 0 0)), (7, (V.ptr 7 0 0)), (8, (I x22)), (130, (V.bool false))], [(2, ⟨false, 4, [(enc_T_api_Base a0)]⟩), (3, ⟨false, 4, [(enc_T_api_Base a1)]⟩), (6, ⟨false, 8, [(enc_T_api_Type o17.1)]⟩), (7, ⟨false, 8, [(enc_T_api_Type o17.2)]⟩)], 149⟩ = some ⟨[(2, (V.ptr 2 0 0)), (3, (V.ptr 3 0 0)), (5, (I x14)), (6, (V.ptr 6 0 0)), (7, (V.ptr 7 0 0)), (8, (I (Go.IntKind.wrap .i64 (x22 + 1))))], [(2, ⟨false, 4, [(enc_T_api_Base a0)]⟩), (3, ⟨false, 4, [(enc_T_api_Base a1)]⟩), (6, ⟨false, 8, [(enc_T_api_Type o17.1)]⟩), (7, ⟨false, 8, [(enc_T_api_Type o17.2)]⟩)], 149⟩ :=
  rE rfl
theorem ref11_Same_L2_ok (k : Nat) (a0 : T_api_Base) (a1 : T_api_Base) (x14 : Int) (o17 : T_api_Type × T_api_Type)  (K0 : Int → Option Bool) (Kst : X × St → Option (V × List V)) (hK0 : ∀ (y0 : Int), Kst (X.exit 2, ⟨[(2, (V.ptr 2 0 0)), (3, (V.ptr 3 0 0)), (5, (I x14)), (6, (V.ptr 6 0 0)), (7, (V.ptr 7 0 0)), (8, (I y0)), (117, (V.bool false))], [(2, ⟨false, 4, [(enc_T_api_Base a0)]⟩), (3, ⟨false, 4, [(enc_T_api_Base a1)]⟩), (6, ⟨false, 8, [(enc_T_api_Type o17.1)]⟩), (7, ⟨false, 8, [(enc_T_api_Type o17.2)]⟩)], 149⟩) = (K0 y0).map ref11_Same_fin) (hret : ∀ s, Kst (X.ret, s) = endK prog 149 [(enc_T_api_Base a0), (enc_T_api_Base a1)] [] [.tmp 4] (X.ret, s)) :
    ∀ (m : Nat) (x22 : Int), (iter (exec prog (EV k) f25n k f25b0) m ⟨[(2, (V.ptr 2 0 0)), (3, (V.ptr 3 0 0)), (5, (I x14)), (6, (V.ptr 6 0 0)), (7, (V.ptr 7 0 0)), (8, (I x22))], [(2, ⟨false, 4, [(enc_T_api_Base a0)]⟩), (3, ⟨false, 4, [(enc_T_api_Base a1)]⟩), (6, ⟨false, 8, [(enc_T_api_Type o17.1)]⟩), (7, ⟨false, 8, [(enc_T_api_Type o17.2)]⟩)], 149⟩).bind Kst = (ref11_Same_L2 o17 K0 m x22).map ref11_Same_fin := by
  intro m
  induction m with
  | zero => intros; rfl
  | succ m ih =>
    intro x22
    unfold ref11_Same_L2
    refine Eq.trans k_round ?_
    refine Eq.trans k_assoc ?_
    refine Eq.trans (k_region0 rfl (f25r10 k a0 a1 x14 o17 x22)) ?_
    refine Eq.trans (k_cond (t := (decide (x22 < (o17.1.fFields.length : Int)))) rfl) ?_
    refine bifE2 (fun hc => ?_) fun hc => ?_
    · rw [hc]
      refine Eq.trans k_skip ?_
      refine Eq.trans k_block ?_
      refine Eq.trans (k_region rfl (f25r12 k a0 a1 x14 o17 x22)) ?_
      refine bindE (fun o25 => ?_)
      refine Eq.trans (k_lcond (t := o25) rfl) ?_
      refine bifE2 (fun hc => ?_) fun hc => ?_
      · rw [hc]
        refine Eq.trans (k_region0 rfl (f25r13 k a0 a1 x14 o17 x22)) ?_
        refine Eq.trans k_lret ?_
        refine Eq.trans blk_ret ?_
        refine Eq.trans loop_ret ?_
        refine Eq.trans (hret _) ?_
        rfl
      · rw [hc]
        refine Eq.trans k_lskip ?_
        refine Eq.trans blk_normal ?_
        refine Eq.trans (k_lregion0 rfl (f25r11 k a0 a1 x14 o17 x22)) ?_
        refine Eq.trans loop_normal ?_
        exact ih (Go.IntKind.wrap .i64 (x22 + 1))
    · rw [hc]
      refine Eq.trans k_exit ?_
      refine Eq.trans loop_exit ?_
      exact hK0 x22
theorem f25r5 (k : Nat) (a0 : T_api_Base) (a1 : T_api_Base) (x14 : Int) (o17 : T_api_Type × T_api_Type) (y26 : Int) : RE k f25a5 f25o5 false ⟨[(2, (V.ptr 2 0 0)), (3, (V.ptr 3 0 0)), (5, (I x14)), (6, (V.ptr 6 0 0)), (7, (V.ptr 7 0 0)), (8, (I y26)), (117, (V.bool false))], [(2, ⟨false, 4, [(enc_T_api_Base a0)]⟩), (3, ⟨false, 4, [(enc_T_api_Base a1)]⟩), (6, ⟨false, 8, [(enc_T_api_Type o17.1)]⟩), (7, ⟨false, 8, [(enc_T_api_Type o17.2)]⟩)], 149⟩ = some ⟨[(2, (V.ptr 2 0 0)), (3, (V.ptr 3 0 0)), (5, (I (Go.IntKind.wrap .i64 (x14 + 1))))], [(2, ⟨false, 4, [(enc_T_api_Base a0)]⟩), (3, ⟨false, 4, [(enc_T_api_Base a1)]⟩)], 149⟩ :=
  rE rfl
theorem ref11_Same_L1_ok (k : Nat) (a0 : T_api_Base) (a1 : T_api_Base)  (K0 : Int → Option Bool) (Kst : X × St → Option (V × List V)) (hK0 : ∀ (y0 : Int), Kst (X.exit 0, ⟨[(2, (V.ptr 2 0 0)), (3, (V.ptr 3 0 0)), (5, (I y0)), (44, (V.bool false))], [(2, ⟨false, 4, [(enc_T_api_Base a0)]⟩), (3, ⟨false, 4, [(enc_T_api_Base a1)]⟩)], 149⟩) = (K0 y0).map ref11_Same_fin) (hret : ∀ s, Kst (X.ret, s) = endK prog 149 [(enc_T_api_Base a0), (enc_T_api_Base a1)] [] [.tmp 4] (X.ret, s)) :
    ∀ (m : Nat) (x14 : Int), (iter (exec prog (EV k) f25n k f25b1) m ⟨[(2, (V.ptr 2 0 0)), (3, (V.ptr 3 0 0)), (5, (I x14))], [(2, ⟨false, 4, [(enc_T_api_Base a0)]⟩), (3, ⟨false, 4, [(enc_T_api_Base a1)]⟩)], 149⟩).bind Kst = (ref11_Same_L1 k a0 a1 K0 m x14).map ref11_Same_fin := by
  intro m
  induction m with
  | zero => intros; rfl
  | succ m ih =>
    intro x14
    unfold ref11_Same_L1
    refine Eq.trans k_round ?_
    refine Eq.trans k_assoc ?_
    refine Eq.trans (k_region0 rfl (f25r4 k a0 a1 x14)) ?_
    refine Eq.trans (k_cond (t := (decide (x14 < (a0.fTypes.length : Int)))) rfl) ?_
    refine bifE2 (fun hc => ?_) fun hc => ?_
    · rw [hc]
      refine Eq.trans k_skip ?_
      refine Eq.trans k_block ?_
      refine Eq.trans (k_region rfl (f25r6 k a0 a1 x14)) ?_
      refine bindE (fun o17 => ?_)
      refine Eq.trans k_assoc ?_
      refine Eq.trans (k_region rfl (f25r7 k a0 a1 x14 o17)) ?_
      refine bindE (fun o18 => ?_)
      refine Eq.trans (k_cond (t := o18) rfl) ?_
      refine bifE2 (fun hc => ?_) fun hc => ?_
      · rw [hc]
        refine Eq.trans k_assoc ?_
        refine Eq.trans (k_region0 rfl (f25r8 k a0 a1 x14 o17)) ?_
        refine Eq.trans k_ret ?_
        refine Eq.trans blk_ret ?_
        refine Eq.trans loop_ret ?_
        refine Eq.trans (hret _) ?_
        rfl
      · rw [hc]
        refine Eq.trans k_skip ?_
        refine Eq.trans (k_region0 rfl (f25r9 k a0 a1 x14 o17)) ?_
        refine Eq.trans k_lblock ?_
        refine Eq.trans k_loop ?_
        refine ref11_Same_L2_ok k a0 a1 x14 o17 _ _ ?h_ref11_Same_L2_0 ?hr_ref11_Same_L2 k 0
        · intro y26
          refine Eq.trans blk_exit ?_
          refine Eq.trans k_lskip ?_
          refine Eq.trans blk_normal ?_
          refine Eq.trans (k_lregion0 rfl (f25r5 k a0 a1 x14 o17 y26)) ?_
          refine Eq.trans loop_normal ?_
          exact ih (Go.IntKind.wrap .i64 (x14 + 1))
        · intro s; exact hret s
    · rw [hc]
      refine Eq.trans k_exit ?_
      refine Eq.trans loop_exit ?_
      exact hK0 x14
theorem f25r14 (k : Nat) (a0 : T_api_Base) (a1 : T_api_Base) (y27 : Int) : RE k f25a14 f25o14 false ⟨[(2, (V.ptr 2 0 0)), (3, (V.ptr 3 0 0)), (5, (I y27)), (44, (V.bool false))], [(2, ⟨false, 4, [(enc_T_api_Base a0)]⟩), (3, ⟨false, 4, [(enc_T_api_Base a1)]⟩)], 149⟩ = some ⟨[(2, (V.ptr 2 0 0)), (3, (V.ptr 3 0 0)), (9, (I 0))], [(2, ⟨false, 4, [(enc_T_api_Base a0)]⟩), (3, ⟨false, 4, [(enc_T_api_Base a1)]⟩)], 149⟩ :=
  rE rfl
theorem f25r15 (k : Nat) (a0 : T_api_Base) (a1 : T_api_Base) (x31 : Int) : RE k f25a15 f25o15 false ⟨[(2, (V.ptr 2 0 0)), (3, (V.ptr 3 0 0)), (9, (I x31))], [(2, ⟨false, 4, [(enc_T_api_Base a0)]⟩), (3, ⟨false, 4, [(enc_T_api_Base a1)]⟩)], 149⟩ = some ⟨[(2, (V.ptr 2 0 0)), (3, (V.ptr 3 0 0)), (9, (I x31)), (135, (V.bool (decide (x31 < (a0.fIndexes.length : Int)))))], [(2, ⟨false, 4, [(enc_T_api_Base a0)]⟩), (3, ⟨false, 4, [(enc_T_api_Base a1)]⟩)], 149⟩ := by
  refine rg ?_
  refine ra 3 3 ⟨[(2, (V.ptr 2 0 0)), (3, (V.ptr 3 0 0)), (9, (I x31)), (131, (I x31)), (132, (V.ptr 2 0 3)), (133, (sSearch (a0.fIndexes)))], [(2, ⟨false, 4, [(enc_T_api_Base a0)]⟩), (3, ⟨false, 4, [(enc_T_api_Base a1)]⟩)], 149⟩ rfl rfl rfl ?_
  refine Eq.trans (reg_pure (x := some ()) (w := fun _ => (I (a0.fIndexes.length : Int))) rfl rfl rfl rfl (p_len (e := enc_T_api_Search) rfl rfl rfl rfl rfl rfl Go.Proofs.Try.underlying23)) ?_
  refine Eq.trans some_bind ?_
  exact bind_end rfl
theorem f25r17 (k : Nat) (a0 : T_api_Base) (a1 : T_api_Base) (x31 : Int) : RE k f25a17 f25o17 true ⟨[(2, (V.ptr 2 0 0)), (3, (V.ptr 3 0 0)), (9, (I x31)), (135, (V.bool true))], [(2, ⟨false, 4, [(enc_T_api_Base a0)]⟩), (3, ⟨false, 4, [(enc_T_api_Base a1)]⟩)], 149⟩ = (((idx a0.fIndexes x31).bind fun v32 => ((idx a1.fIndexes x31).bind fun v33 => (some ((!(v32.fName == v33.fName && (v32.fType == v33.fType && (v32.fField == v33.fField && (v32.fSparse == v33.fSparse && true)))))))))).map (fun (o : Bool) => (⟨[(2, (V.ptr 2 0 0)), (3, (V.ptr 3 0 0)), (9, (I x31)), (148, (V.bool o))], [(2, ⟨false, 4, [(enc_T_api_Base a0)]⟩), (3, ⟨false, 4, [(enc_T_api_Base a1)]⟩)], 149⟩ : St)) := by
  refine Eq.trans (regionE_regp (p := 11) (dk := true) (t := [(2, (V.ptr 2 0 0)), (3, (V.ptr 3 0 0)), (9, (I x31)), (135, (V.bool true))]) (σ := [(2, ⟨false, 4, [(enc_T_api_Base a0)]⟩), (3, ⟨false, 4, [(enc_T_api_Base a1)]⟩)]) (n := 149) (by decide) (by decide) rfl) ?_
  refine Eq.trans (regp_adv (m := 3) (j := 3) (t' := [(2, (V.ptr 2 0 0)), (3, (V.ptr 3 0 0)), (9, (I x31)), (135, (V.bool true)), (138, (V.ptr 2 0 3)), (139, (sSearch (a0.fIndexes))), (140, (I x31))]) rfl rfl rfl) ?_
  refine Eq.trans (regp_pure (x := (idx a0.fIndexes x31)) (w := fun v32 => (V.pro (enc_T_api_Search v32))) rfl rfl rfl rfl rfl (p_index (e := enc_T_api_Search) rfl rfl rfl Go.Proofs.Try.underlying23 rfl (by decide))) ?_
  refine bindE (fun v32 => ?_)
  refine Eq.trans (putp_adv (m := 4) (j := 8) (t' := [(2, (V.ptr 2 0 0)), (3, (V.ptr 3 0 0)), (9, (I x31)), (135, (V.bool true)), (138, (V.ptr 2 0 3)), (139, (sSearch (a0.fIndexes))), (140, (I x31)), (141, (V.pro (enc_T_api_Search v32))), (142, (enc_T_api_Search v32)), (143, (V.ptr 3 0 3)), (144, (sSearch (a1.fIndexes))), (145, (I x31))]) rfl rfl rfl) ?_
  refine Eq.trans (regp_pure (x := (idx a1.fIndexes x31)) (w := fun v33 => (V.pro (enc_T_api_Search v33))) rfl rfl rfl rfl rfl (p_index (e := enc_T_api_Search) rfl rfl rfl Go.Proofs.Try.underlying23 rfl (by decide))) ?_
  refine bindE (fun v33 => ?_)
  refine Eq.trans (putp_adv (m := 1) (j := 10) (t' := [(2, (V.ptr 2 0 0)), (3, (V.ptr 3 0 0)), (9, (I x31)), (135, (V.bool true)), (138, (V.ptr 2 0 3)), (139, (sSearch (a0.fIndexes))), (140, (I x31)), (141, (V.pro (enc_T_api_Search v32))), (142, (enc_T_api_Search v32)), (143, (V.ptr 3 0 3)), (144, (sSearch (a1.fIndexes))), (145, (I x31)), (146, (V.pro (enc_T_api_Search v33))), (147, (enc_T_api_Search v33))]) rfl rfl rfl) ?_
  refine Eq.trans (regp_pure (x := some ()) (w := fun _ => (V.bool (!(v32.fName == v33.fName && (v32.fType == v33.fType && (v32.fField == v33.fField && (v32.fSparse == v33.fSparse && true))))))) rfl rfl rfl rfl rfl (p_neS rfl rfl rfl Go.Proofs.Try.underlying69 sih69 eqg69 rfl)) ?_
  refine Eq.trans some_bind ?_
  exact regp_end rfl
theorem f25r18 (k : Nat) (a0 : T_api_Base) (a1 : T_api_Base) (x31 : Int) : RE k f25a18 f25o18 false ⟨[(2, (V.ptr 2 0 0)), (3, (V.ptr 3 0 0)), (9, (I x31)), (148, (V.bool true))], [(2, ⟨false, 4, [(enc_T_api_Base a0)]⟩), (3, ⟨false, 4, [(enc_T_api_Base a1)]⟩)], 149⟩ = some ⟨[(4, (V.bool false))], [], 149⟩ :=
  rE rfl
theorem f25r16 (k : Nat) (a0 : T_api_Base) (a1 : T_api_Base) (x31 : Int) : RE k f25a16 f25o16 false ⟨[(2, (V.ptr 2 0 0)), (3, (V.ptr 3 0 0)), (9, (I x31)), (148, (V.bool false))], [(2, ⟨false, 4, [(enc_T_api_Base a0)]⟩), (3, ⟨false, 4, [(enc_T_api_Base a1)]⟩)], 149⟩ = some ⟨[(2, (V.ptr 2 0 0)), (3, (V.ptr 3 0 0)), (9, (I (Go.IntKind.wrap .i64 (x31 + 1))))], [(2, ⟨false, 4, [(enc_T_api_Base a0)]⟩), (3, ⟨false, 4, [(enc_T_api_Base a1)]⟩)], 149⟩ :=
  rE rfl
theorem ref11_Same_L3_ok (k : Nat) (a0 : T_api_Base) (a1 : T_api_Base)  (K0 : Int → Option Bool) (Kst : X × St → Option (V × List V)) (hK0 : ∀ (y0 : Int), Kst (X.exit 4, ⟨[(2, (V.ptr 2 0 0)), (3, (V.ptr 3 0 0)), (9, (I y0)), (135, (V.bool false))], [(2, ⟨false, 4, [(enc_T_api_Base a0)]⟩), (3, ⟨false, 4, [(enc_T_api_Base a1)]⟩)], 149⟩) = (K0 y0).map ref11_Same_fin) (hret : ∀ s, Kst (X.ret, s) = endK prog 149 [(enc_T_api_Base a0), (enc_T_api_Base a1)] [] [.tmp 4] (X.ret, s)) :
    ∀ (m : Nat) (x31 : Int), (iter (exec prog (EV k) f25n k f25b2) m ⟨[(2, (V.ptr 2 0 0)), (3, (V.ptr 3 0 0)), (9, (I x31))], [(2, ⟨false, 4, [(enc_T_api_Base a0)]⟩), (3, ⟨false, 4, [(enc_T_api_Base a1)]⟩)], 149⟩).bind Kst = (ref11_Same_L3 a0 a1 K0 m x31).map ref11_Same_fin := by
  intro m
  induction m with
  | zero => intros; rfl
  | succ m ih =>
    intro x31
    unfold ref11_Same_L3
    refine Eq.trans k_round ?_
    refine Eq.trans k_assoc ?_
    refine Eq.trans (k_region0 rfl (f25r15 k a0 a1 x31)) ?_
    refine Eq.trans (k_cond (t := (decide (x31 < (a0.fIndexes.length : Int)))) rfl) ?_
    refine bifE2 (fun hc => ?_) fun hc => ?_
    · rw [hc]
      refine Eq.trans k_skip ?_
      refine Eq.trans k_block ?_
      refine Eq.trans (k_region rfl (f25r17 k a0 a1 x31)) ?_
      refine bindE (fun o34 => ?_)
      refine Eq.trans (k_lcond (t := o34) rfl) ?_
      refine bifE2 (fun hc => ?_) fun hc => ?_
      · rw [hc]
        refine Eq.trans (k_region0 rfl (f25r18 k a0 a1 x31)) ?_
        refine Eq.trans k_lret ?_
        refine Eq.trans blk_ret ?_
        refine Eq.trans loop_ret ?_
        refine Eq.trans (hret _) ?_
        rfl
      · rw [hc]
        refine Eq.trans k_lskip ?_
        refine Eq.trans blk_normal ?_
        refine Eq.trans (k_lregion0 rfl (f25r16 k a0 a1 x31)) ?_
        refine Eq.trans loop_normal ?_
        exact ih (Go.IntKind.wrap .i64 (x31 + 1))
    · rw [hc]
      refine Eq.trans k_exit ?_
      refine Eq.trans loop_exit ?_
      exact hK0 x31
theorem f25r19 (k : Nat) (a0 : T_api_Base) (a1 : T_api_Base) (y35 : Int) : RE k f25a19 f25o19 false ⟨[(2, (V.ptr 2 0 0)), (3, (V.ptr 3 0 0)), (9, (I y35)), (135, (V.bool false))], [(2, ⟨false, 4, [(enc_T_api_Base a0)]⟩), (3, ⟨false, 4, [(enc_T_api_Base a1)]⟩)], 149⟩ = some ⟨[(4, (V.bool true))], [], 149⟩ :=
  rE rfl
theorem ref11_Same_ok (k : Nat) (a0 : T_api_Base) (a1 : T_api_Base) : EV k 25 [(enc_T_api_Base a0), (enc_T_api_Base a1)] = (ref11_Same k a0 a1).map ref11_Same_fin := by
  cases k with
  | zero => rfl
  | succ k =>
    unfold ref11_Same
    refine Eq.trans (evF_succ (c := f25c) (N := 149) (regs := f25n) rfl Go.Proofs.Try.func25 rfl (by decide) rfl rfl rfl) ?_
    refine Eq.trans (k_region0 rfl (f25r0 k a0 a1)) ?_
    refine Eq.trans k_assoc ?_
    refine Eq.trans (k_region rfl (f25r1 k a0 a1)) ?_
    refine bindE (fun o1 => ?_)
    refine Eq.trans (k_cond (t := o1) rfl) ?_
    refine bifE2 (fun hc => ?_) fun hc => ?_
    · rw [hc]
      refine Eq.trans k_assoc ?_
      refine Eq.trans (k_region0 rfl (f25r2 k a0 a1)) ?_
      refine Eq.trans k_ret ?_
      rfl
    · rw [hc]
      refine Eq.trans k_skip ?_
      refine Eq.trans k_assoc ?_
      refine Eq.trans (k_region0 rfl (f25r3 k a0 a1)) ?_
      refine Eq.trans k_block ?_
      refine Eq.trans k_loop ?_
      refine ref11_Same_L1_ok k a0 a1 _ _ ?h_ref11_Same_L1_0 ?hr_ref11_Same_L1 k 0
      · intro y27
        refine Eq.trans blk_exit ?_
        refine Eq.trans k_assoc ?_
        refine Eq.trans (k_region0 rfl (f25r14 k a0 a1 y27)) ?_
        refine Eq.trans k_block ?_
        refine Eq.trans k_loop ?_
        refine ref11_Same_L3_ok k a0 a1 _ _ ?h_ref11_Same_L3_0 ?hr_ref11_Same_L3 k 0
        · intro y35
          refine Eq.trans blk_exit ?_
          refine Eq.trans (k_region0 rfl (f25r19 k a0 a1 y35)) ?_
          refine Eq.trans k_lret ?_
          rfl
        · intro s; exact rfl
      · intro s; exact rfl
def law11_DbdParts_fin : Bool → V × List V := fun r => ((V.bool r), [])
theorem f6r0 (k : Nat) (a0 : T_api_Base) (a1 : (List Int)) : RE k f6a0 f6o0 false ⟨[(0, (enc_T_api_Base a0)), (1, (sI a1))], [], 82⟩ = some ⟨[(1, (sI a1)), (2, (V.ptr 2 0 0))], [(2, ⟨false, 4, [(enc_T_api_Base a0)]⟩)], 82⟩ :=
  rE rfl
theorem f6r1 (k : Nat) (a0 : T_api_Base) (a1 : (List Int)) : RE k f6a1 f6o1 false ⟨[(1, (sI a1)), (2, (V.ptr 2 0 0))], [(2, ⟨false, 4, [(enc_T_api_Base a0)]⟩)], 82⟩ = (((law11_Small k a0).bind fun v1 => (bif (!v1) then (some (true)) else (some ((decide ((a1.length : Int) > 20))))))).map (fun (o : Bool) => (⟨[(1, (sI a1)), (2, (V.ptr 2 0 0)), (19, (V.bool o))], [(2, ⟨false, 4, [(enc_T_api_Base a0)]⟩)], 82⟩ : St)) := by
  refine rg ?_
  refine ra 1 1 ⟨[(1, (sI a1)), (2, (V.ptr 2 0 0)), (12, (enc_T_api_Base a0))], [(2, ⟨false, 4, [(enc_T_api_Base a0)]⟩)], 82⟩ rfl rfl rfl ?_
  refine Eq.trans (reg_pure (x := (law11_Small k a0)) (w := fun v1 => (V.bool v1)) rfl rfl rfl rfl (p_call rfl rfl rfl rfl rfl (law11_Small_ok k a0) (.inl rfl))) ?_
  refine bindE (fun v1 => ?_)
  refine ba 2 4 ⟨[(1, (sI a1)), (2, (V.ptr 2 0 0)), (12, (enc_T_api_Base a0)), (13, (V.bool v1)), (14, (V.bool (!v1))), (15, (V.bool (!v1)))], [(2, ⟨false, 4, [(enc_T_api_Base a0)]⟩)], 82⟩ rfl rfl rfl ?_
  refine bifE (c := (!v1)) (fun hc => ?_) fun hc => ?_
  · rw [hc]
    exact reg_end rfl
  · rw [hc]
    refine ra 1 5 ⟨[(1, (sI a1)), (2, (V.ptr 2 0 0)), (12, (enc_T_api_Base a0)), (13, (V.bool v1)), (14, (V.bool false)), (15, (V.bool false)), (16, (sI a1))], [(2, ⟨false, 4, [(enc_T_api_Base a0)]⟩)], 82⟩ rfl rfl rfl ?_
    refine Eq.trans (reg_pure (x := some ()) (w := fun _ => (I (a1.length : Int))) rfl rfl rfl rfl (p_len (e := I) rfl rfl rfl rfl rfl rfl Go.Proofs.Try.underlying28)) ?_
    refine Eq.trans some_bind ?_
    exact bind_end rfl
theorem f6r2 (k : Nat) (a0 : T_api_Base) (a1 : (List Int)) : RE k f6a2 f6o2 false ⟨[(1, (sI a1)), (2, (V.ptr 2 0 0)), (19, (V.bool true))], [(2, ⟨false, 4, [(enc_T_api_Base a0)]⟩)], 82⟩ = ((law11_First k)).map (fun (o : Bool) => (⟨[(4, (V.bool o))], [], 82⟩ : St)) := by
  refine rg ?_
  refine Eq.trans (reg_pure (x := (law11_First k)) (w := fun v3 => (V.bool v3)) rfl rfl rfl rfl (p_call rfl rfl rfl rfl rfl (law11_First_ok k) (.inl rfl))) ?_
  refine bind_self (fun v3 => ?_)
  exact bind_end rfl
theorem f6r3 (k : Nat) (a0 : T_api_Base) (a1 : (List Int)) : RE k f6a3 f6o3 false ⟨[(1, (sI a1)), (2, (V.ptr 2 0 0)), (19, (V.bool false))], [(2, ⟨false, 4, [(enc_T_api_Base a0)]⟩)], 82⟩ = (((dbd_Part k a0 a1).bind fun v5 => (some (v5.2, v5.1)))).map (fun (o : Int × T_api_Base) => (⟨[(1, (sI a1)), (2, (V.ptr 2 0 0)), (5, (V.ptr 5 0 0)), (6, (I o.1))], [(2, ⟨false, 4, [(enc_T_api_Base a0)]⟩), (5, ⟨false, 4, [(enc_T_api_Base o.2)]⟩)], 82⟩ : St)) := by
  refine rg ?_
  refine ra 2 2 ⟨[(1, (sI a1)), (2, (V.ptr 2 0 0)), (19, (V.bool false)), (22, (enc_T_api_Base a0)), (23, (sI a1))], [(2, ⟨false, 4, [(enc_T_api_Base a0)]⟩)], 82⟩ rfl rfl rfl ?_
  refine Eq.trans (reg_pure (x := (dbd_Part k a0 a1)) (w := fun v5 => (V.tup [(enc_T_api_Base v5.1), (I v5.2)])) rfl rfl rfl rfl (p_call rfl rfl rfl rfl rfl (dbd_Part_ok k a0 a1) (.inl rfl))) ?_
  refine bindE (fun v5 => ?_)
  exact bind_end rfl
theorem f6r4 (k : Nat) (a0 : T_api_Base) (a1 : (List Int)) (o6 : Int × T_api_Base) : RE k f6a4 f6o4 false ⟨[(1, (sI a1)), (2, (V.ptr 2 0 0)), (5, (V.ptr 5 0 0)), (6, (I o6.1))], [(2, ⟨false, 4, [(enc_T_api_Base a0)]⟩), (5, ⟨false, 4, [(enc_T_api_Base o6.2)]⟩)], 82⟩ = (((ref11_Part k a0 a1).bind fun v7 => (some (v7.2, v7.1)))).map (fun (o : Int × T_api_Base) => (⟨[(2, (V.ptr 2 0 0)), (5, (V.ptr 5 0 0)), (6, (I o6.1)), (7, (V.ptr 7 0 0)), (8, (I o.1))], [(2, ⟨false, 4, [(enc_T_api_Base a0)]⟩), (5, ⟨false, 4, [(enc_T_api_Base o6.2)]⟩), (7, ⟨false, 4, [(enc_T_api_Base o.2)]⟩)], 82⟩ : St)) := by
  refine rg ?_
  refine ra 2 2 ⟨[(1, (sI a1)), (2, (V.ptr 2 0 0)), (5, (V.ptr 5 0 0)), (6, (I o6.1)), (28, (enc_T_api_Base a0)), (29, (sI a1))], [(2, ⟨false, 4, [(enc_T_api_Base a0)]⟩), (5, ⟨false, 4, [(enc_T_api_Base o6.2)]⟩)], 82⟩ rfl rfl rfl ?_
  refine Eq.trans (reg_pure (x := (ref11_Part k a0 a1)) (w := fun v7 => (V.tup [(enc_T_api_Base v7.1), (I v7.2)])) rfl rfl rfl rfl (p_call rfl rfl rfl rfl rfl (ref11_Part_ok k a0 a1) (.inl rfl))) ?_
  refine bindE (fun v7 => ?_)
  exact bind_end rfl
theorem f6r5 (k : Nat) (a0 : T_api_Base) (o6 : Int × T_api_Base) (o8 : Int × T_api_Base) : RE k f6a5 f6o5 false ⟨[(2, (V.ptr 2 0 0)), (5, (V.ptr 5 0 0)), (6, (I o6.1)), (7, (V.ptr 7 0 0)), (8, (I o8.1))], [(2, ⟨false, 4, [(enc_T_api_Base a0)]⟩), (5, ⟨false, 4, [(enc_T_api_Base o6.2)]⟩), (7, ⟨false, 4, [(enc_T_api_Base o8.2)]⟩)], 82⟩ = (((ref11_Same k o6.2 o8.2).bind fun v9 => (bif (!v9) then (some (true)) else (bif (o6.1 != o8.1) then (some (true)) else (bif (o6.1 == 0) then ((dbd_Valid k o6.2).bind fun v10 => (some ((!v10)))) else (some (false))))))).map (fun (o : Bool) => (⟨[(2, (V.ptr 2 0 0)), (50, (V.bool o))], [(2, ⟨false, 4, [(enc_T_api_Base a0)]⟩)], 82⟩ : St)) := by
  refine rg ?_
  refine ra 2 2 ⟨[(2, (V.ptr 2 0 0)), (5, (V.ptr 5 0 0)), (6, (I o6.1)), (7, (V.ptr 7 0 0)), (8, (I o8.1)), (33, (enc_T_api_Base o6.2)), (34, (enc_T_api_Base o8.2))], [(2, ⟨false, 4, [(enc_T_api_Base a0)]⟩), (5, ⟨false, 4, [(enc_T_api_Base o6.2)]⟩), (7, ⟨false, 4, [(enc_T_api_Base o8.2)]⟩)], 82⟩ rfl rfl rfl ?_
  refine Eq.trans (reg_pure (x := (ref11_Same k o6.2 o8.2)) (w := fun v9 => (V.bool v9)) rfl rfl rfl rfl (p_call rfl rfl rfl rfl rfl (ref11_Same_ok k o6.2 o8.2) (.inl rfl))) ?_
  refine bindE (fun v9 => ?_)
  refine ba 2 5 ⟨[(2, (V.ptr 2 0 0)), (5, (V.ptr 5 0 0)), (6, (I o6.1)), (7, (V.ptr 7 0 0)), (8, (I o8.1)), (33, (enc_T_api_Base o6.2)), (34, (enc_T_api_Base o8.2)), (35, (V.bool v9)), (36, (V.bool (!v9))), (37, (V.bool (!v9)))], [(2, ⟨false, 4, [(enc_T_api_Base a0)]⟩), (5, ⟨false, 4, [(enc_T_api_Base o6.2)]⟩), (7, ⟨false, 4, [(enc_T_api_Base o8.2)]⟩)], 82⟩ rfl rfl rfl ?_
  refine bifE (c := (!v9)) (fun hc => ?_) fun hc => ?_
  · rw [hc]
    exact reg_end rfl
  · rw [hc]
    refine ra 5 10 ⟨[(2, (V.ptr 2 0 0)), (5, (V.ptr 5 0 0)), (6, (I o6.1)), (7, (V.ptr 7 0 0)), (8, (I o8.1)), (33, (enc_T_api_Base o6.2)), (34, (enc_T_api_Base o8.2)), (35, (V.bool v9)), (36, (V.bool false)), (37, (V.bool false)), (38, (I o6.1)), (39, (I o8.1)), (40, (V.bool (o6.1 != o8.1))), (41, (V.bool (o6.1 != o8.1))), (42, (V.bool (o6.1 != o8.1)))], [(2, ⟨false, 4, [(enc_T_api_Base a0)]⟩), (5, ⟨false, 4, [(enc_T_api_Base o6.2)]⟩), (7, ⟨false, 4, [(enc_T_api_Base o8.2)]⟩)], 82⟩ rfl rfl rfl ?_
    refine bifE (c := (o6.1 != o8.1)) (fun hc => ?_) fun hc => ?_
    · rw [hc]
      exact reg_end rfl
    · rw [hc]
      refine ra 3 13 ⟨[(2, (V.ptr 2 0 0)), (5, (V.ptr 5 0 0)), (6, (I o6.1)), (7, (V.ptr 7 0 0)), (8, (I o8.1)), (33, (enc_T_api_Base o6.2)), (34, (enc_T_api_Base o8.2)), (35, (V.bool v9)), (36, (V.bool false)), (37, (V.bool false)), (38, (I o6.1)), (39, (I o8.1)), (40, (V.bool false)), (41, (V.bool false)), (42, (V.bool false)), (43, (I o6.1)), (44, (V.bool (o6.1 == 0))), (45, (V.bool (o6.1 == 0)))], [(2, ⟨false, 4, [(enc_T_api_Base a0)]⟩), (5, ⟨false, 4, [(enc_T_api_Base o6.2)]⟩), (7, ⟨false, 4, [(enc_T_api_Base o8.2)]⟩)], 82⟩ rfl rfl rfl ?_
      refine bifE (c := (o6.1 == 0)) (fun hc => ?_) fun hc => ?_
      · rw [hc]
        refine ra 1 14 ⟨[(2, (V.ptr 2 0 0)), (5, (V.ptr 5 0 0)), (6, (I o6.1)), (7, (V.ptr 7 0 0)), (8, (I o8.1)), (33, (enc_T_api_Base o6.2)), (34, (enc_T_api_Base o8.2)), (35, (V.bool v9)), (36, (V.bool false)), (37, (V.bool false)), (38, (I o6.1)), (39, (I o8.1)), (40, (V.bool false)), (41, (V.bool false)), (42, (V.bool false)), (43, (I o6.1)), (44, (V.bool true)), (45, (V.bool true)), (46, (enc_T_api_Base o6.2))], [(2, ⟨false, 4, [(enc_T_api_Base a0)]⟩), (5, ⟨false, 4, [(enc_T_api_Base o6.2)]⟩), (7, ⟨false, 4, [(enc_T_api_Base o8.2)]⟩)], 82⟩ rfl rfl rfl ?_
        refine Eq.trans (reg_pure (x := (dbd_Valid k o6.2)) (w := fun v10 => (V.bool v10)) rfl rfl rfl rfl (p_call rfl rfl rfl rfl rfl (dbd_Valid_ok k o6.2) (.inl rfl))) ?_
        refine bindE (fun v10 => ?_)
        exact bind_end rfl
      · rw [hc]
        exact reg_end rfl
theorem f6r6 (k : Nat) (a0 : T_api_Base) : RE k f6a6 f6o6 false ⟨[(2, (V.ptr 2 0 0)), (50, (V.bool true))], [(2, ⟨false, 4, [(enc_T_api_Base a0)]⟩)], 82⟩ = some ⟨[(4, (V.bool false))], [], 82⟩ :=
  rE rfl
theorem f6r7 (k : Nat) (a0 : T_api_Base) : RE k f6a7 f6o7 false ⟨[(2, (V.ptr 2 0 0)), (50, (V.bool false))], [(2, ⟨false, 4, [(enc_T_api_Base a0)]⟩)], 82⟩ = (((ref11_Valid k a0).bind fun v12 => (some ((!v12))))).map (fun (o : Bool) => (⟨[(2, (V.ptr 2 0 0)), (53, (V.bool o))], [(2, ⟨false, 4, [(enc_T_api_Base a0)]⟩)], 82⟩ : St)) := by
  refine rg ?_
  refine ra 1 1 ⟨[(2, (V.ptr 2 0 0)), (50, (V.bool false)), (51, (enc_T_api_Base a0))], [(2, ⟨false, 4, [(enc_T_api_Base a0)]⟩)], 82⟩ rfl rfl rfl ?_
  refine Eq.trans (reg_pure (x := (ref11_Valid k a0)) (w := fun v12 => (V.bool v12)) rfl rfl rfl rfl (p_call rfl rfl rfl rfl rfl (ref11_Valid_ok k a0) (.inl rfl))) ?_
  refine bindE (fun v12 => ?_)
  exact bind_end rfl
theorem f6r8 (k : Nat) (a0 : T_api_Base) : RE k f6a8 f6o8 false ⟨[(2, (V.ptr 2 0 0)), (53, (V.bool true))], [(2, ⟨false, 4, [(enc_T_api_Base a0)]⟩)], 82⟩ = ((law11_First k)).map (fun (o : Bool) => (⟨[(4, (V.bool o))], [], 82⟩ : St)) := by
  refine rg ?_
  refine Eq.trans (reg_pure (x := (law11_First k)) (w := fun v14 => (V.bool v14)) rfl rfl rfl rfl (p_call rfl rfl rfl rfl rfl (law11_First_ok k) (.inl rfl))) ?_
  refine bind_self (fun v14 => ?_)
  exact bind_end rfl
theorem f6r9 (k : Nat) (a0 : T_api_Base) : RE k f6a9 f6o9 false ⟨[(2, (V.ptr 2 0 0)), (53, (V.bool false))], [(2, ⟨false, 4, [(enc_T_api_Base a0)]⟩)], 82⟩ = some ⟨[(2, (V.ptr 2 0 0)), (9, (V.sl 1 1 (List.map I ([] : List Int))))], [(2, ⟨false, 4, [(enc_T_api_Base a0)]⟩)], 82⟩ :=
  rE rfl
theorem f6r10 (k : Nat) (a0 : T_api_Base) : RE k f6a10 f6o10 false ⟨[(2, (V.ptr 2 0 0)), (9, (V.sl 1 1 (List.map I ([] : List Int))))], [(2, ⟨false, 4, [(enc_T_api_Base a0)]⟩)], 82⟩ = some ⟨[(2, (V.ptr 2 0 0)), (9, (V.sl 1 1 (List.map I ([] : List Int)))), (10, (I 0))], [(2, ⟨false, 4, [(enc_T_api_Base a0)]⟩)], 82⟩ :=
  rE rfl
theorem f6r11 (k : Nat) (a0 : T_api_Base) (x18 : (List Int)) (x19 : Int) : RE k f6a11 f6o11 false ⟨[(2, (V.ptr 2 0 0)), (9, (V.sl 1 1 (List.map I x18))), (10, (I x19))], [(2, ⟨false, 4, [(enc_T_api_Base a0)]⟩)], 82⟩ = some ⟨[(2, (V.ptr 2 0 0)), (9, (V.sl 1 1 (List.map I x18))), (10, (I x19)), (59, (V.bool (decide (x19 < (a0.fTypes.length : Int)))))], [(2, ⟨false, 4, [(enc_T_api_Base a0)]⟩)], 82⟩ := by
  refine rg ?_
  refine ra 3 3 ⟨[(2, (V.ptr 2 0 0)), (9, (V.sl 1 1 (List.map I x18))), (10, (I x19)), (55, (I x19)), (56, (V.ptr 2 0 2)), (57, (sType (a0.fTypes)))], [(2, ⟨false, 4, [(enc_T_api_Base a0)]⟩)], 82⟩ rfl rfl rfl ?_
  refine Eq.trans (reg_pure (x := some ()) (w := fun _ => (I (a0.fTypes.length : Int))) rfl rfl rfl rfl (p_len (e := enc_T_api_Type) rfl rfl rfl rfl rfl rfl Go.Proofs.Try.underlying22)) ?_
  refine Eq.trans some_bind ?_
  exact bind_end rfl
theorem f6r13 (k : Nat) (a0 : T_api_Base) (x18 : (List Int)) (x19 : Int) : RE k f6a13 f6o13 false ⟨[(2, (V.ptr 2 0 0)), (9, (V.sl 1 1 (List.map I x18))), (10, (I x19)), (59, (V.bool true))], [(2, ⟨false, 4, [(enc_T_api_Base a0)]⟩)], 82⟩ = ((app x18 ([x19] : List Int))).map (fun (o : (List Int)) => (⟨[(2, (V.ptr 2 0 0)), (9, (V.sl 1 1 (List.map I o))), (10, (I x19))], [(2, ⟨false, 4, [(enc_T_api_Base a0)]⟩)], 82⟩ : St)) := by
  refine rg ?_
  refine ra 3 3 ⟨[(2, (V.ptr 2 0 0)), (9, (sI x18)), (10, (I x19)), (59, (V.bool true)), (62, (V.sl 1 1 (List.map I x18))), (63, (I x19)), (64, (sI (([x19] : List Int))))], [(2, ⟨false, 4, [(enc_T_api_Base a0)]⟩)], 82⟩ rfl rfl rfl ?_
  refine Eq.trans (reg_eff (x := (app x18 ([x19] : List Int))) (w := fun v20 => ((V.sl 1 1 (List.map I v20)), _)) rfl rfl rfl rfl (p_app (e := I) rfl rfl rfl rfl rfl rfl rfl rfl rfl rfl (by decide))) ?_
  refine bind_self (fun v20 => ?_)
  exact bind_end rfl
theorem f6r12 (k : Nat) (a0 : T_api_Base) (x19 : Int) (o21 : (List Int)) : RE k f6a12 f6o12 false ⟨[(2, (V.ptr 2 0 0)), (9, (V.sl 1 1 (List.map I o21))), (10, (I x19))], [(2, ⟨false, 4, [(enc_T_api_Base a0)]⟩)], 82⟩ = some ⟨[(2, (V.ptr 2 0 0)), (9, (V.sl 1 1 (List.map I o21))), (10, (I (Go.IntKind.wrap .i64 (x19 + 1))))], [(2, ⟨false, 4, [(enc_T_api_Base a0)]⟩)], 82⟩ :=
  rE rfl
end
end Go.AE
