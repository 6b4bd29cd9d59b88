/- The program, function by function: the evaluator comes to the typed functions. Conditions: none. -/
import Derived.Test.YtgideolbpeidmaaA2
import Derived.KernelRfl
import Derived.Test.YtgideolbpeidmaaProg
import Derived.Test.YtgideolbpeidmaaB1
import Derived.Test.YtgideolbpeidmaaE2
namespace Go.AE
open Go.Proofs.Try Go.Sh
set_option linter.unusedSimpArgs false
set_option linter.unusedVariables false
set_option maxRecDepth 100000
set_option maxHeartbeats 4000000
theorem ref11_Valid_L2_ok (k : Nat) (a0 : T_api_Base) (x20 : Int) (o22 : T_api_Type)  (K0 : Int → Option Bool) (Kst : X × St → Option (V × List V)) (hK0 : ∀ (y0 : Int), Kst (X.exit 2, ⟨[(1, (V.ptr 1 0 0)), (3, (V.int .i64 x20)), (4, (V.ptr 4 0 0)), (5, (V.int .i64 y0)), (81, (V.bool false))], [(1, ⟨false, 4, [(enc_T_api_Base a0)]⟩), (4, ⟨false, 8, [(enc_T_api_Type o22)]⟩)], 232⟩) = (K0 y0).map ref11_Valid_fin) (hret : ∀ s, Kst (X.ret, s) = endK prog 232 [(enc_T_api_Base a0)] [] [.tmp 2] (X.ret, s)) :
    ∀ (m : Nat) (x28 : Int), (iter (exec prog (evF prog anns ext k) ref11_Valid_an k ref11_Valid_b0) m ⟨[(1, (V.ptr 1 0 0)), (3, (V.int .i64 x20)), (4, (V.ptr 4 0 0)), (5, (V.int .i64 x28))], [(1, ⟨false, 4, [(enc_T_api_Base a0)]⟩), (4, ⟨false, 8, [(enc_T_api_Type o22)]⟩)], 232⟩).bind Kst = (ref11_Valid_L2 a0 x20 o22 K0 m x28).map ref11_Valid_fin := by
  intro m
  induction m with
  | zero => intros; rfl
  | succ m ih =>
    intro x28
    unfold ref11_Valid_L2
    refine Eq.trans k_round ?_
    refine Eq.trans k_assoc ?_
    refine Eq.trans (k_region0 rfl (ref11_Valid_r10 k a0 x20 o22 x28)) ?_
    refine Eq.trans (k_cond (t := (decide (x28 < x20))) rfl) ?_
    refine bifE2 (fun hc => ?_) (fun hc => ?_)
    · rw [hc]
      refine Eq.trans k_skip ?_
      refine Eq.trans k_block ?_
      refine Eq.trans (k_region rfl (ref11_Valid_r12 k a0 x20 o22 x28)) ?_
      refine bindE (fun o30 => ?_)
      refine Eq.trans (k_lcond (t := o30) rfl) ?_
      refine bifE2 (fun hc => ?_) (fun hc => ?_)
      · rw [hc]
        refine Eq.trans (k_region0 rfl (ref11_Valid_r13 k a0 x20 o22 x28)) ?_
        refine Eq.trans k_lret ?_
        refine Eq.trans blk_ret ?_
        refine Eq.trans loop_ret ?_
        refine Eq.trans (hret _) ?_
        rfl
      · rw [hc]
        refine Eq.trans k_lskip ?_
        refine Eq.trans blk_normal ?_
        refine Eq.trans (k_lregion0 rfl (ref11_Valid_r11 k a0 x20 o22 x28)) ?_
        refine Eq.trans loop_normal ?_
        exact ih (Go.IntKind.wrap .i64 (x28 + 1))
    · rw [hc]
      refine Eq.trans k_exit ?_
      refine Eq.trans loop_exit ?_
      exact hK0 x28
theorem ref11_Valid_r14 (k : Nat) (a0 : T_api_Base) (x20 : Int) (o22 : T_api_Type) (y31 : Int) : regionE prog (evF prog anns ext k) ref11_Valid_a14 ref11_Valid_o14 false ⟨[(1, (V.ptr 1 0 0)), (3, (V.int .i64 x20)), (4, (V.ptr 4 0 0)), (5, (V.int .i64 y31)), (81, (V.bool false))], [(1, ⟨false, 4, [(enc_T_api_Base a0)]⟩), (4, ⟨false, 8, [(enc_T_api_Type o22)]⟩)], 232⟩ = some ⟨[(1, (V.ptr 1 0 0)), (3, (V.int .i64 x20)), (4, (V.ptr 4 0 0)), (94, (V.bool (x20 == 0)))], [(1, ⟨false, 4, [(enc_T_api_Base a0)]⟩), (4, ⟨false, 8, [(enc_T_api_Type o22)]⟩)], 232⟩ := by
  refine Eq.trans regionE_reg ?_
  exact reg_end rfl
theorem ref11_Valid_r15 (k : Nat) (a0 : T_api_Base) (x20 : Int) (o22 : T_api_Type) : regionE prog (evF prog anns ext k) ref11_Valid_a15 ref11_Valid_o15 false ⟨[(1, (V.ptr 1 0 0)), (3, (V.int .i64 x20)), (4, (V.ptr 4 0 0)), (94, (V.bool true))], [(1, ⟨false, 4, [(enc_T_api_Base a0)]⟩), (4, ⟨false, 8, [(enc_T_api_Type o22)]⟩)], 232⟩ = ((bif (o22.fParent != (-1)) then (some (true)) else (bif (decide (o22.fKey < 0)) then (some (true)) else (bif (!o22.fUnique) then (some (true)) else ((idx o22.fFields o22.fKey).bind fun v32 => (some ((decide (v32.fBytes > 24))))))))).map (fun (o : Bool) => (⟨[(1, (V.ptr 1 0 0)), (3, (V.int .i64 x20)), (117, (V.bool o))], [(1, ⟨false, 4, [(enc_T_api_Base a0)]⟩)], 232⟩ : St)) := by
  refine Eq.trans regionE_reg ?_
  refine Eq.trans (reg_adv (m := 4) (j := 4) (st' := ⟨[(1, (V.ptr 1 0 0)), (3, (V.int .i64 x20)), (4, (V.ptr 4 0 0)), (94, (V.bool true)), (95, (V.ptr 4 0 1)), (96, (V.int .i64 o22.fParent)), (97, (V.bool (o22.fParent != (-1)))), (98, (V.bool (o22.fParent != (-1))))], [(1, ⟨false, 4, [(enc_T_api_Base a0)]⟩), (4, ⟨false, 8, [(enc_T_api_Type o22)]⟩)], 232⟩) rfl rfl rfl) ?_
  refine bifE (c := (o22.fParent != (-1))) (fun hc => ?_) (fun hc => ?_)
  · rw [hc]
    exact reg_end rfl
  · rw [hc]
    refine Eq.trans (reg_adv (m := 5) (j := 9) (st' := ⟨[(1, (V.ptr 1 0 0)), (3, (V.int .i64 x20)), (4, (V.ptr 4 0 0)), (94, (V.bool true)), (95, (V.ptr 4 0 1)), (96, (V.int .i64 o22.fParent)), (97, (V.bool false)), (98, (V.bool false)), (99, (V.ptr 4 0 5)), (100, (V.int .i64 o22.fKey)), (101, (V.bool (decide (o22.fKey < 0)))), (102, (V.bool (decide (o22.fKey < 0)))), (103, (V.bool (decide (o22.fKey < 0))))], [(1, ⟨false, 4, [(enc_T_api_Base a0)]⟩), (4, ⟨false, 8, [(enc_T_api_Type o22)]⟩)], 232⟩) rfl rfl rfl) ?_
    refine bifE (c := (decide (o22.fKey < 0))) (fun hc => ?_) (fun hc => ?_)
    · rw [hc]
      exact reg_end rfl
    · rw [hc]
      refine Eq.trans (reg_adv (m := 5) (j := 14) (st' := ⟨[(1, (V.ptr 1 0 0)), (3, (V.int .i64 x20)), (4, (V.ptr 4 0 0)), (94, (V.bool true)), (95, (V.ptr 4 0 1)), (96, (V.int .i64 o22.fParent)), (97, (V.bool false)), (98, (V.bool false)), (99, (V.ptr 4 0 5)), (100, (V.int .i64 o22.fKey)), (101, (V.bool false)), (102, (V.bool false)), (103, (V.bool false)), (104, (V.ptr 4 0 6)), (105, (V.bool o22.fUnique)), (106, (V.bool (!o22.fUnique))), (107, (V.bool (!o22.fUnique))), (108, (V.bool (!o22.fUnique)))], [(1, ⟨false, 4, [(enc_T_api_Base a0)]⟩), (4, ⟨false, 8, [(enc_T_api_Type o22)]⟩)], 232⟩) rfl rfl rfl) ?_
      refine bifE (c := (!o22.fUnique)) (fun hc => ?_) (fun hc => ?_)
      · rw [hc]
        exact reg_end rfl
      · rw [hc]
        refine Eq.trans (reg_adv (m := 4) (j := 18) (st' := ⟨[(1, (V.ptr 1 0 0)), (3, (V.int .i64 x20)), (4, (V.ptr 4 0 0)), (94, (V.bool true)), (95, (V.ptr 4 0 1)), (96, (V.int .i64 o22.fParent)), (97, (V.bool false)), (98, (V.bool false)), (99, (V.ptr 4 0 5)), (100, (V.int .i64 o22.fKey)), (101, (V.bool false)), (102, (V.bool false)), (103, (V.bool false)), (104, (V.ptr 4 0 6)), (105, (V.bool o22.fUnique)), (106, (V.bool false)), (107, (V.bool false)), (108, (V.bool false)), (109, (V.ptr 4 0 4)), (110, (V.sl 0 3 (List.map enc_T_api_Field o22.fFields))), (111, (V.ptr 4 0 5)), (112, (V.int .i64 o22.fKey))], [(1, ⟨false, 4, [(enc_T_api_Base a0)]⟩), (4, ⟨false, 8, [(enc_T_api_Type o22)]⟩)], 232⟩) rfl rfl rfl) ?_
        refine Eq.trans (reg_pure (x := (idx o22.fFields o22.fKey)) (w := fun v32 => (V.pro (enc_T_api_Field v32))) rfl rfl rfl rfl (p_index (e := enc_T_api_Field) rfl rfl rfl Go.Proofs.Try.underlying53 rfl (by decide))) ?_
        refine bindE (fun v32 => ?_)
        exact bind_end rfl
theorem ref11_Valid_r16 (k : Nat) (a0 : T_api_Base) (x20 : Int) : regionE prog (evF prog anns ext k) ref11_Valid_a16 ref11_Valid_o16 false ⟨[(1, (V.ptr 1 0 0)), (3, (V.int .i64 x20)), (117, (V.bool true))], [(1, ⟨false, 4, [(enc_T_api_Base a0)]⟩)], 232⟩ = some ⟨[(2, (V.bool false))], [], 232⟩ := by
  refine Eq.trans regionE_reg ?_
  exact reg_end rfl
theorem ref11_Valid_r5 (k : Nat) (a0 : T_api_Base) (x20 : Int) : regionE prog (evF prog anns ext k) ref11_Valid_a5 ref11_Valid_o5 false ⟨[(1, (V.ptr 1 0 0)), (3, (V.int .i64 x20)), (117, (V.bool false))], [(1, ⟨false, 4, [(enc_T_api_Base a0)]⟩)], 232⟩ = some ⟨[(1, (V.ptr 1 0 0)), (3, (V.int .i64 (Go.IntKind.wrap .i64 (x20 + 1))))], [(1, ⟨false, 4, [(enc_T_api_Base a0)]⟩)], 232⟩ := by
  refine Eq.trans regionE_reg ?_
  exact reg_end rfl
theorem ref11_Valid_r17 (k : Nat) (a0 : T_api_Base) (x20 : Int) (o22 : T_api_Type) : regionE prog (evF prog anns ext k) ref11_Valid_a17 ref11_Valid_o17 false ⟨[(1, (V.ptr 1 0 0)), (3, (V.int .i64 x20)), (4, (V.ptr 4 0 0)), (94, (V.bool false))], [(1, ⟨false, 4, [(enc_T_api_Base a0)]⟩), (4, ⟨false, 8, [(enc_T_api_Type o22)]⟩)], 232⟩ = ((bif (decide (o22.fParent < 0)) then (some (true)) else (bif (decide (o22.fParent ≥ x20)) then (some (true)) else (bif (o22.fParent != (Go.IntKind.wrap .i64 (x20 - 1))) then ((ref11_above k a0 o22.fParent (Go.IntKind.wrap .i64 (x20 - 1))).bind fun v34 => (bif (!v34) then (some (true)) else ((ref11_way k a0 x20).bind fun v35 => (some ((decide ((v35.length : Int) > 5))))))) else ((ref11_way k a0 x20).bind fun v36 => (some ((decide ((v36.length : Int) > 5))))))))).map (fun (o : Bool) => (⟨[(1, (V.ptr 1 0 0)), (3, (V.int .i64 x20)), (149, (V.bool o))], [(1, ⟨false, 4, [(enc_T_api_Base a0)]⟩)], 232⟩ : St)) := by
  refine Eq.trans regionE_reg ?_
  refine Eq.trans (reg_adv (m := 4) (j := 4) (st' := ⟨[(1, (V.ptr 1 0 0)), (3, (V.int .i64 x20)), (4, (V.ptr 4 0 0)), (94, (V.bool false)), (118, (V.ptr 4 0 1)), (119, (V.int .i64 o22.fParent)), (120, (V.bool (decide (o22.fParent < 0)))), (121, (V.bool (decide (o22.fParent < 0))))], [(1, ⟨false, 4, [(enc_T_api_Base a0)]⟩), (4, ⟨false, 8, [(enc_T_api_Type o22)]⟩)], 232⟩) rfl rfl rfl) ?_
  refine bifE (c := (decide (o22.fParent < 0))) (fun hc => ?_) (fun hc => ?_)
  · rw [hc]
    exact reg_end rfl
  · rw [hc]
    refine Eq.trans (reg_adv (m := 6) (j := 10) (st' := ⟨[(1, (V.ptr 1 0 0)), (3, (V.int .i64 x20)), (4, (V.ptr 4 0 0)), (94, (V.bool false)), (118, (V.ptr 4 0 1)), (119, (V.int .i64 o22.fParent)), (120, (V.bool false)), (121, (V.bool false)), (122, (V.ptr 4 0 1)), (123, (V.int .i64 o22.fParent)), (124, (V.int .i64 x20)), (125, (V.bool (decide (o22.fParent ≥ x20)))), (126, (V.bool (decide (o22.fParent ≥ x20)))), (127, (V.bool (decide (o22.fParent ≥ x20))))], [(1, ⟨false, 4, [(enc_T_api_Base a0)]⟩), (4, ⟨false, 8, [(enc_T_api_Type o22)]⟩)], 232⟩) rfl rfl rfl) ?_
    refine bifE (c := (decide (o22.fParent ≥ x20))) (fun hc => ?_) (fun hc => ?_)
    · rw [hc]
      exact reg_end rfl
    · rw [hc]
      refine Eq.trans (reg_adv (m := 6) (j := 16) (st' := ⟨[(1, (V.ptr 1 0 0)), (3, (V.int .i64 x20)), (4, (V.ptr 4 0 0)), (94, (V.bool false)), (118, (V.ptr 4 0 1)), (119, (V.int .i64 o22.fParent)), (120, (V.bool false)), (121, (V.bool false)), (122, (V.ptr 4 0 1)), (123, (V.int .i64 o22.fParent)), (124, (V.int .i64 x20)), (125, (V.bool false)), (126, (V.bool false)), (127, (V.bool false)), (128, (V.ptr 4 0 1)), (129, (V.int .i64 o22.fParent)), (130, (V.int .i64 x20)), (131, (V.int .i64 (Go.IntKind.wrap .i64 (x20 - 1)))), (132, (V.bool (o22.fParent != (Go.IntKind.wrap .i64 (x20 - 1))))), (133, (V.bool (o22.fParent != (Go.IntKind.wrap .i64 (x20 - 1)))))], [(1, ⟨false, 4, [(enc_T_api_Base a0)]⟩), (4, ⟨false, 8, [(enc_T_api_Type o22)]⟩)], 232⟩) rfl rfl rfl) ?_
      refine bifE (c := (o22.fParent != (Go.IntKind.wrap .i64 (x20 - 1)))) (fun hc => ?_) (fun hc => ?_)
      · rw [hc]
        refine Eq.trans (reg_adv (m := 5) (j := 21) (st' := ⟨[(1, (V.ptr 1 0 0)), (3, (V.int .i64 x20)), (4, (V.ptr 4 0 0)), (94, (V.bool false)), (118, (V.ptr 4 0 1)), (119, (V.int .i64 o22.fParent)), (120, (V.bool false)), (121, (V.bool false)), (122, (V.ptr 4 0 1)), (123, (V.int .i64 o22.fParent)), (124, (V.int .i64 x20)), (125, (V.bool false)), (126, (V.bool false)), (127, (V.bool false)), (128, (V.ptr 4 0 1)), (129, (V.int .i64 o22.fParent)), (130, (V.int .i64 x20)), (131, (V.int .i64 (Go.IntKind.wrap .i64 (x20 - 1)))), (132, (V.bool true)), (133, (V.bool true)), (134, (enc_T_api_Base a0)), (135, (V.ptr 4 0 1)), (136, (V.int .i64 o22.fParent)), (137, (V.int .i64 x20)), (138, (V.int .i64 (Go.IntKind.wrap .i64 (x20 - 1))))], [(1, ⟨false, 4, [(enc_T_api_Base a0)]⟩), (4, ⟨false, 8, [(enc_T_api_Type o22)]⟩)], 232⟩) rfl rfl rfl) ?_
        refine Eq.trans (reg_pure (x := (ref11_above k a0 o22.fParent (Go.IntKind.wrap .i64 (x20 - 1)))) (w := fun v34 => (V.bool v34)) rfl rfl rfl rfl (p_call rfl rfl rfl rfl rfl (ref11_above_ok k a0 o22.fParent (Go.IntKind.wrap .i64 (x20 - 1))) (.inl rfl))) ?_
        refine bindE (fun v34 => ?_)
        refine Eq.trans (bind_adv (m := 4) (j := 26) (st' := ⟨[(1, (V.ptr 1 0 0)), (3, (V.int .i64 x20)), (4, (V.ptr 4 0 0)), (94, (V.bool false)), (118, (V.ptr 4 0 1)), (119, (V.int .i64 o22.fParent)), (120, (V.bool false)), (121, (V.bool false)), (122, (V.ptr 4 0 1)), (123, (V.int .i64 o22.fParent)), (124, (V.int .i64 x20)), (125, (V.bool false)), (126, (V.bool false)), (127, (V.bool false)), (128, (V.ptr 4 0 1)), (129, (V.int .i64 o22.fParent)), (130, (V.int .i64 x20)), (131, (V.int .i64 (Go.IntKind.wrap .i64 (x20 - 1)))), (132, (V.bool true)), (133, (V.bool true)), (134, (enc_T_api_Base a0)), (135, (V.ptr 4 0 1)), (136, (V.int .i64 o22.fParent)), (137, (V.int .i64 x20)), (138, (V.int .i64 (Go.IntKind.wrap .i64 (x20 - 1)))), (139, (V.bool v34)), (140, (V.bool (!v34))), (141, (V.bool (!v34))), (142, (V.bool (!v34))), (143, (V.bool (!v34)))], [(1, ⟨false, 4, [(enc_T_api_Base a0)]⟩), (4, ⟨false, 8, [(enc_T_api_Type o22)]⟩)], 232⟩) rfl rfl rfl) ?_
        refine bifE (c := (!v34)) (fun hc => ?_) (fun hc => ?_)
        · rw [hc]
          exact reg_end rfl
        · rw [hc]
          refine Eq.trans (reg_adv (m := 2) (j := 28) (st' := ⟨[(1, (V.ptr 1 0 0)), (3, (V.int .i64 x20)), (4, (V.ptr 4 0 0)), (94, (V.bool false)), (118, (V.ptr 4 0 1)), (119, (V.int .i64 o22.fParent)), (120, (V.bool false)), (121, (V.bool false)), (122, (V.ptr 4 0 1)), (123, (V.int .i64 o22.fParent)), (124, (V.int .i64 x20)), (125, (V.bool false)), (126, (V.bool false)), (127, (V.bool false)), (128, (V.ptr 4 0 1)), (129, (V.int .i64 o22.fParent)), (130, (V.int .i64 x20)), (131, (V.int .i64 (Go.IntKind.wrap .i64 (x20 - 1)))), (132, (V.bool true)), (133, (V.bool true)), (134, (enc_T_api_Base a0)), (135, (V.ptr 4 0 1)), (136, (V.int .i64 o22.fParent)), (137, (V.int .i64 x20)), (138, (V.int .i64 (Go.IntKind.wrap .i64 (x20 - 1)))), (139, (V.bool v34)), (140, (V.bool false)), (141, (V.bool false)), (142, (V.bool false)), (143, (V.bool false)), (144, (enc_T_api_Base a0)), (145, (V.int .i64 x20))], [(1, ⟨false, 4, [(enc_T_api_Base a0)]⟩), (4, ⟨false, 8, [(enc_T_api_Type o22)]⟩)], 232⟩) rfl rfl rfl) ?_
          refine Eq.trans (reg_pure (x := (ref11_way k a0 x20)) (w := fun v35 => (V.sl 0 1 (List.map (V.int .i64) v35))) rfl rfl rfl rfl (p_call rfl rfl rfl rfl rfl (ref11_way_ok k a0 x20) (.inl rfl))) ?_
          refine bindE (fun v35 => ?_)
          refine Eq.trans (bind_adv (m := 0) (j := 29) (st' := ⟨[(1, (V.ptr 1 0 0)), (3, (V.int .i64 x20)), (4, (V.ptr 4 0 0)), (94, (V.bool false)), (118, (V.ptr 4 0 1)), (119, (V.int .i64 o22.fParent)), (120, (V.bool false)), (121, (V.bool false)), (122, (V.ptr 4 0 1)), (123, (V.int .i64 o22.fParent)), (124, (V.int .i64 x20)), (125, (V.bool false)), (126, (V.bool false)), (127, (V.bool false)), (128, (V.ptr 4 0 1)), (129, (V.int .i64 o22.fParent)), (130, (V.int .i64 x20)), (131, (V.int .i64 (Go.IntKind.wrap .i64 (x20 - 1)))), (132, (V.bool true)), (133, (V.bool true)), (134, (enc_T_api_Base a0)), (135, (V.ptr 4 0 1)), (136, (V.int .i64 o22.fParent)), (137, (V.int .i64 x20)), (138, (V.int .i64 (Go.IntKind.wrap .i64 (x20 - 1)))), (139, (V.bool v34)), (140, (V.bool false)), (141, (V.bool false)), (142, (V.bool false)), (143, (V.bool false)), (144, (enc_T_api_Base a0)), (145, (V.int .i64 x20)), (146, (V.sl 0 1 (List.map (V.int .i64) v35)))], [(1, ⟨false, 4, [(enc_T_api_Base a0)]⟩), (4, ⟨false, 8, [(enc_T_api_Type o22)]⟩)], 232⟩) rfl rfl rfl) ?_
          refine Eq.trans (reg_pure (x := some ()) (w := fun _ => (V.int .i64 (v35.length : Int))) rfl rfl rfl rfl (p_len (e := (V.int .i64)) rfl rfl rfl rfl rfl rfl Go.Proofs.Try.underlying28)) ?_
          refine Eq.trans some_bind ?_
          exact bind_end rfl
      · rw [hc]
        refine Eq.trans (reg_adv (m := 12) (j := 28) (st' := ⟨[(1, (V.ptr 1 0 0)), (3, (V.int .i64 x20)), (4, (V.ptr 4 0 0)), (94, (V.bool false)), (118, (V.ptr 4 0 1)), (119, (V.int .i64 o22.fParent)), (120, (V.bool false)), (121, (V.bool false)), (122, (V.ptr 4 0 1)), (123, (V.int .i64 o22.fParent)), (124, (V.int .i64 x20)), (125, (V.bool false)), (126, (V.bool false)), (127, (V.bool false)), (128, (V.ptr 4 0 1)), (129, (V.int .i64 o22.fParent)), (130, (V.int .i64 x20)), (131, (V.int .i64 (Go.IntKind.wrap .i64 (x20 - 1)))), (132, (V.bool false)), (133, (V.bool false)), (134, (V.tup [])), (135, (V.tup [])), (136, (V.tup [])), (137, (V.tup [])), (138, (V.tup [])), (139, (V.tup [])), (140, (V.tup [])), (141, (V.bool false)), (142, (V.bool false)), (143, (V.bool false)), (144, (enc_T_api_Base a0)), (145, (V.int .i64 x20))], [(1, ⟨false, 4, [(enc_T_api_Base a0)]⟩), (4, ⟨false, 8, [(enc_T_api_Type o22)]⟩)], 232⟩) rfl rfl rfl) ?_
        refine Eq.trans (reg_pure (x := (ref11_way k a0 x20)) (w := fun v36 => (V.sl 0 1 (List.map (V.int .i64) v36))) rfl rfl rfl rfl (p_call rfl rfl rfl rfl rfl (ref11_way_ok k a0 x20) (.inl rfl))) ?_
        refine bindE (fun v36 => ?_)
        refine Eq.trans (bind_adv (m := 0) (j := 29) (st' := ⟨[(1, (V.ptr 1 0 0)), (3, (V.int .i64 x20)), (4, (V.ptr 4 0 0)), (94, (V.bool false)), (118, (V.ptr 4 0 1)), (119, (V.int .i64 o22.fParent)), (120, (V.bool false)), (121, (V.bool false)), (122, (V.ptr 4 0 1)), (123, (V.int .i64 o22.fParent)), (124, (V.int .i64 x20)), (125, (V.bool false)), (126, (V.bool false)), (127, (V.bool false)), (128, (V.ptr 4 0 1)), (129, (V.int .i64 o22.fParent)), (130, (V.int .i64 x20)), (131, (V.int .i64 (Go.IntKind.wrap .i64 (x20 - 1)))), (132, (V.bool false)), (133, (V.bool false)), (134, (V.tup [])), (135, (V.tup [])), (136, (V.tup [])), (137, (V.tup [])), (138, (V.tup [])), (139, (V.tup [])), (140, (V.tup [])), (141, (V.bool false)), (142, (V.bool false)), (143, (V.bool false)), (144, (enc_T_api_Base a0)), (145, (V.int .i64 x20)), (146, (V.sl 0 1 (List.map (V.int .i64) v36)))], [(1, ⟨false, 4, [(enc_T_api_Base a0)]⟩), (4, ⟨false, 8, [(enc_T_api_Type o22)]⟩)], 232⟩) rfl rfl rfl) ?_
        refine Eq.trans (reg_pure (x := some ()) (w := fun _ => (V.int .i64 (v36.length : Int))) rfl rfl rfl rfl (p_len (e := (V.int .i64)) rfl rfl rfl rfl rfl rfl Go.Proofs.Try.underlying28)) ?_
        refine Eq.trans some_bind ?_
        exact bind_end rfl
theorem ref11_Valid_r18 (k : Nat) (a0 : T_api_Base) (x20 : Int) : regionE prog (evF prog anns ext k) ref11_Valid_a18 ref11_Valid_o18 false ⟨[(1, (V.ptr 1 0 0)), (3, (V.int .i64 x20)), (149, (V.bool true))], [(1, ⟨false, 4, [(enc_T_api_Base a0)]⟩)], 232⟩ = some ⟨[(2, (V.bool false))], [], 232⟩ := by
  refine Eq.trans regionE_reg ?_
  exact reg_end rfl
theorem ref11_Valid_r5' (k : Nat) (a0 : T_api_Base) (x20 : Int) : regionE prog (evF prog anns ext k) ref11_Valid_a5 ref11_Valid_o5 false ⟨[(1, (V.ptr 1 0 0)), (3, (V.int .i64 x20)), (149, (V.bool false))], [(1, ⟨false, 4, [(enc_T_api_Base a0)]⟩)], 232⟩ = some ⟨[(1, (V.ptr 1 0 0)), (3, (V.int .i64 (Go.IntKind.wrap .i64 (x20 + 1))))], [(1, ⟨false, 4, [(enc_T_api_Base a0)]⟩)], 232⟩ := by
  refine Eq.trans regionE_reg ?_
  exact reg_end rfl
theorem ref11_Valid_L1_ok (k : Nat) (a0 : T_api_Base)  (K0 : Int → Option Bool) (Kst : X × St → Option (V × List V)) (hK0 : ∀ (y0 : Int), Kst (X.exit 0, ⟨[(1, (V.ptr 1 0 0)), (3, (V.int .i64 y0)), (45, (V.bool false))], [(1, ⟨false, 4, [(enc_T_api_Base a0)]⟩)], 232⟩) = (K0 y0).map ref11_Valid_fin) (hret : ∀ s, Kst (X.ret, s) = endK prog 232 [(enc_T_api_Base a0)] [] [.tmp 2] (X.ret, s)) :
    ∀ (m : Nat) (x20 : Int), (iter (exec prog (evF prog anns ext k) ref11_Valid_an k ref11_Valid_b1) m ⟨[(1, (V.ptr 1 0 0)), (3, (V.int .i64 x20))], [(1, ⟨false, 4, [(enc_T_api_Base a0)]⟩)], 232⟩).bind Kst = (ref11_Valid_L1 k a0 K0 m x20).map ref11_Valid_fin := by
  intro m
  induction m with
  | zero => intros; rfl
  | succ m ih =>
    intro x20
    unfold ref11_Valid_L1
    refine Eq.trans k_round ?_
    refine Eq.trans k_assoc ?_
    refine Eq.trans (k_region0 rfl (ref11_Valid_r4 k a0 x20)) ?_
    refine Eq.trans (k_cond (t := (decide (x20 < (a0.fTypes.length : Int)))) rfl) ?_
    refine bifE2 (fun hc => ?_) (fun hc => ?_)
    · rw [hc]
      refine Eq.trans k_skip ?_
      refine Eq.trans k_block ?_
      refine Eq.trans (k_region rfl (ref11_Valid_r6 k a0 x20)) ?_
      refine bindE (fun o22 => ?_)
      refine Eq.trans k_assoc ?_
      refine Eq.trans (k_region rfl (ref11_Valid_r7 k a0 x20 o22)) ?_
      refine bindE (fun o25 => ?_)
      refine Eq.trans (k_cond (t := o25) rfl) ?_
      refine bifE2 (fun hc => ?_) (fun hc => ?_)
      · rw [hc]
        refine Eq.trans k_assoc ?_
        refine Eq.trans (k_region0 rfl (ref11_Valid_r8 k a0 x20 o22)) ?_
        refine Eq.trans k_ret ?_
        refine Eq.trans blk_ret ?_
        refine Eq.trans loop_ret ?_
        refine Eq.trans (hret _) ?_
        rfl
      · rw [hc]
        refine Eq.trans k_skip ?_
        refine Eq.trans k_assoc ?_
        refine Eq.trans (k_region0 rfl (ref11_Valid_r9 k a0 x20 o22)) ?_
        refine Eq.trans k_block ?_
        refine Eq.trans k_loop ?_
        refine ref11_Valid_L2_ok k a0 x20 o22 _ _ ?h_ref11_Valid_L2_0 ?hr_ref11_Valid_L2 k 0
        · intro y31
          refine Eq.trans blk_exit ?_
          refine Eq.trans k_assoc ?_
          refine Eq.trans (k_region0 rfl (ref11_Valid_r14 k a0 x20 o22 y31)) ?_
          refine Eq.trans (k_cond (t := (x20 == 0)) rfl) ?_
          refine bifE2 (fun hc => ?_) (fun hc => ?_)
          · rw [hc]
            refine Eq.trans k_assoc ?_
            refine Eq.trans k_assoc ?_
            refine Eq.trans (k_region rfl (ref11_Valid_r15 k a0 x20 o22)) ?_
            refine bindE (fun o33 => ?_)
            refine Eq.trans (k_cond (t := o33) rfl) ?_
            refine bifE2 (fun hc => ?_) (fun hc => ?_)
            · rw [hc]
              refine Eq.trans k_assoc ?_
              refine Eq.trans (k_region0 rfl (ref11_Valid_r16 k a0 x20)) ?_
              refine Eq.trans k_ret ?_
              refine Eq.trans blk_ret ?_
              refine Eq.trans loop_ret ?_
              refine Eq.trans (hret _) ?_
              rfl
            · rw [hc]
              refine Eq.trans k_skip ?_
              refine Eq.trans k_exit ?_
              refine Eq.trans blk_exit ?_
              refine Eq.trans (k_lregion0 rfl (ref11_Valid_r5 k a0 x20)) ?_
              refine Eq.trans loop_normal ?_
              exact ih (Go.IntKind.wrap .i64 (x20 + 1))
          · rw [hc]
            refine Eq.trans k_skip ?_
            refine Eq.trans (k_region rfl (ref11_Valid_r17 k a0 x20 o22)) ?_
            refine bindE (fun o37 => ?_)
            refine Eq.trans (k_lcond (t := o37) rfl) ?_
            refine bifE2 (fun hc => ?_) (fun hc => ?_)
            · rw [hc]
              refine Eq.trans (k_region0 rfl (ref11_Valid_r18 k a0 x20)) ?_
              refine Eq.trans k_lret ?_
              refine Eq.trans blk_ret ?_
              refine Eq.trans loop_ret ?_
              refine Eq.trans (hret _) ?_
              rfl
            · rw [hc]
              refine Eq.trans k_lskip ?_
              refine Eq.trans blk_normal ?_
              refine Eq.trans (k_lregion0 rfl (ref11_Valid_r5' k a0 x20)) ?_
              refine Eq.trans loop_normal ?_
              exact ih (Go.IntKind.wrap .i64 (x20 + 1))
        · intro s; exact hret s
    · rw [hc]
      refine Eq.trans k_exit ?_
      refine Eq.trans loop_exit ?_
      exact hK0 x20
theorem ref11_Valid_r19 (k : Nat) (a0 : T_api_Base) (y38 : Int) : regionE prog (evF prog anns ext k) ref11_Valid_a19 ref11_Valid_o19 false ⟨[(1, (V.ptr 1 0 0)), (3, (V.int .i64 y38)), (45, (V.bool false))], [(1, ⟨false, 4, [(enc_T_api_Base a0)]⟩)], 232⟩ = some ⟨[(1, (V.ptr 1 0 0)), (6, (V.int .i64 0))], [(1, ⟨false, 4, [(enc_T_api_Base a0)]⟩)], 232⟩ := by
  refine Eq.trans regionE_reg ?_
  exact reg_end rfl
theorem ref11_Valid_r20 (k : Nat) (a0 : T_api_Base) (x52 : Int) : regionE prog (evF prog anns ext k) ref11_Valid_a20 ref11_Valid_o20 false ⟨[(1, (V.ptr 1 0 0)), (6, (V.int .i64 x52))], [(1, ⟨false, 4, [(enc_T_api_Base a0)]⟩)], 232⟩ = some ⟨[(1, (V.ptr 1 0 0)), (6, (V.int .i64 x52)), (154, (V.bool (decide (x52 < (a0.fIndexes.length : Int)))))], [(1, ⟨false, 4, [(enc_T_api_Base a0)]⟩)], 232⟩ := by
  refine Eq.trans regionE_reg ?_
  refine Eq.trans (reg_adv (m := 3) (j := 3) (st' := ⟨[(1, (V.ptr 1 0 0)), (6, (V.int .i64 x52)), (150, (V.int .i64 x52)), (151, (V.ptr 1 0 3)), (152, (V.sl 0 4 (List.map enc_T_api_Search a0.fIndexes)))], [(1, ⟨false, 4, [(enc_T_api_Base a0)]⟩)], 232⟩) rfl rfl rfl) ?_
  refine Eq.trans (reg_pure (x := some ()) (w := fun _ => (V.int .i64 (a0.fIndexes.length : Int))) rfl rfl rfl rfl (p_len (e := enc_T_api_Search) rfl rfl rfl rfl rfl rfl Go.Proofs.Try.underlying23)) ?_
  refine Eq.trans some_bind ?_
  exact bind_end rfl
theorem ref11_Valid_r22 (k : Nat) (a0 : T_api_Base) (x52 : Int) : regionE prog (evF prog anns ext k) ref11_Valid_a22 ref11_Valid_o22 false ⟨[(1, (V.ptr 1 0 0)), (6, (V.int .i64 x52)), (154, (V.bool true))], [(1, ⟨false, 4, [(enc_T_api_Base a0)]⟩)], 232⟩ = ((idx a0.fIndexes x52)).map (fun (o : T_api_Search) => (⟨[(1, (V.ptr 1 0 0)), (6, (V.int .i64 x52)), (7, (V.ptr 7 0 0))], [(1, ⟨false, 4, [(enc_T_api_Base a0)]⟩), (7, ⟨false, 4, [(enc_T_api_Search o)]⟩)], 232⟩ : St)) := by
  refine Eq.trans regionE_reg ?_
  refine Eq.trans (reg_adv (m := 3) (j := 3) (st' := ⟨[(1, (V.ptr 1 0 0)), (6, (V.int .i64 x52)), (154, (V.bool true)), (157, (V.ptr 1 0 3)), (158, (V.sl 0 4 (List.map enc_T_api_Search a0.fIndexes))), (159, (V.int .i64 x52))], [(1, ⟨false, 4, [(enc_T_api_Base a0)]⟩)], 232⟩) rfl rfl rfl) ?_
  refine Eq.trans (reg_pure (x := (idx a0.fIndexes x52)) (w := fun v53 => (V.pro (enc_T_api_Search v53))) rfl rfl rfl rfl (p_index (e := enc_T_api_Search) rfl rfl rfl Go.Proofs.Try.underlying23 rfl (by decide))) ?_
  refine bind_self (fun v53 => ?_)
  exact bind_end rfl
theorem ref11_Valid_r23 (k : Nat) (a0 : T_api_Base) (x52 : Int) (o54 : T_api_Search) : regionE prog (evF prog anns ext k) ref11_Valid_a23 ref11_Valid_o23 true ⟨[(1, (V.ptr 1 0 0)), (6, (V.int .i64 x52)), (7, (V.ptr 7 0 0))], [(1, ⟨false, 4, [(enc_T_api_Base a0)]⟩), (7, ⟨false, 4, [(enc_T_api_Search o54)]⟩)], 232⟩ = (((ref11_IsName k o54.fName).bind fun v55 => (bif (!v55) then (some (true)) else (bif (decide (o54.fType < 0)) then (some (true)) else (bif (decide (o54.fType ≥ (a0.fTypes.length : Int))) then (some (true)) else (bif (decide (o54.fField < 0)) then (some (true)) else ((idx a0.fTypes o54.fType).bind fun v56 => (bif (decide (o54.fField ≥ (v56.fFields.length : Int))) then (some (true)) else ((idx a0.fTypes o54.fType).bind fun v57 => ((idx v57.fFields o54.fField).bind fun v58 => (bif (decide (v58.fBytes > 20)) then (some (true)) else (some ((decide ((o54.fSparse.length : Int) > 1))))))))))))))).map (fun (o : Bool) => (⟨[(1, (V.ptr 1 0 0)), (6, (V.int .i64 x52)), (7, (V.ptr 7 0 0)), (217, (V.bool o))], [(1, ⟨false, 4, [(enc_T_api_Base a0)]⟩), (7, ⟨false, 4, [(enc_T_api_Search o54)]⟩)], 232⟩ : St)) := by
  refine Eq.trans (regionE_regp (p := 56) (t := [(1, (V.ptr 1 0 0)), (6, (V.int .i64 x52)), (7, (V.ptr 7 0 0))]) (σ := [(1, ⟨false, 4, [(enc_T_api_Base a0)]⟩), (7, ⟨false, 4, [(enc_T_api_Search o54)]⟩)]) (n := 232) (by decide) (by decide) rfl) ?_
  refine Eq.trans (regp_adv (m := 2) (j := 2) (t' := [(1, (V.ptr 1 0 0)), (6, (V.int .i64 x52)), (7, (V.ptr 7 0 0)), (162, (V.ptr 7 0 0)), (163, (V.str o54.fName))]) rfl rfl rfl) ?_
  refine Eq.trans (regp_pure (x := (ref11_IsName k o54.fName)) (w := fun v55 => (V.bool v55)) rfl rfl rfl rfl rfl (p_call rfl rfl rfl rfl rfl (ref11_IsName_ok k o54.fName) (.inl rfl))) ?_
  refine bindE (fun v55 => ?_)
  refine Eq.trans (putp_adv (m := 2) (j := 5) (t' := [(1, (V.ptr 1 0 0)), (6, (V.int .i64 x52)), (7, (V.ptr 7 0 0)), (162, (V.ptr 7 0 0)), (163, (V.str o54.fName)), (164, (V.bool v55)), (165, (V.bool (!v55))), (166, (V.bool (!v55)))]) rfl rfl rfl) ?_
  refine bifE (c := (!v55)) (fun hc => ?_) (fun hc => ?_)
  · rw [hc]
    exact regp_end rfl
  · rw [hc]
    refine Eq.trans (regp_adv (m := 5) (j := 10) (t' := [(1, (V.ptr 1 0 0)), (6, (V.int .i64 x52)), (7, (V.ptr 7 0 0)), (162, (V.ptr 7 0 0)), (163, (V.str o54.fName)), (164, (V.bool v55)), (165, (V.bool false)), (166, (V.bool false)), (167, (V.ptr 7 0 1)), (168, (V.int .i64 o54.fType)), (169, (V.bool (decide (o54.fType < 0)))), (170, (V.bool (decide (o54.fType < 0)))), (171, (V.bool (decide (o54.fType < 0))))]) rfl rfl rfl) ?_
    refine bifE (c := (decide (o54.fType < 0))) (fun hc => ?_) (fun hc => ?_)
    · rw [hc]
      exact regp_end rfl
    · rw [hc]
      refine Eq.trans (regp_adv (m := 4) (j := 14) (t' := [(1, (V.ptr 1 0 0)), (6, (V.int .i64 x52)), (7, (V.ptr 7 0 0)), (162, (V.ptr 7 0 0)), (163, (V.str o54.fName)), (164, (V.bool v55)), (165, (V.bool false)), (166, (V.bool false)), (167, (V.ptr 7 0 1)), (168, (V.int .i64 o54.fType)), (169, (V.bool false)), (170, (V.bool false)), (171, (V.bool false)), (172, (V.ptr 7 0 1)), (173, (V.int .i64 o54.fType)), (174, (V.ptr 1 0 2)), (175, (V.sl 0 8 (List.map enc_T_api_Type a0.fTypes)))]) rfl rfl rfl) ?_
      refine Eq.trans (regp_pure (x := some ()) (w := fun _ => (V.int .i64 (a0.fTypes.length : Int))) rfl rfl rfl rfl rfl (p_len (e := enc_T_api_Type) rfl rfl rfl rfl rfl rfl Go.Proofs.Try.underlying22)) ?_
      refine Eq.trans some_bind ?_
      refine Eq.trans (putp_adv (m := 3) (j := 18) (t' := [(1, (V.ptr 1 0 0)), (6, (V.int .i64 x52)), (7, (V.ptr 7 0 0)), (162, (V.ptr 7 0 0)), (163, (V.str o54.fName)), (164, (V.bool v55)), (165, (V.bool false)), (166, (V.bool false)), (167, (V.ptr 7 0 1)), (168, (V.int .i64 o54.fType)), (169, (V.bool false)), (170, (V.bool false)), (171, (V.bool false)), (172, (V.ptr 7 0 1)), (173, (V.int .i64 o54.fType)), (174, (V.ptr 1 0 2)), (175, (V.sl 0 8 (List.map enc_T_api_Type a0.fTypes))), (176, (V.int .i64 (a0.fTypes.length : Int))), (177, (V.bool (decide (o54.fType ≥ (a0.fTypes.length : Int))))), (178, (V.bool (decide (o54.fType ≥ (a0.fTypes.length : Int))))), (179, (V.bool (decide (o54.fType ≥ (a0.fTypes.length : Int)))))]) rfl rfl rfl) ?_
      refine bifE (c := (decide (o54.fType ≥ (a0.fTypes.length : Int)))) (fun hc => ?_) (fun hc => ?_)
      · rw [hc]
        exact regp_end rfl
      · rw [hc]
        refine Eq.trans (regp_adv (m := 5) (j := 23) (t' := [(1, (V.ptr 1 0 0)), (6, (V.int .i64 x52)), (7, (V.ptr 7 0 0)), (162, (V.ptr 7 0 0)), (163, (V.str o54.fName)), (164, (V.bool v55)), (165, (V.bool false)), (166, (V.bool false)), (167, (V.ptr 7 0 1)), (168, (V.int .i64 o54.fType)), (169, (V.bool false)), (170, (V.bool false)), (171, (V.bool false)), (172, (V.ptr 7 0 1)), (173, (V.int .i64 o54.fType)), (174, (V.ptr 1 0 2)), (175, (V.sl 0 8 (List.map enc_T_api_Type a0.fTypes))), (176, (V.int .i64 (a0.fTypes.length : Int))), (177, (V.bool false)), (178, (V.bool false)), (179, (V.bool false)), (180, (V.ptr 7 0 2)), (181, (V.int .i64 o54.fField)), (182, (V.bool (decide (o54.fField < 0)))), (183, (V.bool (decide (o54.fField < 0)))), (184, (V.bool (decide (o54.fField < 0))))]) rfl rfl rfl) ?_
        refine bifE (c := (decide (o54.fField < 0))) (fun hc => ?_) (fun hc => ?_)
        · rw [hc]
          exact regp_end rfl
        · rw [hc]
          refine Eq.trans (regp_adv (m := 6) (j := 29) (t' := [(1, (V.ptr 1 0 0)), (6, (V.int .i64 x52)), (7, (V.ptr 7 0 0)), (162, (V.ptr 7 0 0)), (163, (V.str o54.fName)), (164, (V.bool v55)), (165, (V.bool false)), (166, (V.bool false)), (167, (V.ptr 7 0 1)), (168, (V.int .i64 o54.fType)), (169, (V.bool false)), (170, (V.bool false)), (171, (V.bool false)), (172, (V.ptr 7 0 1)), (173, (V.int .i64 o54.fType)), (174, (V.ptr 1 0 2)), (175, (V.sl 0 8 (List.map enc_T_api_Type a0.fTypes))), (176, (V.int .i64 (a0.fTypes.length : Int))), (177, (V.bool false)), (178, (V.bool false)), (179, (V.bool false)), (180, (V.ptr 7 0 2)), (181, (V.int .i64 o54.fField)), (182, (V.bool false)), (183, (V.bool false)), (184, (V.bool false)), (185, (V.ptr 7 0 2)), (186, (V.int .i64 o54.fField)), (187, (V.ptr 1 0 2)), (188, (V.sl 0 8 (List.map enc_T_api_Type a0.fTypes))), (189, (V.ptr 7 0 1)), (190, (V.int .i64 o54.fType))]) rfl rfl rfl) ?_
          refine Eq.trans (regp_pure (x := (idx a0.fTypes o54.fType)) (w := fun v56 => (V.pro (enc_T_api_Type v56))) rfl rfl rfl rfl rfl (p_index (e := enc_T_api_Type) rfl rfl rfl Go.Proofs.Try.underlying22 rfl (by decide))) ?_
          refine bindE (fun v56 => ?_)
          refine Eq.trans (putp_adv (m := 2) (j := 32) (t' := [(1, (V.ptr 1 0 0)), (6, (V.int .i64 x52)), (7, (V.ptr 7 0 0)), (162, (V.ptr 7 0 0)), (163, (V.str o54.fName)), (164, (V.bool v55)), (165, (V.bool false)), (166, (V.bool false)), (167, (V.ptr 7 0 1)), (168, (V.int .i64 o54.fType)), (169, (V.bool false)), (170, (V.bool false)), (171, (V.bool false)), (172, (V.ptr 7 0 1)), (173, (V.int .i64 o54.fType)), (174, (V.ptr 1 0 2)), (175, (V.sl 0 8 (List.map enc_T_api_Type a0.fTypes))), (176, (V.int .i64 (a0.fTypes.length : Int))), (177, (V.bool false)), (178, (V.bool false)), (179, (V.bool false)), (180, (V.ptr 7 0 2)), (181, (V.int .i64 o54.fField)), (182, (V.bool false)), (183, (V.bool false)), (184, (V.bool false)), (185, (V.ptr 7 0 2)), (186, (V.int .i64 o54.fField)), (187, (V.ptr 1 0 2)), (188, (V.sl 0 8 (List.map enc_T_api_Type a0.fTypes))), (189, (V.ptr 7 0 1)), (190, (V.int .i64 o54.fType)), (191, (V.pro (enc_T_api_Type v56))), (192, (V.pro (V.sl 0 3 (List.map enc_T_api_Field v56.fFields)))), (193, (V.sl 0 3 (List.map enc_T_api_Field v56.fFields)))]) rfl rfl rfl) ?_
          refine Eq.trans (regp_pure (x := some ()) (w := fun _ => (V.int .i64 (v56.fFields.length : Int))) rfl rfl rfl rfl rfl (p_len (e := enc_T_api_Field) rfl rfl rfl rfl rfl rfl Go.Proofs.Try.underlying53)) ?_
          refine Eq.trans some_bind ?_
          refine Eq.trans (putp_adv (m := 3) (j := 36) (t' := [(1, (V.ptr 1 0 0)), (6, (V.int .i64 x52)), (7, (V.ptr 7 0 0)), (162, (V.ptr 7 0 0)), (163, (V.str o54.fName)), (164, (V.bool v55)), (165, (V.bool false)), (166, (V.bool false)), (167, (V.ptr 7 0 1)), (168, (V.int .i64 o54.fType)), (169, (V.bool false)), (170, (V.bool false)), (171, (V.bool false)), (172, (V.ptr 7 0 1)), (173, (V.int .i64 o54.fType)), (174, (V.ptr 1 0 2)), (175, (V.sl 0 8 (List.map enc_T_api_Type a0.fTypes))), (176, (V.int .i64 (a0.fTypes.length : Int))), (177, (V.bool false)), (178, (V.bool false)), (179, (V.bool false)), (180, (V.ptr 7 0 2)), (181, (V.int .i64 o54.fField)), (182, (V.bool false)), (183, (V.bool false)), (184, (V.bool false)), (185, (V.ptr 7 0 2)), (186, (V.int .i64 o54.fField)), (187, (V.ptr 1 0 2)), (188, (V.sl 0 8 (List.map enc_T_api_Type a0.fTypes))), (189, (V.ptr 7 0 1)), (190, (V.int .i64 o54.fType)), (191, (V.pro (enc_T_api_Type v56))), (192, (V.pro (V.sl 0 3 (List.map enc_T_api_Field v56.fFields)))), (193, (V.sl 0 3 (List.map enc_T_api_Field v56.fFields))), (194, (V.int .i64 (v56.fFields.length : Int))), (195, (V.bool (decide (o54.fField ≥ (v56.fFields.length : Int))))), (196, (V.bool (decide (o54.fField ≥ (v56.fFields.length : Int))))), (197, (V.bool (decide (o54.fField ≥ (v56.fFields.length : Int)))))]) rfl rfl rfl) ?_
          refine bifE (c := (decide (o54.fField ≥ (v56.fFields.length : Int)))) (fun hc => ?_) (fun hc => ?_)
          · rw [hc]
            exact regp_end rfl
          · rw [hc]
            refine Eq.trans (regp_adv (m := 4) (j := 40) (t' := [(1, (V.ptr 1 0 0)), (6, (V.int .i64 x52)), (7, (V.ptr 7 0 0)), (162, (V.ptr 7 0 0)), (163, (V.str o54.fName)), (164, (V.bool v55)), (165, (V.bool false)), (166, (V.bool false)), (167, (V.ptr 7 0 1)), (168, (V.int .i64 o54.fType)), (169, (V.bool false)), (170, (V.bool false)), (171, (V.bool false)), (172, (V.ptr 7 0 1)), (173, (V.int .i64 o54.fType)), (174, (V.ptr 1 0 2)), (175, (V.sl 0 8 (List.map enc_T_api_Type a0.fTypes))), (176, (V.int .i64 (a0.fTypes.length : Int))), (177, (V.bool false)), (178, (V.bool false)), (179, (V.bool false)), (180, (V.ptr 7 0 2)), (181, (V.int .i64 o54.fField)), (182, (V.bool false)), (183, (V.bool false)), (184, (V.bool false)), (185, (V.ptr 7 0 2)), (186, (V.int .i64 o54.fField)), (187, (V.ptr 1 0 2)), (188, (V.sl 0 8 (List.map enc_T_api_Type a0.fTypes))), (189, (V.ptr 7 0 1)), (190, (V.int .i64 o54.fType)), (191, (V.pro (enc_T_api_Type v56))), (192, (V.pro (V.sl 0 3 (List.map enc_T_api_Field v56.fFields)))), (193, (V.sl 0 3 (List.map enc_T_api_Field v56.fFields))), (194, (V.int .i64 (v56.fFields.length : Int))), (195, (V.bool false)), (196, (V.bool false)), (197, (V.bool false)), (198, (V.ptr 1 0 2)), (199, (V.sl 0 8 (List.map enc_T_api_Type a0.fTypes))), (200, (V.ptr 7 0 1)), (201, (V.int .i64 o54.fType))]) rfl rfl rfl) ?_
            refine Eq.trans (regp_pure (x := (idx a0.fTypes o54.fType)) (w := fun v57 => (V.pro (enc_T_api_Type v57))) rfl rfl rfl rfl rfl (p_index (e := enc_T_api_Type) rfl rfl rfl Go.Proofs.Try.underlying22 rfl (by decide))) ?_
            refine bindE (fun v57 => ?_)
            refine Eq.trans (putp_adv (m := 4) (j := 45) (t' := [(1, (V.ptr 1 0 0)), (6, (V.int .i64 x52)), (7, (V.ptr 7 0 0)), (162, (V.ptr 7 0 0)), (163, (V.str o54.fName)), (164, (V.bool v55)), (165, (V.bool false)), (166, (V.bool false)), (167, (V.ptr 7 0 1)), (168, (V.int .i64 o54.fType)), (169, (V.bool false)), (170, (V.bool false)), (171, (V.bool false)), (172, (V.ptr 7 0 1)), (173, (V.int .i64 o54.fType)), (174, (V.ptr 1 0 2)), (175, (V.sl 0 8 (List.map enc_T_api_Type a0.fTypes))), (176, (V.int .i64 (a0.fTypes.length : Int))), (177, (V.bool false)), (178, (V.bool false)), (179, (V.bool false)), (180, (V.ptr 7 0 2)), (181, (V.int .i64 o54.fField)), (182, (V.bool false)), (183, (V.bool false)), (184, (V.bool false)), (185, (V.ptr 7 0 2)), (186, (V.int .i64 o54.fField)), (187, (V.ptr 1 0 2)), (188, (V.sl 0 8 (List.map enc_T_api_Type a0.fTypes))), (189, (V.ptr 7 0 1)), (190, (V.int .i64 o54.fType)), (191, (V.pro (enc_T_api_Type v56))), (192, (V.pro (V.sl 0 3 (List.map enc_T_api_Field v56.fFields)))), (193, (V.sl 0 3 (List.map enc_T_api_Field v56.fFields))), (194, (V.int .i64 (v56.fFields.length : Int))), (195, (V.bool false)), (196, (V.bool false)), (197, (V.bool false)), (198, (V.ptr 1 0 2)), (199, (V.sl 0 8 (List.map enc_T_api_Type a0.fTypes))), (200, (V.ptr 7 0 1)), (201, (V.int .i64 o54.fType)), (202, (V.pro (enc_T_api_Type v57))), (203, (V.pro (V.sl 0 3 (List.map enc_T_api_Field v57.fFields)))), (204, (V.sl 0 3 (List.map enc_T_api_Field v57.fFields))), (205, (V.ptr 7 0 2)), (206, (V.int .i64 o54.fField))]) rfl rfl rfl) ?_
            refine Eq.trans (regp_pure (x := (idx v57.fFields o54.fField)) (w := fun v58 => (V.pro (enc_T_api_Field v58))) rfl rfl rfl rfl rfl (p_index (e := enc_T_api_Field) rfl rfl rfl Go.Proofs.Try.underlying53 rfl (by decide))) ?_
            refine bindE (fun v58 => ?_)
            refine Eq.trans (putp_adv (m := 5) (j := 51) (t' := [(1, (V.ptr 1 0 0)), (6, (V.int .i64 x52)), (7, (V.ptr 7 0 0)), (162, (V.ptr 7 0 0)), (163, (V.str o54.fName)), (164, (V.bool v55)), (165, (V.bool false)), (166, (V.bool false)), (167, (V.ptr 7 0 1)), (168, (V.int .i64 o54.fType)), (169, (V.bool false)), (170, (V.bool false)), (171, (V.bool false)), (172, (V.ptr 7 0 1)), (173, (V.int .i64 o54.fType)), (174, (V.ptr 1 0 2)), (175, (V.sl 0 8 (List.map enc_T_api_Type a0.fTypes))), (176, (V.int .i64 (a0.fTypes.length : Int))), (177, (V.bool false)), (178, (V.bool false)), (179, (V.bool false)), (180, (V.ptr 7 0 2)), (181, (V.int .i64 o54.fField)), (182, (V.bool false)), (183, (V.bool false)), (184, (V.bool false)), (185, (V.ptr 7 0 2)), (186, (V.int .i64 o54.fField)), (187, (V.ptr 1 0 2)), (188, (V.sl 0 8 (List.map enc_T_api_Type a0.fTypes))), (189, (V.ptr 7 0 1)), (190, (V.int .i64 o54.fType)), (191, (V.pro (enc_T_api_Type v56))), (192, (V.pro (V.sl 0 3 (List.map enc_T_api_Field v56.fFields)))), (193, (V.sl 0 3 (List.map enc_T_api_Field v56.fFields))), (194, (V.int .i64 (v56.fFields.length : Int))), (195, (V.bool false)), (196, (V.bool false)), (197, (V.bool false)), (198, (V.ptr 1 0 2)), (199, (V.sl 0 8 (List.map enc_T_api_Type a0.fTypes))), (200, (V.ptr 7 0 1)), (201, (V.int .i64 o54.fType)), (202, (V.pro (enc_T_api_Type v57))), (203, (V.pro (V.sl 0 3 (List.map enc_T_api_Field v57.fFields)))), (204, (V.sl 0 3 (List.map enc_T_api_Field v57.fFields))), (205, (V.ptr 7 0 2)), (206, (V.int .i64 o54.fField)), (207, (V.pro (enc_T_api_Field v58))), (208, (V.pro (V.int .i64 v58.fBytes))), (209, (V.int .i64 v58.fBytes)), (210, (V.bool (decide (v58.fBytes > 20)))), (211, (V.bool (decide (v58.fBytes > 20)))), (212, (V.bool (decide (v58.fBytes > 20))))]) rfl rfl rfl) ?_
            refine bifE (c := (decide (v58.fBytes > 20))) (fun hc => ?_) (fun hc => ?_)
            · rw [hc]
              exact regp_end rfl
            · rw [hc]
              exact regp_end rfl
theorem ref11_Valid_r24 (k : Nat) (a0 : T_api_Base) (x52 : Int) (o54 : T_api_Search) : regionE prog (evF prog anns ext k) ref11_Valid_a24 ref11_Valid_o24 false ⟨[(1, (V.ptr 1 0 0)), (6, (V.int .i64 x52)), (7, (V.ptr 7 0 0)), (217, (V.bool true))], [(1, ⟨false, 4, [(enc_T_api_Base a0)]⟩), (7, ⟨false, 4, [(enc_T_api_Search o54)]⟩)], 232⟩ = some ⟨[(2, (V.bool false))], [], 232⟩ := by
  refine Eq.trans regionE_reg ?_
  exact reg_end rfl
theorem ref11_Valid_r25 (k : Nat) (a0 : T_api_Base) (x52 : Int) (o54 : T_api_Search) : regionE prog (evF prog anns ext k) ref11_Valid_a25 ref11_Valid_o25 false ⟨[(1, (V.ptr 1 0 0)), (6, (V.int .i64 x52)), (7, (V.ptr 7 0 0)), (217, (V.bool false))], [(1, ⟨false, 4, [(enc_T_api_Base a0)]⟩), (7, ⟨false, 4, [(enc_T_api_Search o54)]⟩)], 232⟩ = some ⟨[(1, (V.ptr 1 0 0)), (6, (V.int .i64 x52)), (7, (V.ptr 7 0 0)), (8, (V.int .i64 0))], [(1, ⟨false, 4, [(enc_T_api_Base a0)]⟩), (7, ⟨false, 4, [(enc_T_api_Search o54)]⟩)], 232⟩ := by
  refine Eq.trans regionE_reg ?_
  exact reg_end rfl
theorem ref11_Valid_r26 (k : Nat) (a0 : T_api_Base) (x52 : Int) (o54 : T_api_Search) (x62 : Int) : regionE prog (evF prog anns ext k) ref11_Valid_a26 ref11_Valid_o26 false ⟨[(1, (V.ptr 1 0 0)), (6, (V.int .i64 x52)), (7, (V.ptr 7 0 0)), (8, (V.int .i64 x62))], [(1, ⟨false, 4, [(enc_T_api_Base a0)]⟩), (7, ⟨false, 4, [(enc_T_api_Search o54)]⟩)], 232⟩ = some ⟨[(1, (V.ptr 1 0 0)), (6, (V.int .i64 x52)), (7, (V.ptr 7 0 0)), (8, (V.int .i64 x62)), (220, (V.bool (decide (x62 < x52))))], [(1, ⟨false, 4, [(enc_T_api_Base a0)]⟩), (7, ⟨false, 4, [(enc_T_api_Search o54)]⟩)], 232⟩ := by
  refine Eq.trans regionE_reg ?_
  exact reg_end rfl
theorem ref11_Valid_r28 (k : Nat) (a0 : T_api_Base) (x52 : Int) (o54 : T_api_Search) (x62 : Int) : regionE prog (evF prog anns ext k) ref11_Valid_a28 ref11_Valid_o28 true ⟨[(1, (V.ptr 1 0 0)), (6, (V.int .i64 x52)), (7, (V.ptr 7 0 0)), (8, (V.int .i64 x62)), (220, (V.bool true))], [(1, ⟨false, 4, [(enc_T_api_Base a0)]⟩), (7, ⟨false, 4, [(enc_T_api_Search o54)]⟩)], 232⟩ = (((idx a0.fIndexes x62).bind fun v63 => (some ((v63.fName == o54.fName))))).map (fun (o : Bool) => (⟨[(1, (V.ptr 1 0 0)), (6, (V.int .i64 x52)), (7, (V.ptr 7 0 0)), (8, (V.int .i64 x62)), (231, (V.bool o))], [(1, ⟨false, 4, [(enc_T_api_Base a0)]⟩), (7, ⟨false, 4, [(enc_T_api_Search o54)]⟩)], 232⟩ : St)) := by
  refine Eq.trans (regionE_regp (p := 9) (t := [(1, (V.ptr 1 0 0)), (6, (V.int .i64 x52)), (7, (V.ptr 7 0 0)), (8, (V.int .i64 x62)), (220, (V.bool true))]) (σ := [(1, ⟨false, 4, [(enc_T_api_Base a0)]⟩), (7, ⟨false, 4, [(enc_T_api_Search o54)]⟩)]) (n := 232) (by decide) (by decide) rfl) ?_
  refine Eq.trans (regp_adv (m := 3) (j := 3) (t' := [(1, (V.ptr 1 0 0)), (6, (V.int .i64 x52)), (7, (V.ptr 7 0 0)), (8, (V.int .i64 x62)), (220, (V.bool true)), (223, (V.ptr 1 0 3)), (224, (V.sl 0 4 (List.map enc_T_api_Search a0.fIndexes))), (225, (V.int .i64 x62))]) rfl rfl rfl) ?_
  refine Eq.trans (regp_pure (x := (idx a0.fIndexes x62)) (w := fun v63 => (V.pro (enc_T_api_Search v63))) rfl rfl rfl rfl rfl (p_index (e := enc_T_api_Search) rfl rfl rfl Go.Proofs.Try.underlying23 rfl (by decide))) ?_
  refine bindE (fun v63 => ?_)
  exact regp_end rfl
theorem ref11_Valid_r29 (k : Nat) (a0 : T_api_Base) (x52 : Int) (o54 : T_api_Search) (x62 : Int) : regionE prog (evF prog anns ext k) ref11_Valid_a29 ref11_Valid_o29 false ⟨[(1, (V.ptr 1 0 0)), (6, (V.int .i64 x52)), (7, (V.ptr 7 0 0)), (8, (V.int .i64 x62)), (231, (V.bool true))], [(1, ⟨false, 4, [(enc_T_api_Base a0)]⟩), (7, ⟨false, 4, [(enc_T_api_Search o54)]⟩)], 232⟩ = some ⟨[(2, (V.bool false))], [], 232⟩ := by
  refine Eq.trans regionE_reg ?_
  exact reg_end rfl
theorem ref11_Valid_r27 (k : Nat) (a0 : T_api_Base) (x52 : Int) (o54 : T_api_Search) (x62 : Int) : regionE prog (evF prog anns ext k) ref11_Valid_a27 ref11_Valid_o27 false ⟨[(1, (V.ptr 1 0 0)), (6, (V.int .i64 x52)), (7, (V.ptr 7 0 0)), (8, (V.int .i64 x62)), (231, (V.bool false))], [(1, ⟨false, 4, [(enc_T_api_Base a0)]⟩), (7, ⟨false, 4, [(enc_T_api_Search o54)]⟩)], 232⟩ = some ⟨[(1, (V.ptr 1 0 0)), (6, (V.int .i64 x52)), (7, (V.ptr 7 0 0)), (8, (V.int .i64 (Go.IntKind.wrap .i64 (x62 + 1))))], [(1, ⟨false, 4, [(enc_T_api_Base a0)]⟩), (7, ⟨false, 4, [(enc_T_api_Search o54)]⟩)], 232⟩ := by
  refine Eq.trans regionE_reg ?_
  exact reg_end rfl
theorem ref11_Valid_L4_ok (k : Nat) (a0 : T_api_Base) (x52 : Int) (o54 : T_api_Search)  (K0 : Int → Option Bool) (Kst : X × St → Option (V × List V)) (hK0 : ∀ (y0 : Int), Kst (X.exit 6, ⟨[(1, (V.ptr 1 0 0)), (6, (V.int .i64 x52)), (7, (V.ptr 7 0 0)), (8, (V.int .i64 y0)), (220, (V.bool false))], [(1, ⟨false, 4, [(enc_T_api_Base a0)]⟩), (7, ⟨false, 4, [(enc_T_api_Search o54)]⟩)], 232⟩) = (K0 y0).map ref11_Valid_fin) (hret : ∀ s, Kst (X.ret, s) = endK prog 232 [(enc_T_api_Base a0)] [] [.tmp 2] (X.ret, s)) :
    ∀ (m : Nat) (x62 : Int), (iter (exec prog (evF prog anns ext k) ref11_Valid_an k ref11_Valid_b2) m ⟨[(1, (V.ptr 1 0 0)), (6, (V.int .i64 x52)), (7, (V.ptr 7 0 0)), (8, (V.int .i64 x62))], [(1, ⟨false, 4, [(enc_T_api_Base a0)]⟩), (7, ⟨false, 4, [(enc_T_api_Search o54)]⟩)], 232⟩).bind Kst = (ref11_Valid_L4 a0 x52 o54 K0 m x62).map ref11_Valid_fin := by
  intro m
  induction m with
  | zero => intros; rfl
  | succ m ih =>
    intro x62
    unfold ref11_Valid_L4
    refine Eq.trans k_round ?_
    refine Eq.trans k_assoc ?_
    refine Eq.trans (k_region0 rfl (ref11_Valid_r26 k a0 x52 o54 x62)) ?_
    refine Eq.trans (k_cond (t := (decide (x62 < x52))) rfl) ?_
    refine bifE2 (fun hc => ?_) (fun hc => ?_)
    · rw [hc]
      refine Eq.trans k_skip ?_
      refine Eq.trans k_block ?_
      refine Eq.trans (k_region rfl (ref11_Valid_r28 k a0 x52 o54 x62)) ?_
      refine bindE (fun o64 => ?_)
      refine Eq.trans (k_lcond (t := o64) rfl) ?_
      refine bifE2 (fun hc => ?_) (fun hc => ?_)
      · rw [hc]
        refine Eq.trans (k_region0 rfl (ref11_Valid_r29 k a0 x52 o54 x62)) ?_
        refine Eq.trans k_lret ?_
        refine Eq.trans blk_ret ?_
        refine Eq.trans loop_ret ?_
        refine Eq.trans (hret _) ?_
        rfl
      · rw [hc]
        refine Eq.trans k_lskip ?_
        refine Eq.trans blk_normal ?_
        refine Eq.trans (k_lregion0 rfl (ref11_Valid_r27 k a0 x52 o54 x62)) ?_
        refine Eq.trans loop_normal ?_
        exact ih (Go.IntKind.wrap .i64 (x62 + 1))
    · rw [hc]
      refine Eq.trans k_exit ?_
      refine Eq.trans loop_exit ?_
      exact hK0 x62
theorem ref11_Valid_r21 (k : Nat) (a0 : T_api_Base) (x52 : Int) (o54 : T_api_Search) (y65 : Int) : regionE prog (evF prog anns ext k) ref11_Valid_a21 ref11_Valid_o21 false ⟨[(1, (V.ptr 1 0 0)), (6, (V.int .i64 x52)), (7, (V.ptr 7 0 0)), (8, (V.int .i64 y65)), (220, (V.bool false))], [(1, ⟨false, 4, [(enc_T_api_Base a0)]⟩), (7, ⟨false, 4, [(enc_T_api_Search o54)]⟩)], 232⟩ = some ⟨[(1, (V.ptr 1 0 0)), (6, (V.int .i64 (Go.IntKind.wrap .i64 (x52 + 1))))], [(1, ⟨false, 4, [(enc_T_api_Base a0)]⟩)], 232⟩ := by
  refine Eq.trans regionE_reg ?_
  exact reg_end rfl
theorem ref11_Valid_L3_ok (k : Nat) (a0 : T_api_Base)  (K0 : Int → Option Bool) (Kst : X × St → Option (V × List V)) (hK0 : ∀ (y0 : Int), Kst (X.exit 4, ⟨[(1, (V.ptr 1 0 0)), (6, (V.int .i64 y0)), (154, (V.bool false))], [(1, ⟨false, 4, [(enc_T_api_Base a0)]⟩)], 232⟩) = (K0 y0).map ref11_Valid_fin) (hret : ∀ s, Kst (X.ret, s) = endK prog 232 [(enc_T_api_Base a0)] [] [.tmp 2] (X.ret, s)) :
    ∀ (m : Nat) (x52 : Int), (iter (exec prog (evF prog anns ext k) ref11_Valid_an k ref11_Valid_b3) m ⟨[(1, (V.ptr 1 0 0)), (6, (V.int .i64 x52))], [(1, ⟨false, 4, [(enc_T_api_Base a0)]⟩)], 232⟩).bind Kst = (ref11_Valid_L3 k a0 K0 m x52).map ref11_Valid_fin := by
  intro m
  induction m with
  | zero => intros; rfl
  | succ m ih =>
    intro x52
    unfold ref11_Valid_L3
    refine Eq.trans k_round ?_
    refine Eq.trans k_assoc ?_
    refine Eq.trans (k_region0 rfl (ref11_Valid_r20 k a0 x52)) ?_
    refine Eq.trans (k_cond (t := (decide (x52 < (a0.fIndexes.length : Int)))) rfl) ?_
    refine bifE2 (fun hc => ?_) (fun hc => ?_)
    · rw [hc]
      refine Eq.trans k_skip ?_
      refine Eq.trans k_block ?_
      refine Eq.trans (k_region rfl (ref11_Valid_r22 k a0 x52)) ?_
      refine bindE (fun o54 => ?_)
      refine Eq.trans k_assoc ?_
      refine Eq.trans (k_region rfl (ref11_Valid_r23 k a0 x52 o54)) ?_
      refine bindE (fun o59 => ?_)
      refine Eq.trans (k_cond (t := o59) rfl) ?_
      refine bifE2 (fun hc => ?_) (fun hc => ?_)
      · rw [hc]
        refine Eq.trans k_assoc ?_
        refine Eq.trans (k_region0 rfl (ref11_Valid_r24 k a0 x52 o54)) ?_
        refine Eq.trans k_ret ?_
        refine Eq.trans blk_ret ?_
        refine Eq.trans loop_ret ?_
        refine Eq.trans (hret _) ?_
        rfl
      · rw [hc]
        refine Eq.trans k_skip ?_
        refine Eq.trans (k_region0 rfl (ref11_Valid_r25 k a0 x52 o54)) ?_
        refine Eq.trans k_lblock ?_
        refine Eq.trans k_loop ?_
        refine ref11_Valid_L4_ok k a0 x52 o54 _ _ ?h_ref11_Valid_L4_0 ?hr_ref11_Valid_L4 k 0
        · intro y65
          refine Eq.trans blk_exit ?_
          refine Eq.trans k_lskip ?_
          refine Eq.trans blk_normal ?_
          refine Eq.trans (k_lregion0 rfl (ref11_Valid_r21 k a0 x52 o54 y65)) ?_
          refine Eq.trans loop_normal ?_
          exact ih (Go.IntKind.wrap .i64 (x52 + 1))
        · intro s; exact hret s
    · rw [hc]
      refine Eq.trans k_exit ?_
      refine Eq.trans loop_exit ?_
      exact hK0 x52
theorem ref11_Valid_r30 (k : Nat) (a0 : T_api_Base) (y66 : Int) : regionE prog (evF prog anns ext k) ref11_Valid_a30 ref11_Valid_o30 false ⟨[(1, (V.ptr 1 0 0)), (6, (V.int .i64 y66)), (154, (V.bool false))], [(1, ⟨false, 4, [(enc_T_api_Base a0)]⟩)], 232⟩ = some ⟨[(2, (V.bool true))], [], 232⟩ := by
  refine Eq.trans regionE_reg ?_
  exact reg_end rfl
theorem ref11_Valid_ok (k : Nat) (a0 : T_api_Base) : evF prog anns ext k 29 [(enc_T_api_Base a0)] = (ref11_Valid k a0).map ref11_Valid_fin := by
  cases k with
  | zero => rfl
  | succ k =>
    unfold ref11_Valid
    refine Eq.trans (evF_succ (c := ref11_Valid_c) (N := 232) (regs := ref11_Valid_an) rfl Go.Proofs.Try.func29 rfl (by decide) rfl rfl rfl) ?_
    refine Eq.trans (k_region0 rfl (ref11_Valid_r0 k a0)) ?_
    refine Eq.trans k_assoc ?_
    refine Eq.trans (k_region rfl (ref11_Valid_r1 k a0)) ?_
    refine bindE (fun o2 => ?_)
    refine Eq.trans (k_cond (t := o2) rfl) ?_
    refine bifE2 (fun hc => ?_) (fun hc => ?_)
    · rw [hc]
      refine Eq.trans k_assoc ?_
      refine Eq.trans (k_region0 rfl (ref11_Valid_r2 k a0)) ?_
      refine Eq.trans k_ret ?_
      rfl
    · rw [hc]
      refine Eq.trans k_skip ?_
      refine Eq.trans k_assoc ?_
      refine Eq.trans (k_region0 rfl (ref11_Valid_r3 k a0)) ?_
      refine Eq.trans k_block ?_
      refine Eq.trans k_loop ?_
      refine ref11_Valid_L1_ok k a0 _ _ ?h_ref11_Valid_L1_0 ?hr_ref11_Valid_L1 k 0
      · intro y38
        refine Eq.trans blk_exit ?_
        refine Eq.trans k_assoc ?_
        refine Eq.trans (k_region0 rfl (ref11_Valid_r19 k a0 y38)) ?_
        refine Eq.trans k_block ?_
        refine Eq.trans k_loop ?_
        refine ref11_Valid_L3_ok k a0 _ _ ?h_ref11_Valid_L3_0 ?hr_ref11_Valid_L3 k 0
        · intro y66
          refine Eq.trans blk_exit ?_
          refine Eq.trans (k_region0 rfl (ref11_Valid_r30 k a0 y66)) ?_
          refine Eq.trans k_lret ?_
          rfl
        · intro s; exact rfl
      · intro s; exact rfl
def ref11_isType_fin : Bool → V × List V := fun r => ((V.bool r), [])
theorem ref11_isType_r0 (k : Nat) (a0 : T_api_Base) (a1 : Int) : regionE prog (evF prog anns ext k) ref11_isType_a0 ref11_isType_o0 false ⟨[(0, (enc_T_api_Base a0)), (1, (V.int .i64 a1))], [], 14⟩ = some ⟨[(1, (V.int .i64 a1)), (2, (V.ptr 2 0 0))], [(2, ⟨false, 4, [(enc_T_api_Base a0)]⟩)], 14⟩ := by
  refine Eq.trans regionE_reg ?_
  exact reg_end rfl
theorem ref11_isType_r1 (k : Nat) (a0 : T_api_Base) (a1 : Int) : regionE prog (evF prog anns ext k) ref11_isType_a1 ref11_isType_o1 false ⟨[(1, (V.int .i64 a1)), (2, (V.ptr 2 0 0))], [(2, ⟨false, 4, [(enc_T_api_Base a0)]⟩)], 14⟩ = ((bif (decide (a1 ≥ 0)) then (some ((decide (a1 < (a0.fTypes.length : Int))))) else (some (false)))).map (fun (o : Bool) => (⟨[(4, (V.bool o))], [], 14⟩ : St)) := by
  refine Eq.trans regionE_reg ?_
  refine Eq.trans (reg_adv (m := 3) (j := 3) (st' := ⟨[(1, (V.int .i64 a1)), (2, (V.ptr 2 0 0)), (5, (V.int .i64 a1)), (6, (V.bool (decide (a1 ≥ 0)))), (7, (V.bool (decide (a1 ≥ 0))))], [(2, ⟨false, 4, [(enc_T_api_Base a0)]⟩)], 14⟩) rfl rfl rfl) ?_
  refine bifE (c := (decide (a1 ≥ 0))) (fun hc => ?_) (fun hc => ?_)
  · rw [hc]
    refine Eq.trans (reg_adv (m := 3) (j := 6) (st' := ⟨[(1, (V.int .i64 a1)), (2, (V.ptr 2 0 0)), (5, (V.int .i64 a1)), (6, (V.bool true)), (7, (V.bool true)), (8, (V.int .i64 a1)), (9, (V.ptr 2 0 2)), (10, (V.sl 0 8 (List.map enc_T_api_Type a0.fTypes)))], [(2, ⟨false, 4, [(enc_T_api_Base a0)]⟩)], 14⟩) rfl rfl rfl) ?_
    refine Eq.trans (reg_pure (x := some ()) (w := fun _ => (V.int .i64 (a0.fTypes.length : Int))) rfl rfl rfl rfl (p_len (e := enc_T_api_Type) rfl rfl rfl rfl rfl rfl Go.Proofs.Try.underlying22)) ?_
    refine Eq.trans some_bind ?_
    exact bind_end rfl
  · rw [hc]
    exact reg_end rfl
theorem ref11_isType_ok (k : Nat) (a0 : T_api_Base) (a1 : Int) : evF prog anns ext k 61 [(enc_T_api_Base a0), (V.int .i64 a1)] = (ref11_isType k a0 a1).map ref11_isType_fin := by
  cases k with
  | zero => rfl
  | succ k =>
    unfold ref11_isType
    refine Eq.trans (evF_succ (c := ref11_isType_c) (N := 14) (regs := ref11_isType_an) rfl Go.Proofs.Try.func61 rfl (by decide) rfl rfl rfl) ?_
    refine Eq.trans (k_region0 rfl (ref11_isType_r0 k a0 a1)) ?_
    refine Eq.trans (k_region rfl (ref11_isType_r1 k a0 a1)) ?_
    refine bindE (fun o1 => ?_)
    refine Eq.trans k_lret ?_
    rfl
def ref11_asked_fin : Int → V × List V := fun r => ((V.int .i64 r), [])
theorem ref11_asked_r0 (k : Nat) (a0 : T_api_Base) (a1 : (List Int)) : regionE prog (evF prog anns ext k) ref11_asked_a0 ref11_asked_o0 false ⟨[(0, (enc_T_api_Base a0)), (1, (V.sl 0 1 (List.map (V.int .i64) a1)))], [], 22⟩ = some ⟨[(1, (V.sl 0 1 (List.map (V.int .i64) a1))), (2, (V.ptr 2 0 0))], [(2, ⟨false, 4, [(enc_T_api_Base a0)]⟩)], 22⟩ := by
  refine Eq.trans regionE_reg ?_
  exact reg_end rfl
theorem ref11_asked_r1 (k : Nat) (a0 : T_api_Base) (a1 : (List Int)) : regionE prog (evF prog anns ext k) ref11_asked_a1 ref11_asked_o1 false ⟨[(1, (V.sl 0 1 (List.map (V.int .i64) a1))), (2, (V.ptr 2 0 0))], [(2, ⟨false, 4, [(enc_T_api_Base a0)]⟩)], 22⟩ = (((ref11_Valid k a0).bind fun v1 => (some ((!v1))))).map (fun (o : Bool) => (⟨[(1, (V.sl 0 1 (List.map (V.int .i64) a1))), (2, (V.ptr 2 0 0)), (8, (V.bool o))], [(2, ⟨false, 4, [(enc_T_api_Base a0)]⟩)], 22⟩ : St)) := by
  refine Eq.trans regionE_reg ?_
  refine Eq.trans (reg_adv (m := 1) (j := 1) (st' := ⟨[(1, (V.sl 0 1 (List.map (V.int .i64) a1))), (2, (V.ptr 2 0 0)), (6, (enc_T_api_Base a0))], [(2, ⟨false, 4, [(enc_T_api_Base a0)]⟩)], 22⟩) rfl rfl rfl) ?_
  refine Eq.trans (reg_pure (x := (ref11_Valid k a0)) (w := fun v1 => (V.bool v1)) rfl rfl rfl rfl (p_call rfl rfl rfl rfl rfl (ref11_Valid_ok k a0) (.inl rfl))) ?_
  refine bindE (fun v1 => ?_)
  exact bind_end rfl
theorem ref11_asked_r2 (k : Nat) (a0 : T_api_Base) (a1 : (List Int)) : regionE prog (evF prog anns ext k) ref11_asked_a2 ref11_asked_o2 false ⟨[(1, (V.sl 0 1 (List.map (V.int .i64) a1))), (2, (V.ptr 2 0 0)), (8, (V.bool true))], [(2, ⟨false, 4, [(enc_T_api_Base a0)]⟩)], 22⟩ = some ⟨[(4, (V.int .i64 100))], [], 22⟩ := by
  refine Eq.trans regionE_reg ?_
  exact reg_end rfl
theorem ref11_asked_r3 (k : Nat) (a0 : T_api_Base) (a1 : (List Int)) : regionE prog (evF prog anns ext k) ref11_asked_a3 ref11_asked_o3 false ⟨[(1, (V.sl 0 1 (List.map (V.int .i64) a1))), (2, (V.ptr 2 0 0)), (8, (V.bool false))], [(2, ⟨false, 4, [(enc_T_api_Base a0)]⟩)], 22⟩ = some ⟨[(1, (V.sl 0 1 (List.map (V.int .i64) a1))), (2, (V.ptr 2 0 0)), (5, (V.int .i64 0))], [(2, ⟨false, 4, [(enc_T_api_Base a0)]⟩)], 22⟩ := by
  refine Eq.trans regionE_reg ?_
  exact reg_end rfl
theorem ref11_asked_r4 (k : Nat) (a0 : T_api_Base) (a1 : (List Int)) (x6 : Int) : regionE prog (evF prog anns ext k) ref11_asked_a4 ref11_asked_o4 false ⟨[(1, (V.sl 0 1 (List.map (V.int .i64) a1))), (2, (V.ptr 2 0 0)), (5, (V.int .i64 x6))], [(2, ⟨false, 4, [(enc_T_api_Base a0)]⟩)], 22⟩ = some ⟨[(1, (V.sl 0 1 (List.map (V.int .i64) a1))), (2, (V.ptr 2 0 0)), (5, (V.int .i64 x6)), (12, (V.bool (decide (x6 < (a1.length : Int)))))], [(2, ⟨false, 4, [(enc_T_api_Base a0)]⟩)], 22⟩ := by
  refine Eq.trans regionE_reg ?_
  refine Eq.trans (reg_adv (m := 2) (j := 2) (st' := ⟨[(1, (V.sl 0 1 (List.map (V.int .i64) a1))), (2, (V.ptr 2 0 0)), (5, (V.int .i64 x6)), (9, (V.int .i64 x6)), (10, (V.sl 0 1 (List.map (V.int .i64) a1)))], [(2, ⟨false, 4, [(enc_T_api_Base a0)]⟩)], 22⟩) rfl rfl rfl) ?_
  refine Eq.trans (reg_pure (x := some ()) (w := fun _ => (V.int .i64 (a1.length : Int))) rfl rfl rfl rfl (p_len (e := (V.int .i64)) rfl rfl rfl rfl rfl rfl Go.Proofs.Try.underlying28)) ?_
  refine Eq.trans some_bind ?_
  exact bind_end rfl
theorem ref11_asked_r6 (k : Nat) (a0 : T_api_Base) (a1 : (List Int)) (x6 : Int) : regionE prog (evF prog anns ext k) ref11_asked_a6 ref11_asked_o6 true ⟨[(1, (V.sl 0 1 (List.map (V.int .i64) a1))), (2, (V.ptr 2 0 0)), (5, (V.int .i64 x6)), (12, (V.bool true))], [(2, ⟨false, 4, [(enc_T_api_Base a0)]⟩)], 22⟩ = (((idx a1 x6).bind fun v7 => ((ref11_isType k a0 v7).bind fun v8 => (some ((!v8)))))).map (fun (o : Bool) => (⟨[(1, (V.sl 0 1 (List.map (V.int .i64) a1))), (2, (V.ptr 2 0 0)), (5, (V.int .i64 x6)), (21, (V.bool o))], [(2, ⟨false, 4, [(enc_T_api_Base a0)]⟩)], 22⟩ : St)) := by
  refine Eq.trans (regionE_regp (p := 7) (t := [(1, (V.sl 0 1 (List.map (V.int .i64) a1))), (2, (V.ptr 2 0 0)), (5, (V.int .i64 x6)), (12, (V.bool true))]) (σ := [(2, ⟨false, 4, [(enc_T_api_Base a0)]⟩)]) (n := 22) (by decide) (by decide) rfl) ?_
  refine Eq.trans (regp_adv (m := 3) (j := 3) (t' := [(1, (V.sl 0 1 (List.map (V.int .i64) a1))), (2, (V.ptr 2 0 0)), (5, (V.int .i64 x6)), (12, (V.bool true)), (15, (enc_T_api_Base a0)), (16, (V.sl 0 1 (List.map (V.int .i64) a1))), (17, (V.int .i64 x6))]) rfl rfl rfl) ?_
  refine Eq.trans (regp_pure (x := (idx a1 x6)) (w := fun v7 => (V.pro (V.int .i64 v7))) rfl rfl rfl rfl rfl (p_index (e := (V.int .i64)) rfl rfl rfl Go.Proofs.Try.underlying28 rfl (by decide))) ?_
  refine bindE (fun v7 => ?_)
  refine Eq.trans (putp_adv (m := 1) (j := 5) (t' := [(1, (V.sl 0 1 (List.map (V.int .i64) a1))), (2, (V.ptr 2 0 0)), (5, (V.int .i64 x6)), (12, (V.bool true)), (15, (enc_T_api_Base a0)), (16, (V.sl 0 1 (List.map (V.int .i64) a1))), (17, (V.int .i64 x6)), (18, (V.pro (V.int .i64 v7))), (19, (V.int .i64 v7))]) rfl rfl rfl) ?_
  refine Eq.trans (regp_pure (x := (ref11_isType k a0 v7)) (w := fun v8 => (V.bool v8)) rfl rfl rfl rfl rfl (p_call rfl rfl rfl rfl rfl (ref11_isType_ok k a0 v7) (.inl rfl))) ?_
  refine bindE (fun v8 => ?_)
  exact regp_end rfl
theorem ref11_asked_r7 (k : Nat) (a0 : T_api_Base) (a1 : (List Int)) (x6 : Int) : regionE prog (evF prog anns ext k) ref11_asked_a7 ref11_asked_o7 false ⟨[(1, (V.sl 0 1 (List.map (V.int .i64) a1))), (2, (V.ptr 2 0 0)), (5, (V.int .i64 x6)), (21, (V.bool true))], [(2, ⟨false, 4, [(enc_T_api_Base a0)]⟩)], 22⟩ = some ⟨[(4, (V.int .i64 2))], [], 22⟩ := by
  refine Eq.trans regionE_reg ?_
  exact reg_end rfl
theorem ref11_asked_r5 (k : Nat) (a0 : T_api_Base) (a1 : (List Int)) (x6 : Int) : regionE prog (evF prog anns ext k) ref11_asked_a5 ref11_asked_o5 false ⟨[(1, (V.sl 0 1 (List.map (V.int .i64) a1))), (2, (V.ptr 2 0 0)), (5, (V.int .i64 x6)), (21, (V.bool false))], [(2, ⟨false, 4, [(enc_T_api_Base a0)]⟩)], 22⟩ = some ⟨[(1, (V.sl 0 1 (List.map (V.int .i64) a1))), (2, (V.ptr 2 0 0)), (5, (V.int .i64 (Go.IntKind.wrap .i64 (x6 + 1))))], [(2, ⟨false, 4, [(enc_T_api_Base a0)]⟩)], 22⟩ := by
  refine Eq.trans regionE_reg ?_
  exact reg_end rfl
theorem ref11_asked_L1_ok (k : Nat) (a0 : T_api_Base) (a1 : (List Int))  (K0 : Int → Option Int) (Kst : X × St → Option (V × List V)) (hK0 : ∀ (y0 : Int), Kst (X.exit 0, ⟨[(1, (V.sl 0 1 (List.map (V.int .i64) a1))), (2, (V.ptr 2 0 0)), (5, (V.int .i64 y0)), (12, (V.bool false))], [(2, ⟨false, 4, [(enc_T_api_Base a0)]⟩)], 22⟩) = (K0 y0).map ref11_asked_fin) (hret : ∀ s, Kst (X.ret, s) = endK prog 22 [(enc_T_api_Base a0), (V.sl 0 1 (List.map (V.int .i64) a1))] [] [.tmp 4] (X.ret, s)) :
    ∀ (m : Nat) (x6 : Int), (iter (exec prog (evF prog anns ext k) ref11_asked_an k ref11_asked_b0) m ⟨[(1, (V.sl 0 1 (List.map (V.int .i64) a1))), (2, (V.ptr 2 0 0)), (5, (V.int .i64 x6))], [(2, ⟨false, 4, [(enc_T_api_Base a0)]⟩)], 22⟩).bind Kst = (ref11_asked_L1 k a0 a1 K0 m x6).map ref11_asked_fin := by
  intro m
  induction m with
  | zero => intros; rfl
  | succ m ih =>
    intro x6
    unfold ref11_asked_L1
    refine Eq.trans k_round ?_
    refine Eq.trans k_assoc ?_
    refine Eq.trans (k_region0 rfl (ref11_asked_r4 k a0 a1 x6)) ?_
    refine Eq.trans (k_cond (t := (decide (x6 < (a1.length : Int)))) rfl) ?_
    refine bifE2 (fun hc => ?_) (fun hc => ?_)
    · rw [hc]
      refine Eq.trans k_skip ?_
      refine Eq.trans k_block ?_
      refine Eq.trans (k_region rfl (ref11_asked_r6 k a0 a1 x6)) ?_
      refine bindE (fun o9 => ?_)
      refine Eq.trans (k_lcond (t := o9) rfl) ?_
      refine bifE2 (fun hc => ?_) (fun hc => ?_)
      · rw [hc]
        refine Eq.trans (k_region0 rfl (ref11_asked_r7 k a0 a1 x6)) ?_
        refine Eq.trans k_lret ?_
        refine Eq.trans blk_ret ?_
        refine Eq.trans loop_ret ?_
        refine Eq.trans (hret _) ?_
        rfl
      · rw [hc]
        refine Eq.trans k_lskip ?_
        refine Eq.trans blk_normal ?_
        refine Eq.trans (k_lregion0 rfl (ref11_asked_r5 k a0 a1 x6)) ?_
        refine Eq.trans loop_normal ?_
        exact ih (Go.IntKind.wrap .i64 (x6 + 1))
    · rw [hc]
      refine Eq.trans k_exit ?_
      refine Eq.trans loop_exit ?_
      exact hK0 x6
theorem ref11_asked_r8 (k : Nat) (a0 : T_api_Base) (a1 : (List Int)) (y10 : Int) : regionE prog (evF prog anns ext k) ref11_asked_a8 ref11_asked_o8 false ⟨[(1, (V.sl 0 1 (List.map (V.int .i64) a1))), (2, (V.ptr 2 0 0)), (5, (V.int .i64 y10)), (12, (V.bool false))], [(2, ⟨false, 4, [(enc_T_api_Base a0)]⟩)], 22⟩ = some ⟨[(4, (V.int .i64 0))], [], 22⟩ := by
  refine Eq.trans regionE_reg ?_
  exact reg_end rfl
theorem ref11_asked_ok (k : Nat) (a0 : T_api_Base) (a1 : (List Int)) : evF prog anns ext k 40 [(enc_T_api_Base a0), (V.sl 0 1 (List.map (V.int .i64) a1))] = (ref11_asked k a0 a1).map ref11_asked_fin := by
  cases k with
  | zero => rfl
  | succ k =>
    unfold ref11_asked
    refine Eq.trans (evF_succ (c := ref11_asked_c) (N := 22) (regs := ref11_asked_an) rfl Go.Proofs.Try.func40 rfl (by decide) rfl rfl rfl) ?_
    refine Eq.trans (k_region0 rfl (ref11_asked_r0 k a0 a1)) ?_
    refine Eq.trans k_assoc ?_
    refine Eq.trans (k_region rfl (ref11_asked_r1 k a0 a1)) ?_
    refine bindE (fun o2 => ?_)
    refine Eq.trans (k_cond (t := o2) rfl) ?_
    refine bifE2 (fun hc => ?_) (fun hc => ?_)
    · rw [hc]
      refine Eq.trans k_assoc ?_
      refine Eq.trans (k_region0 rfl (ref11_asked_r2 k a0 a1)) ?_
      refine Eq.trans k_ret ?_
      rfl
    · rw [hc]
      refine Eq.trans k_skip ?_
      refine Eq.trans k_assoc ?_
      refine Eq.trans (k_region0 rfl (ref11_asked_r3 k a0 a1)) ?_
      refine Eq.trans k_block ?_
      refine Eq.trans k_loop ?_
      refine ref11_asked_L1_ok k a0 a1 _ _ ?h_ref11_asked_L1_0 ?hr_ref11_asked_L1 k 0
      · intro y10
        refine Eq.trans blk_exit ?_
        refine Eq.trans (k_region0 rfl (ref11_asked_r8 k a0 a1 y10)) ?_
        refine Eq.trans k_lret ?_
        rfl
      · intro s; exact rfl
def ref11_Way_fin : ((List Int) × Int) → V × List V := fun r => (.tup [(V.sl 0 1 (List.map (V.int .i64) r.1)), (V.int .i64 r.2)], [])
theorem ref11_Way_r0 (k : Nat) (a0 : T_api_Base) (a1 : Int) : regionE prog (evF prog anns ext k) ref11_Way_a0 ref11_Way_o0 false ⟨[(0, (enc_T_api_Base a0)), (1, (V.int .i64 a1))], [], 17⟩ = some ⟨[(1, (V.int .i64 a1)), (2, (V.ptr 2 0 0))], [(2, ⟨false, 4, [(enc_T_api_Base a0)]⟩)], 17⟩ := by
  refine Eq.trans regionE_reg ?_
  exact reg_end rfl
theorem ref11_Way_r1 (k : Nat) (a0 : T_api_Base) (a1 : Int) : regionE prog (evF prog anns ext k) ref11_Way_a1 ref11_Way_o1 false ⟨[(1, (V.int .i64 a1)), (2, (V.ptr 2 0 0))], [(2, ⟨false, 4, [(enc_T_api_Base a0)]⟩)], 17⟩ = ((ref11_asked k a0 ([a1] : List Int))).map (fun (o : Int) => (⟨[(1, (V.int .i64 a1)), (2, (V.ptr 2 0 0)), (6, (V.int .i64 o))], [(2, ⟨false, 4, [(enc_T_api_Base a0)]⟩)], 17⟩ : St)) := by
  refine Eq.trans regionE_reg ?_
  refine Eq.trans (reg_adv (m := 3) (j := 3) (st' := ⟨[(1, (V.int .i64 a1)), (2, (V.ptr 2 0 0)), (7, (enc_T_api_Base a0)), (8, (V.int .i64 a1)), (9, (V.sl 0 1 (List.map (V.int .i64) ([a1] : List Int))))], [(2, ⟨false, 4, [(enc_T_api_Base a0)]⟩)], 17⟩) rfl rfl rfl) ?_
  refine Eq.trans (reg_pure (x := (ref11_asked k a0 ([a1] : List Int))) (w := fun v1 => (V.int .i64 v1)) rfl rfl rfl rfl (p_call rfl rfl rfl rfl rfl (ref11_asked_ok k a0 ([a1] : List Int)) (.inl rfl))) ?_
  refine bind_self (fun v1 => ?_)
  exact bind_end rfl
theorem ref11_Way_r2 (k : Nat) (a0 : T_api_Base) (a1 : Int) (o2 : Int) : regionE prog (evF prog anns ext k) ref11_Way_a2 ref11_Way_o2 false ⟨[(1, (V.int .i64 a1)), (2, (V.ptr 2 0 0)), (6, (V.int .i64 o2))], [(2, ⟨false, 4, [(enc_T_api_Base a0)]⟩)], 17⟩ = some ⟨[(1, (V.int .i64 a1)), (2, (V.ptr 2 0 0)), (6, (V.int .i64 o2)), (12, (V.bool (o2 != 0)))], [(2, ⟨false, 4, [(enc_T_api_Base a0)]⟩)], 17⟩ := by
  refine Eq.trans regionE_reg ?_
  exact reg_end rfl
theorem ref11_Way_r3 (k : Nat) (a0 : T_api_Base) (a1 : Int) (o2 : Int) : regionE prog (evF prog anns ext k) ref11_Way_a3 ref11_Way_o3 false ⟨[(1, (V.int .i64 a1)), (2, (V.ptr 2 0 0)), (6, (V.int .i64 o2)), (12, (V.bool true))], [(2, ⟨false, 4, [(enc_T_api_Base a0)]⟩)], 17⟩ = some ⟨[(4, (V.sl 0 1 (List.map (V.int .i64) ([] : List Int)))), (5, (V.int .i64 o2))], [], 17⟩ := by
  refine Eq.trans regionE_reg ?_
  exact reg_end rfl
theorem ref11_Way_r4 (k : Nat) (a0 : T_api_Base) (a1 : Int) (o2 : Int) : regionE prog (evF prog anns ext k) ref11_Way_a4 ref11_Way_o4 false ⟨[(1, (V.int .i64 a1)), (2, (V.ptr 2 0 0)), (6, (V.int .i64 o2)), (12, (V.bool false))], [(2, ⟨false, 4, [(enc_T_api_Base a0)]⟩)], 17⟩ = (((ref11_way k a0 a1).bind fun v3 => (some (v3, 0)))).map (fun (o : (List Int) × Int) => (⟨[(4, (V.sl 0 1 (List.map (V.int .i64) o.1))), (5, (V.int .i64 o.2))], [], 17⟩ : St)) := by
  refine Eq.trans regionE_reg ?_
  refine Eq.trans (reg_adv (m := 2) (j := 2) (st' := ⟨[(1, (V.int .i64 a1)), (2, (V.ptr 2 0 0)), (6, (V.int .i64 o2)), (12, (V.bool false)), (14, (enc_T_api_Base a0)), (15, (V.int .i64 a1))], [(2, ⟨false, 4, [(enc_T_api_Base a0)]⟩)], 17⟩) rfl rfl rfl) ?_
  refine Eq.trans (reg_pure (x := (ref11_way k a0 a1)) (w := fun v3 => (V.sl 0 1 (List.map (V.int .i64) v3))) rfl rfl rfl rfl (p_call rfl rfl rfl rfl rfl (ref11_way_ok k a0 a1) (.inl rfl))) ?_
  refine bindE (fun v3 => ?_)
  exact bind_end rfl
theorem ref11_Way_ok (k : Nat) (a0 : T_api_Base) (a1 : Int) : evF prog anns ext k 12 [(enc_T_api_Base a0), (V.int .i64 a1)] = (ref11_Way k a0 a1).map ref11_Way_fin := by
  cases k with
  | zero => rfl
  | succ k =>
    unfold ref11_Way
    refine Eq.trans (evF_succ (c := ref11_Way_c) (N := 17) (regs := ref11_Way_an) rfl Go.Proofs.Try.func12 rfl (by decide) rfl rfl rfl) ?_
    refine Eq.trans (k_region0 rfl (ref11_Way_r0 k a0 a1)) ?_
    refine Eq.trans k_assoc ?_
    refine Eq.trans (k_region rfl (ref11_Way_r1 k a0 a1)) ?_
    refine bindE (fun o2 => ?_)
    refine Eq.trans k_assoc ?_
    refine Eq.trans (k_region0 rfl (ref11_Way_r2 k a0 a1 o2)) ?_
    refine Eq.trans (k_cond (t := (o2 != 0)) rfl) ?_
    refine bifE2 (fun hc => ?_) (fun hc => ?_)
    · rw [hc]
      refine Eq.trans k_assoc ?_
      refine Eq.trans (k_region0 rfl (ref11_Way_r3 k a0 a1 o2)) ?_
      refine Eq.trans k_ret ?_
      rfl
    · rw [hc]
      refine Eq.trans k_skip ?_
      refine Eq.trans (k_region rfl (ref11_Way_r4 k a0 a1 o2)) ?_
      refine bindE (fun o4 => ?_)
      refine Eq.trans k_lret ?_
      rfl
def dbd_Depth_fin : (Int × Int) → V × List V := fun r => (.tup [(V.int .i64 r.1), (V.int .i64 r.2)], [])
theorem dbd_Depth_r0 (k : Nat) (a0 : T_api_Base) (a1 : Int) : regionE prog (evF prog anns ext k) dbd_Depth_a0 dbd_Depth_o0 false ⟨[(0, (enc_T_api_Base a0)), (1, (V.int .i64 a1))], [], 17⟩ = some ⟨[(1, (V.int .i64 a1)), (2, (V.ptr 2 0 0))], [(2, ⟨false, 4, [(enc_T_api_Base a0)]⟩)], 17⟩ := by
  refine Eq.trans regionE_reg ?_
  exact reg_end rfl
theorem dbd_Depth_r1 (k : Nat) (a0 : T_api_Base) (a1 : Int) : regionE prog (evF prog anns ext k) dbd_Depth_a1 dbd_Depth_o1 false ⟨[(1, (V.int .i64 a1)), (2, (V.ptr 2 0 0))], [(2, ⟨false, 4, [(enc_T_api_Base a0)]⟩)], 17⟩ = (((dbd_Way k a0 a1).bind fun v1 => (some (v1.1, v1.2)))).map (fun (o : (List Int) × Int) => (⟨[(6, (V.sl 0 1 (List.map (V.int .i64) o.1))), (7, (V.int .i64 o.2))], [], 17⟩ : St)) := by
  refine Eq.trans regionE_reg ?_
  refine Eq.trans (reg_adv (m := 2) (j := 2) (st' := ⟨[(1, (V.int .i64 a1)), (2, (V.ptr 2 0 0)), (9, (enc_T_api_Base a0)), (10, (V.int .i64 a1))], [(2, ⟨false, 4, [(enc_T_api_Base a0)]⟩)], 17⟩) rfl rfl rfl) ?_
  refine Eq.trans (reg_pure (x := (dbd_Way k a0 a1)) (w := fun v1 => (V.tup [(V.sl 0 1 (List.map (V.int .i64) v1.1)), (V.int .i64 v1.2)])) rfl rfl rfl rfl (p_call rfl rfl rfl rfl rfl (dbd_Way_ok k a0 a1) (.inl rfl))) ?_
  refine bindE (fun v1 => ?_)
  exact bind_end rfl
theorem dbd_Depth_r2 (k : Nat) (o2 : (List Int) × Int) : regionE prog (evF prog anns ext k) dbd_Depth_a2 dbd_Depth_o2 false ⟨[(6, (V.sl 0 1 (List.map (V.int .i64) o2.1))), (7, (V.int .i64 o2.2))], [], 17⟩ = some ⟨[(4, (V.int .i64 (o2.1.length : Int))), (5, (V.int .i64 o2.2))], [], 17⟩ := by
  refine Eq.trans regionE_reg ?_
  refine Eq.trans (reg_adv (m := 1) (j := 1) (st' := ⟨[(6, (V.sl 0 1 (List.map (V.int .i64) o2.1))), (7, (V.int .i64 o2.2)), (14, (V.sl 0 1 (List.map (V.int .i64) o2.1)))], [], 17⟩) rfl rfl rfl) ?_
  refine Eq.trans (reg_pure (x := some ()) (w := fun _ => (V.int .i64 (o2.1.length : Int))) rfl rfl rfl rfl (p_len (e := (V.int .i64)) rfl rfl rfl rfl rfl rfl Go.Proofs.Try.underlying28)) ?_
  refine Eq.trans some_bind ?_
  exact bind_end rfl
theorem dbd_Depth_ok (k : Nat) (a0 : T_api_Base) (a1 : Int) : evF prog anns ext k 14 [(enc_T_api_Base a0), (V.int .i64 a1)] = (dbd_Depth k a0 a1).map dbd_Depth_fin := by
  cases k with
  | zero => rfl
  | succ k =>
    unfold dbd_Depth
    refine Eq.trans (evF_succ (c := dbd_Depth_c) (N := 17) (regs := dbd_Depth_an) rfl Go.Proofs.Try.func14 rfl (by decide) rfl rfl rfl) ?_
    refine Eq.trans (k_region0 rfl (dbd_Depth_r0 k a0 a1)) ?_
    refine Eq.trans (k_region rfl (dbd_Depth_r1 k a0 a1)) ?_
    refine bindE (fun o2 => ?_)
    refine Eq.trans (k_region0 rfl (dbd_Depth_r2 k o2)) ?_
    refine Eq.trans k_lret ?_
    rfl
def ref11_Depth_fin : (Int × Int) → V × List V := fun r => (.tup [(V.int .i64 r.1), (V.int .i64 r.2)], [])
theorem ref11_Depth_r0 (k : Nat) (a0 : T_api_Base) (a1 : Int) : regionE prog (evF prog anns ext k) ref11_Depth_a0 ref11_Depth_o0 false ⟨[(0, (enc_T_api_Base a0)), (1, (V.int .i64 a1))], [], 17⟩ = some ⟨[(1, (V.int .i64 a1)), (2, (V.ptr 2 0 0))], [(2, ⟨false, 4, [(enc_T_api_Base a0)]⟩)], 17⟩ := by
  refine Eq.trans regionE_reg ?_
  exact reg_end rfl
theorem ref11_Depth_r1 (k : Nat) (a0 : T_api_Base) (a1 : Int) : regionE prog (evF prog anns ext k) ref11_Depth_a1 ref11_Depth_o1 false ⟨[(1, (V.int .i64 a1)), (2, (V.ptr 2 0 0))], [(2, ⟨false, 4, [(enc_T_api_Base a0)]⟩)], 17⟩ = (((ref11_Way k a0 a1).bind fun v1 => (some (v1.1, v1.2)))).map (fun (o : (List Int) × Int) => (⟨[(6, (V.sl 0 1 (List.map (V.int .i64) o.1))), (7, (V.int .i64 o.2))], [], 17⟩ : St)) := by
  refine Eq.trans regionE_reg ?_
  refine Eq.trans (reg_adv (m := 2) (j := 2) (st' := ⟨[(1, (V.int .i64 a1)), (2, (V.ptr 2 0 0)), (9, (enc_T_api_Base a0)), (10, (V.int .i64 a1))], [(2, ⟨false, 4, [(enc_T_api_Base a0)]⟩)], 17⟩) rfl rfl rfl) ?_
  refine Eq.trans (reg_pure (x := (ref11_Way k a0 a1)) (w := fun v1 => (V.tup [(V.sl 0 1 (List.map (V.int .i64) v1.1)), (V.int .i64 v1.2)])) rfl rfl rfl rfl (p_call rfl rfl rfl rfl rfl (ref11_Way_ok k a0 a1) (.inl rfl))) ?_
  refine bindE (fun v1 => ?_)
  exact bind_end rfl
theorem ref11_Depth_r2 (k : Nat) (o2 : (List Int) × Int) : regionE prog (evF prog anns ext k) ref11_Depth_a2 ref11_Depth_o2 false ⟨[(6, (V.sl 0 1 (List.map (V.int .i64) o2.1))), (7, (V.int .i64 o2.2))], [], 17⟩ = some ⟨[(4, (V.int .i64 (o2.1.length : Int))), (5, (V.int .i64 o2.2))], [], 17⟩ := by
  refine Eq.trans regionE_reg ?_
  refine Eq.trans (reg_adv (m := 1) (j := 1) (st' := ⟨[(6, (V.sl 0 1 (List.map (V.int .i64) o2.1))), (7, (V.int .i64 o2.2)), (14, (V.sl 0 1 (List.map (V.int .i64) o2.1)))], [], 17⟩) rfl rfl rfl) ?_
  refine Eq.trans (reg_pure (x := some ()) (w := fun _ => (V.int .i64 (o2.1.length : Int))) rfl rfl rfl rfl (p_len (e := (V.int .i64)) rfl rfl rfl rfl rfl rfl Go.Proofs.Try.underlying28)) ?_
  refine Eq.trans some_bind ?_
  exact bind_end rfl
theorem ref11_Depth_ok (k : Nat) (a0 : T_api_Base) (a1 : Int) : evF prog anns ext k 15 [(enc_T_api_Base a0), (V.int .i64 a1)] = (ref11_Depth k a0 a1).map ref11_Depth_fin := by
  cases k with
  | zero => rfl
  | succ k =>
    unfold ref11_Depth
    refine Eq.trans (evF_succ (c := ref11_Depth_c) (N := 17) (regs := ref11_Depth_an) rfl Go.Proofs.Try.func15 rfl (by decide) rfl rfl rfl) ?_
    refine Eq.trans (k_region0 rfl (ref11_Depth_r0 k a0 a1)) ?_
    refine Eq.trans (k_region rfl (ref11_Depth_r1 k a0 a1)) ?_
    refine bindE (fun o2 => ?_)
    refine Eq.trans (k_region0 rfl (ref11_Depth_r2 k o2)) ?_
    refine Eq.trans k_lret ?_
    rfl
def ref11_Children_fin : ((List Int) × Int) → V × List V := fun r => (.tup [(V.sl 0 1 (List.map (V.int .i64) r.1)), (V.int .i64 r.2)], [])
theorem ref11_Children_r0 (k : Nat) (a0 : T_api_Base) (a1 : Int) : regionE prog (evF prog anns ext k) ref11_Children_a0 ref11_Children_o0 false ⟨[(0, (enc_T_api_Base a0)), (1, (V.int .i64 a1))], [], 36⟩ = some ⟨[(1, (V.int .i64 a1)), (2, (V.ptr 2 0 0))], [(2, ⟨false, 4, [(enc_T_api_Base a0)]⟩)], 36⟩ := by
  refine Eq.trans regionE_reg ?_
  exact reg_end rfl
theorem ref11_Children_r1 (k : Nat) (a0 : T_api_Base) (a1 : Int) : regionE prog (evF prog anns ext k) ref11_Children_a1 ref11_Children_o1 false ⟨[(1, (V.int .i64 a1)), (2, (V.ptr 2 0 0))], [(2, ⟨false, 4, [(enc_T_api_Base a0)]⟩)], 36⟩ = ((ref11_asked k a0 ([a1] : List Int))).map (fun (o : Int) => (⟨[(1, (V.int .i64 a1)), (2, (V.ptr 2 0 0)), (6, (V.int .i64 o))], [(2, ⟨false, 4, [(enc_T_api_Base a0)]⟩)], 36⟩ : St)) := by
  refine Eq.trans regionE_reg ?_
  refine Eq.trans (reg_adv (m := 3) (j := 3) (st' := ⟨[(1, (V.int .i64 a1)), (2, (V.ptr 2 0 0)), (9, (enc_T_api_Base a0)), (10, (V.int .i64 a1)), (11, (V.sl 0 1 (List.map (V.int .i64) ([a1] : List Int))))], [(2, ⟨false, 4, [(enc_T_api_Base a0)]⟩)], 36⟩) rfl rfl rfl) ?_
  refine Eq.trans (reg_pure (x := (ref11_asked k a0 ([a1] : List Int))) (w := fun v1 => (V.int .i64 v1)) rfl rfl rfl rfl (p_call rfl rfl rfl rfl rfl (ref11_asked_ok k a0 ([a1] : List Int)) (.inl rfl))) ?_
  refine bind_self (fun v1 => ?_)
  exact bind_end rfl
theorem ref11_Children_r2 (k : Nat) (a0 : T_api_Base) (a1 : Int) (o2 : Int) : regionE prog (evF prog anns ext k) ref11_Children_a2 ref11_Children_o2 false ⟨[(1, (V.int .i64 a1)), (2, (V.ptr 2 0 0)), (6, (V.int .i64 o2))], [(2, ⟨false, 4, [(enc_T_api_Base a0)]⟩)], 36⟩ = some ⟨[(1, (V.int .i64 a1)), (2, (V.ptr 2 0 0)), (6, (V.int .i64 o2)), (14, (V.bool (o2 != 0)))], [(2, ⟨false, 4, [(enc_T_api_Base a0)]⟩)], 36⟩ := by
  refine Eq.trans regionE_reg ?_
  exact reg_end rfl
theorem ref11_Children_r3 (k : Nat) (a0 : T_api_Base) (a1 : Int) (o2 : Int) : regionE prog (evF prog anns ext k) ref11_Children_a3 ref11_Children_o3 false ⟨[(1, (V.int .i64 a1)), (2, (V.ptr 2 0 0)), (6, (V.int .i64 o2)), (14, (V.bool true))], [(2, ⟨false, 4, [(enc_T_api_Base a0)]⟩)], 36⟩ = some ⟨[(4, (V.sl 0 1 (List.map (V.int .i64) ([] : List Int)))), (5, (V.int .i64 o2))], [], 36⟩ := by
  refine Eq.trans regionE_reg ?_
  exact reg_end rfl
theorem ref11_Children_r4 (k : Nat) (a0 : T_api_Base) (a1 : Int) (o2 : Int) : regionE prog (evF prog anns ext k) ref11_Children_a4 ref11_Children_o4 false ⟨[(1, (V.int .i64 a1)), (2, (V.ptr 2 0 0)), (6, (V.int .i64 o2)), (14, (V.bool false))], [(2, ⟨false, 4, [(enc_T_api_Base a0)]⟩)], 36⟩ = some ⟨[(1, (V.int .i64 a1)), (2, (V.ptr 2 0 0)), (7, (V.sl 1 1 (List.map (V.int .i64) ([] : List Int))))], [(2, ⟨false, 4, [(enc_T_api_Base a0)]⟩)], 36⟩ := by
  refine Eq.trans regionE_reg ?_
  exact reg_end rfl
theorem ref11_Children_r5 (k : Nat) (a0 : T_api_Base) (a1 : Int) : regionE prog (evF prog anns ext k) ref11_Children_a5 ref11_Children_o5 false ⟨[(1, (V.int .i64 a1)), (2, (V.ptr 2 0 0)), (7, (V.sl 1 1 (List.map (V.int .i64) ([] : List Int))))], [(2, ⟨false, 4, [(enc_T_api_Base a0)]⟩)], 36⟩ = some ⟨[(1, (V.int .i64 a1)), (2, (V.ptr 2 0 0)), (7, (V.sl 1 1 (List.map (V.int .i64) ([] : List Int)))), (8, (V.int .i64 0))], [(2, ⟨false, 4, [(enc_T_api_Base a0)]⟩)], 36⟩ := by
  refine Eq.trans regionE_reg ?_
  exact reg_end rfl
theorem ref11_Children_r6 (k : Nat) (a0 : T_api_Base) (a1 : Int) (x7 : (List Int)) (x8 : Int) : regionE prog (evF prog anns ext k) ref11_Children_a6 ref11_Children_o6 false ⟨[(1, (V.int .i64 a1)), (2, (V.ptr 2 0 0)), (7, (V.sl 1 1 (List.map (V.int .i64) x7))), (8, (V.int .i64 x8))], [(2, ⟨false, 4, [(enc_T_api_Base a0)]⟩)], 36⟩ = some ⟨[(1, (V.int .i64 a1)), (2, (V.ptr 2 0 0)), (7, (V.sl 1 1 (List.map (V.int .i64) x7))), (8, (V.int .i64 x8)), (20, (V.bool (decide (x8 < (a0.fTypes.length : Int)))))], [(2, ⟨false, 4, [(enc_T_api_Base a0)]⟩)], 36⟩ := by
  refine Eq.trans regionE_reg ?_
  refine Eq.trans (reg_adv (m := 3) (j := 3) (st' := ⟨[(1, (V.int .i64 a1)), (2, (V.ptr 2 0 0)), (7, (V.sl 1 1 (List.map (V.int .i64) x7))), (8, (V.int .i64 x8)), (16, (V.int .i64 x8)), (17, (V.ptr 2 0 2)), (18, (V.sl 0 8 (List.map enc_T_api_Type a0.fTypes)))], [(2, ⟨false, 4, [(enc_T_api_Base a0)]⟩)], 36⟩) rfl rfl rfl) ?_
  refine Eq.trans (reg_pure (x := some ()) (w := fun _ => (V.int .i64 (a0.fTypes.length : Int))) rfl rfl rfl rfl (p_len (e := enc_T_api_Type) rfl rfl rfl rfl rfl rfl Go.Proofs.Try.underlying22)) ?_
  refine Eq.trans some_bind ?_
  exact bind_end rfl
theorem ref11_Children_r8 (k : Nat) (a0 : T_api_Base) (a1 : Int) (x7 : (List Int)) (x8 : Int) : regionE prog (evF prog anns ext k) ref11_Children_a8 ref11_Children_o8 false ⟨[(1, (V.int .i64 a1)), (2, (V.ptr 2 0 0)), (7, (V.sl 1 1 (List.map (V.int .i64) x7))), (8, (V.int .i64 x8)), (20, (V.bool true))], [(2, ⟨false, 4, [(enc_T_api_Base a0)]⟩)], 36⟩ = (((idx a0.fTypes x8).bind fun v9 => (some ((v9.fParent == a1))))).map (fun (o : Bool) => (⟨[(1, (V.int .i64 a1)), (2, (V.ptr 2 0 0)), (7, (V.sl 1 1 (List.map (V.int .i64) x7))), (8, (V.int .i64 x8)), (30, (V.bool o))], [(2, ⟨false, 4, [(enc_T_api_Base a0)]⟩)], 36⟩ : St)) := by
  refine Eq.trans regionE_reg ?_
  refine Eq.trans (reg_adv (m := 3) (j := 3) (st' := ⟨[(1, (V.int .i64 a1)), (2, (V.ptr 2 0 0)), (7, (V.sl 1 1 (List.map (V.int .i64) x7))), (8, (V.int .i64 x8)), (20, (V.bool true)), (23, (V.ptr 2 0 2)), (24, (V.sl 0 8 (List.map enc_T_api_Type a0.fTypes))), (25, (V.int .i64 x8))], [(2, ⟨false, 4, [(enc_T_api_Base a0)]⟩)], 36⟩) rfl rfl rfl) ?_
  refine Eq.trans (reg_pure (x := (idx a0.fTypes x8)) (w := fun v9 => (V.pro (enc_T_api_Type v9))) rfl rfl rfl rfl (p_index (e := enc_T_api_Type) rfl rfl rfl Go.Proofs.Try.underlying22 rfl (by decide))) ?_
  refine bindE (fun v9 => ?_)
  exact bind_end rfl
theorem ref11_Children_r9 (k : Nat) (a0 : T_api_Base) (a1 : Int) (x7 : (List Int)) (x8 : Int) : regionE prog (evF prog anns ext k) ref11_Children_a9 ref11_Children_o9 false ⟨[(1, (V.int .i64 a1)), (2, (V.ptr 2 0 0)), (7, (V.sl 1 1 (List.map (V.int .i64) x7))), (8, (V.int .i64 x8)), (30, (V.bool true))], [(2, ⟨false, 4, [(enc_T_api_Base a0)]⟩)], 36⟩ = ((app x7 ([x8] : List Int))).map (fun (o : (List Int)) => (⟨[(1, (V.int .i64 a1)), (2, (V.ptr 2 0 0)), (7, (V.sl 1 1 (List.map (V.int .i64) o))), (8, (V.int .i64 x8))], [(2, ⟨false, 4, [(enc_T_api_Base a0)]⟩)], 36⟩ : St)) := by
  refine Eq.trans regionE_reg ?_
  refine Eq.trans (reg_adv (m := 3) (j := 3) (st' := ⟨[(1, (V.int .i64 a1)), (2, (V.ptr 2 0 0)), (7, (V.sl 0 1 (List.map (V.int .i64) x7))), (8, (V.int .i64 x8)), (30, (V.bool true)), (31, (V.sl 1 1 (List.map (V.int .i64) x7))), (32, (V.int .i64 x8)), (33, (V.sl 0 1 (List.map (V.int .i64) ([x8] : List Int))))], [(2, ⟨false, 4, [(enc_T_api_Base a0)]⟩)], 36⟩) rfl rfl rfl) ?_
  refine Eq.trans (reg_eff (x := (app x7 ([x8] : List Int))) (w := fun v11 => ((V.sl 1 1 (List.map (V.int .i64) v11)), _)) rfl rfl rfl rfl (p_app (e := (V.int .i64)) rfl rfl rfl rfl rfl rfl rfl rfl rfl rfl (by decide))) ?_
  refine bind_self (fun v11 => ?_)
  exact bind_end rfl
theorem ref11_Children_r7 (k : Nat) (a0 : T_api_Base) (a1 : Int) (x8 : Int) (o12 : (List Int)) : regionE prog (evF prog anns ext k) ref11_Children_a7 ref11_Children_o7 false ⟨[(1, (V.int .i64 a1)), (2, (V.ptr 2 0 0)), (7, (V.sl 1 1 (List.map (V.int .i64) o12))), (8, (V.int .i64 x8))], [(2, ⟨false, 4, [(enc_T_api_Base a0)]⟩)], 36⟩ = some ⟨[(1, (V.int .i64 a1)), (2, (V.ptr 2 0 0)), (7, (V.sl 1 1 (List.map (V.int .i64) o12))), (8, (V.int .i64 (Go.IntKind.wrap .i64 (x8 + 1))))], [(2, ⟨false, 4, [(enc_T_api_Base a0)]⟩)], 36⟩ := by
  refine Eq.trans regionE_reg ?_
  exact reg_end rfl
theorem ref11_Children_r7' (k : Nat) (a0 : T_api_Base) (a1 : Int) (x7 : (List Int)) (x8 : Int) : regionE prog (evF prog anns ext k) ref11_Children_a7 ref11_Children_o7 false ⟨[(1, (V.int .i64 a1)), (2, (V.ptr 2 0 0)), (7, (V.sl 1 1 (List.map (V.int .i64) x7))), (8, (V.int .i64 x8)), (30, (V.bool false))], [(2, ⟨false, 4, [(enc_T_api_Base a0)]⟩)], 36⟩ = some ⟨[(1, (V.int .i64 a1)), (2, (V.ptr 2 0 0)), (7, (V.sl 1 1 (List.map (V.int .i64) x7))), (8, (V.int .i64 (Go.IntKind.wrap .i64 (x8 + 1))))], [(2, ⟨false, 4, [(enc_T_api_Base a0)]⟩)], 36⟩ := by
  refine Eq.trans regionE_reg ?_
  exact reg_end rfl
theorem ref11_Children_L1_ok (k : Nat) (a0 : T_api_Base) (a1 : Int)  (K0 : (List Int) → Int → Option ((List Int) × Int)) (Kst : X × St → Option (V × List V)) (hK0 : ∀ (y0 : (List Int)) (y1 : Int), Kst (X.exit 0, ⟨[(1, (V.int .i64 a1)), (2, (V.ptr 2 0 0)), (7, (V.sl 1 1 (List.map (V.int .i64) y0))), (8, (V.int .i64 y1)), (20, (V.bool false))], [(2, ⟨false, 4, [(enc_T_api_Base a0)]⟩)], 36⟩) = (K0 y0 y1).map ref11_Children_fin) (hret : ∀ s, Kst (X.ret, s) = endK prog 36 [(enc_T_api_Base a0), (V.int .i64 a1)] [] [.tmp 4, .tmp 5] (X.ret, s)) :
    ∀ (m : Nat) (x7 : (List Int)) (x8 : Int), (iter (exec prog (evF prog anns ext k) ref11_Children_an k ref11_Children_b0) m ⟨[(1, (V.int .i64 a1)), (2, (V.ptr 2 0 0)), (7, (V.sl 1 1 (List.map (V.int .i64) x7))), (8, (V.int .i64 x8))], [(2, ⟨false, 4, [(enc_T_api_Base a0)]⟩)], 36⟩).bind Kst = (ref11_Children_L1 a0 a1 K0 m x7 x8).map ref11_Children_fin := by
  intro m
  induction m with
  | zero => intros; rfl
  | succ m ih =>
    intro x7 x8
    unfold ref11_Children_L1
    refine Eq.trans k_round ?_
    refine Eq.trans k_assoc ?_
    refine Eq.trans (k_region0 rfl (ref11_Children_r6 k a0 a1 x7 x8)) ?_
    refine Eq.trans (k_cond (t := (decide (x8 < (a0.fTypes.length : Int)))) rfl) ?_
    refine bifE2 (fun hc => ?_) (fun hc => ?_)
    · rw [hc]
      refine Eq.trans k_skip ?_
      refine Eq.trans k_block ?_
      refine Eq.trans (k_region rfl (ref11_Children_r8 k a0 a1 x7 x8)) ?_
      refine bindE (fun o10 => ?_)
      refine Eq.trans (k_lcond (t := o10) rfl) ?_
      refine bifE2 (fun hc => ?_) (fun hc => ?_)
      · rw [hc]
        refine Eq.trans (k_lregion rfl (ref11_Children_r9 k a0 a1 x7 x8)) ?_
        refine bindE (fun o12 => ?_)
        refine Eq.trans blk_normal ?_
        refine Eq.trans (k_lregion0 rfl (ref11_Children_r7 k a0 a1 x8 o12)) ?_
        refine Eq.trans loop_normal ?_
        exact ih o12 (Go.IntKind.wrap .i64 (x8 + 1))
      · rw [hc]
        refine Eq.trans k_lskip ?_
        refine Eq.trans blk_normal ?_
        refine Eq.trans (k_lregion0 rfl (ref11_Children_r7' k a0 a1 x7 x8)) ?_
        refine Eq.trans loop_normal ?_
        exact ih x7 (Go.IntKind.wrap .i64 (x8 + 1))
    · rw [hc]
      refine Eq.trans k_exit ?_
      refine Eq.trans loop_exit ?_
      exact hK0 x7 x8
theorem ref11_Children_r10 (k : Nat) (a0 : T_api_Base) (a1 : Int) (y13 : (List Int)) (y14 : Int) : regionE prog (evF prog anns ext k) ref11_Children_a10 ref11_Children_o10 false ⟨[(1, (V.int .i64 a1)), (2, (V.ptr 2 0 0)), (7, (V.sl 1 1 (List.map (V.int .i64) y13))), (8, (V.int .i64 y14)), (20, (V.bool false))], [(2, ⟨false, 4, [(enc_T_api_Base a0)]⟩)], 36⟩ = some ⟨[(4, (V.sl 0 1 (List.map (V.int .i64) y13))), (5, (V.int .i64 0))], [], 36⟩ := by
  refine Eq.trans regionE_reg ?_
  exact reg_end rfl
theorem ref11_Children_ok (k : Nat) (a0 : T_api_Base) (a1 : Int) : evF prog anns ext k 17 [(enc_T_api_Base a0), (V.int .i64 a1)] = (ref11_Children k a0 a1).map ref11_Children_fin := by
  cases k with
  | zero => rfl
  | succ k =>
    unfold ref11_Children
    refine Eq.trans (evF_succ (c := ref11_Children_c) (N := 36) (regs := ref11_Children_an) rfl Go.Proofs.Try.func17 rfl (by decide) rfl rfl rfl) ?_
    refine Eq.trans (k_region0 rfl (ref11_Children_r0 k a0 a1)) ?_
    refine Eq.trans k_assoc ?_
    refine Eq.trans (k_region rfl (ref11_Children_r1 k a0 a1)) ?_
    refine bindE (fun o2 => ?_)
    refine Eq.trans k_assoc ?_
    refine Eq.trans (k_region0 rfl (ref11_Children_r2 k a0 a1 o2)) ?_
    refine Eq.trans (k_cond (t := (o2 != 0)) rfl) ?_
    refine bifE2 (fun hc => ?_) (fun hc => ?_)
    · rw [hc]
      refine Eq.trans k_assoc ?_
      refine Eq.trans (k_region0 rfl (ref11_Children_r3 k a0 a1 o2)) ?_
      refine Eq.trans k_ret ?_
      rfl
    · rw [hc]
      refine Eq.trans k_skip ?_
      refine Eq.trans (k_region0 rfl (ref11_Children_r4 k a0 a1 o2)) ?_
      refine Eq.trans k_assoc ?_
      refine Eq.trans (k_region0 rfl (ref11_Children_r5 k a0 a1)) ?_
      refine Eq.trans k_block ?_
      refine Eq.trans k_loop ?_
      refine ref11_Children_L1_ok k a0 a1 _ _ ?h_ref11_Children_L1_0 ?hr_ref11_Children_L1 k ([] : List Int) 0
      · intro y13 y14
        refine Eq.trans blk_exit ?_
        refine Eq.trans (k_region0 rfl (ref11_Children_r10 k a0 a1 y13 y14)) ?_
        refine Eq.trans k_lret ?_
        rfl
      · intro s; exact rfl
def slices_Contains_int_fin : Bool → V × List V := fun r => ((V.bool r), [])
theorem slices_Contains_int_r0 (k : Nat) (a0 : (List Int)) (a1 : Int) : regionE prog (evF prog anns ext k) slices_Contains_int_a0 slices_Contains_int_o0 false ⟨[(0, (V.sl 0 1 (List.map (V.int .i64) a0))), (1, (V.int .i64 a1))], [], 9⟩ = some ⟨[(0, (V.sl 0 1 (List.map (V.int .i64) a0))), (1, (V.int .i64 a1))], [], 9⟩ := by
  refine Eq.trans regionE_reg ?_
  exact reg_end rfl
theorem slices_Contains_int_r1 (k : Nat) (a0 : (List Int)) (a1 : Int) : regionE prog (evF prog anns ext k) slices_Contains_int_a1 slices_Contains_int_o1 false ⟨[(0, (V.sl 0 1 (List.map (V.int .i64) a0))), (1, (V.int .i64 a1))], [], 9⟩ = (((slices_Index_int k a0 a1).bind fun v1 => (some ((decide (v1 ≥ 0)))))).map (fun (o : Bool) => (⟨[(4, (V.bool o))], [], 9⟩ : St)) := by
  refine Eq.trans regionE_reg ?_
  refine Eq.trans (reg_adv (m := 2) (j := 2) (st' := ⟨[(0, (V.sl 0 1 (List.map (V.int .i64) a0))), (1, (V.int .i64 a1)), (5, (V.sl 0 1 (List.map (V.int .i64) a0))), (6, (V.int .i64 a1))], [], 9⟩) rfl rfl rfl) ?_
  refine Eq.trans (reg_pure (x := (slices_Index_int k a0 a1)) (w := fun v1 => (V.int .i64 v1)) rfl rfl rfl rfl (p_call rfl rfl rfl rfl rfl (slices_Index_int_ok k a0 a1) (.inl rfl))) ?_
  refine bindE (fun v1 => ?_)
  exact bind_end rfl
theorem slices_Contains_int_ok (k : Nat) (a0 : (List Int)) (a1 : Int) : evF prog anns ext k 42 [(V.sl 0 1 (List.map (V.int .i64) a0)), (V.int .i64 a1)] = (slices_Contains_int k a0 a1).map slices_Contains_int_fin := by
  cases k with
  | zero => rfl
  | succ k =>
    unfold slices_Contains_int
    refine Eq.trans (evF_succ (c := slices_Contains_int_c) (N := 9) (regs := slices_Contains_int_an) rfl Go.Proofs.Try.func42 rfl (by decide) rfl rfl rfl) ?_
    refine Eq.trans (k_region0 rfl (slices_Contains_int_r0 k a0 a1)) ?_
    refine Eq.trans (k_region rfl (slices_Contains_int_r1 k a0 a1)) ?_
    refine bindE (fun o2 => ?_)
    refine Eq.trans k_lret ?_
    rfl
def dbd_IsAbove_fin : (Bool × Int) → V × List V := fun r => (.tup [(V.bool r.1), (V.int .i64 r.2)], [])
theorem dbd_IsAbove_r0 (k : Nat) (a0 : T_api_Base) (a1 : Int) (a2 : Int) : regionE prog (evF prog anns ext k) dbd_IsAbove_a0 dbd_IsAbove_o0 false ⟨[(0, (enc_T_api_Base a0)), (1, (V.int .i64 a1)), (2, (V.int .i64 a2))], [], 27⟩ = some ⟨[(1, (V.int .i64 a1)), (2, (V.int .i64 a2)), (3, (V.ptr 3 0 0))], [(3, ⟨false, 4, [(enc_T_api_Base a0)]⟩)], 27⟩ := by
  refine Eq.trans regionE_reg ?_
  exact reg_end rfl
theorem dbd_IsAbove_r1 (k : Nat) (a0 : T_api_Base) (a1 : Int) (a2 : Int) : regionE prog (evF prog anns ext k) dbd_IsAbove_a1 dbd_IsAbove_o1 false ⟨[(1, (V.int .i64 a1)), (2, (V.int .i64 a2)), (3, (V.ptr 3 0 0))], [(3, ⟨false, 4, [(enc_T_api_Base a0)]⟩)], 27⟩ = ((dbd_asked k a0 ([a1, a2] : List Int))).map (fun (o : Int) => (⟨[(1, (V.int .i64 a1)), (2, (V.int .i64 a2)), (3, (V.ptr 3 0 0)), (8, (V.int .i64 o))], [(3, ⟨false, 4, [(enc_T_api_Base a0)]⟩)], 27⟩ : St)) := by
  refine Eq.trans regionE_reg ?_
  refine Eq.trans (reg_adv (m := 4) (j := 4) (st' := ⟨[(1, (V.int .i64 a1)), (2, (V.int .i64 a2)), (3, (V.ptr 3 0 0)), (9, (enc_T_api_Base a0)), (10, (V.int .i64 a1)), (11, (V.int .i64 a2)), (12, (V.sl 0 1 (List.map (V.int .i64) ([a1, a2] : List Int))))], [(3, ⟨false, 4, [(enc_T_api_Base a0)]⟩)], 27⟩) rfl rfl rfl) ?_
  refine Eq.trans (reg_pure (x := (dbd_asked k a0 ([a1, a2] : List Int))) (w := fun v1 => (V.int .i64 v1)) rfl rfl rfl rfl (p_call rfl rfl rfl rfl rfl (dbd_asked_ok k a0 ([a1, a2] : List Int)) (.inl rfl))) ?_
  refine bind_self (fun v1 => ?_)
  exact bind_end rfl
theorem dbd_IsAbove_r2 (k : Nat) (a0 : T_api_Base) (a1 : Int) (a2 : Int) (o2 : Int) : regionE prog (evF prog anns ext k) dbd_IsAbove_a2 dbd_IsAbove_o2 false ⟨[(1, (V.int .i64 a1)), (2, (V.int .i64 a2)), (3, (V.ptr 3 0 0)), (8, (V.int .i64 o2))], [(3, ⟨false, 4, [(enc_T_api_Base a0)]⟩)], 27⟩ = some ⟨[(1, (V.int .i64 a1)), (2, (V.int .i64 a2)), (3, (V.ptr 3 0 0)), (8, (V.int .i64 o2)), (15, (V.bool (o2 != 0)))], [(3, ⟨false, 4, [(enc_T_api_Base a0)]⟩)], 27⟩ := by
  refine Eq.trans regionE_reg ?_
  exact reg_end rfl
theorem dbd_IsAbove_r3 (k : Nat) (a0 : T_api_Base) (a1 : Int) (a2 : Int) (o2 : Int) : regionE prog (evF prog anns ext k) dbd_IsAbove_a3 dbd_IsAbove_o3 false ⟨[(1, (V.int .i64 a1)), (2, (V.int .i64 a2)), (3, (V.ptr 3 0 0)), (8, (V.int .i64 o2)), (15, (V.bool true))], [(3, ⟨false, 4, [(enc_T_api_Base a0)]⟩)], 27⟩ = some ⟨[(6, (V.bool false)), (7, (V.int .i64 o2))], [], 27⟩ := by
  refine Eq.trans regionE_reg ?_
  exact reg_end rfl
theorem dbd_IsAbove_r4 (k : Nat) (a0 : T_api_Base) (a1 : Int) (a2 : Int) (o2 : Int) : regionE prog (evF prog anns ext k) dbd_IsAbove_a4 dbd_IsAbove_o4 false ⟨[(1, (V.int .i64 a1)), (2, (V.int .i64 a2)), (3, (V.ptr 3 0 0)), (8, (V.int .i64 o2)), (15, (V.bool false))], [(3, ⟨false, 4, [(enc_T_api_Base a0)]⟩)], 27⟩ = ((bif (a1 != a2) then ((dbd_way k a0 a2).bind fun v3 => ((slices_Contains_int k v3 a1).bind fun v4 => (some (v4, 0)))) else (some (false, 0)))).map (fun (o : Bool × Int) => (⟨[(6, (V.bool o.1)), (7, (V.int .i64 o.2))], [], 27⟩ : St)) := by
  refine Eq.trans regionE_reg ?_
  refine Eq.trans (reg_adv (m := 4) (j := 4) (st' := ⟨[(1, (V.int .i64 a1)), (2, (V.int .i64 a2)), (3, (V.ptr 3 0 0)), (8, (V.int .i64 o2)), (15, (V.bool false)), (17, (V.int .i64 a1)), (18, (V.int .i64 a2)), (19, (V.bool (a1 != a2))), (20, (V.bool (a1 != a2)))], [(3, ⟨false, 4, [(enc_T_api_Base a0)]⟩)], 27⟩) rfl rfl rfl) ?_
  refine bifE (c := (a1 != a2)) (fun hc => ?_) (fun hc => ?_)
  · rw [hc]
    refine Eq.trans (reg_adv (m := 2) (j := 6) (st' := ⟨[(1, (V.int .i64 a1)), (2, (V.int .i64 a2)), (3, (V.ptr 3 0 0)), (8, (V.int .i64 o2)), (15, (V.bool false)), (17, (V.int .i64 a1)), (18, (V.int .i64 a2)), (19, (V.bool true)), (20, (V.bool true)), (21, (enc_T_api_Base a0)), (22, (V.int .i64 a2))], [(3, ⟨false, 4, [(enc_T_api_Base a0)]⟩)], 27⟩) rfl rfl rfl) ?_
    refine Eq.trans (reg_pure (x := (dbd_way k a0 a2)) (w := fun v3 => (V.sl 0 1 (List.map (V.int .i64) v3))) rfl rfl rfl rfl (p_call rfl rfl rfl rfl rfl (dbd_way_ok k a0 a2) (.inl rfl))) ?_
    refine bindE (fun v3 => ?_)
    refine Eq.trans (bind_adv (m := 1) (j := 8) (st' := ⟨[(1, (V.int .i64 a1)), (2, (V.int .i64 a2)), (3, (V.ptr 3 0 0)), (8, (V.int .i64 o2)), (15, (V.bool false)), (17, (V.int .i64 a1)), (18, (V.int .i64 a2)), (19, (V.bool true)), (20, (V.bool true)), (21, (enc_T_api_Base a0)), (22, (V.int .i64 a2)), (23, (V.sl 0 1 (List.map (V.int .i64) v3))), (24, (V.int .i64 a1))], [(3, ⟨false, 4, [(enc_T_api_Base a0)]⟩)], 27⟩) rfl rfl rfl) ?_
    refine Eq.trans (reg_pure (x := (slices_Contains_int k v3 a1)) (w := fun v4 => (V.bool v4)) rfl rfl rfl rfl (p_call rfl rfl rfl rfl rfl (slices_Contains_int_ok k v3 a1) (.inl rfl))) ?_
    refine bindE (fun v4 => ?_)
    exact bind_end rfl
  · rw [hc]
    exact reg_end rfl
theorem dbd_IsAbove_ok (k : Nat) (a0 : T_api_Base) (a1 : Int) (a2 : Int) : evF prog anns ext k 18 [(enc_T_api_Base a0), (V.int .i64 a1), (V.int .i64 a2)] = (dbd_IsAbove k a0 a1 a2).map dbd_IsAbove_fin := by
  cases k with
  | zero => rfl
  | succ k =>
    unfold dbd_IsAbove
    refine Eq.trans (evF_succ (c := dbd_IsAbove_c) (N := 27) (regs := dbd_IsAbove_an) rfl Go.Proofs.Try.func18 rfl (by decide) rfl rfl rfl) ?_
    refine Eq.trans (k_region0 rfl (dbd_IsAbove_r0 k a0 a1 a2)) ?_
    refine Eq.trans k_assoc ?_
    refine Eq.trans (k_region rfl (dbd_IsAbove_r1 k a0 a1 a2)) ?_
    refine bindE (fun o2 => ?_)
    refine Eq.trans k_assoc ?_
    refine Eq.trans (k_region0 rfl (dbd_IsAbove_r2 k a0 a1 a2 o2)) ?_
    refine Eq.trans (k_cond (t := (o2 != 0)) rfl) ?_
    refine bifE2 (fun hc => ?_) (fun hc => ?_)
    · rw [hc]
      refine Eq.trans k_assoc ?_
      refine Eq.trans (k_region0 rfl (dbd_IsAbove_r3 k a0 a1 a2 o2)) ?_
      refine Eq.trans k_ret ?_
      rfl
    · rw [hc]
      refine Eq.trans k_skip ?_
      refine Eq.trans (k_region rfl (dbd_IsAbove_r4 k a0 a1 a2 o2)) ?_
      refine bindE (fun o5 => ?_)
      refine Eq.trans k_lret ?_
      rfl
def ref11_IsAbove_fin : (Bool × Int) → V × List V := fun r => (.tup [(V.bool r.1), (V.int .i64 r.2)], [])
theorem ref11_IsAbove_r0 (k : Nat) (a0 : T_api_Base) (a1 : Int) (a2 : Int) : regionE prog (evF prog anns ext k) ref11_IsAbove_a0 ref11_IsAbove_o0 false ⟨[(0, (enc_T_api_Base a0)), (1, (V.int .i64 a1)), (2, (V.int .i64 a2))], [], 21⟩ = some ⟨[(1, (V.int .i64 a1)), (2, (V.int .i64 a2)), (3, (V.ptr 3 0 0))], [(3, ⟨false, 4, [(enc_T_api_Base a0)]⟩)], 21⟩ := by
  refine Eq.trans regionE_reg ?_
  exact reg_end rfl
theorem ref11_IsAbove_r1 (k : Nat) (a0 : T_api_Base) (a1 : Int) (a2 : Int) : regionE prog (evF prog anns ext k) ref11_IsAbove_a1 ref11_IsAbove_o1 false ⟨[(1, (V.int .i64 a1)), (2, (V.int .i64 a2)), (3, (V.ptr 3 0 0))], [(3, ⟨false, 4, [(enc_T_api_Base a0)]⟩)], 21⟩ = ((ref11_asked k a0 ([a1, a2] : List Int))).map (fun (o : Int) => (⟨[(1, (V.int .i64 a1)), (2, (V.int .i64 a2)), (3, (V.ptr 3 0 0)), (8, (V.int .i64 o))], [(3, ⟨false, 4, [(enc_T_api_Base a0)]⟩)], 21⟩ : St)) := by
  refine Eq.trans regionE_reg ?_
  refine Eq.trans (reg_adv (m := 4) (j := 4) (st' := ⟨[(1, (V.int .i64 a1)), (2, (V.int .i64 a2)), (3, (V.ptr 3 0 0)), (9, (enc_T_api_Base a0)), (10, (V.int .i64 a1)), (11, (V.int .i64 a2)), (12, (V.sl 0 1 (List.map (V.int .i64) ([a1, a2] : List Int))))], [(3, ⟨false, 4, [(enc_T_api_Base a0)]⟩)], 21⟩) rfl rfl rfl) ?_
  refine Eq.trans (reg_pure (x := (ref11_asked k a0 ([a1, a2] : List Int))) (w := fun v1 => (V.int .i64 v1)) rfl rfl rfl rfl (p_call rfl rfl rfl rfl rfl (ref11_asked_ok k a0 ([a1, a2] : List Int)) (.inl rfl))) ?_
  refine bind_self (fun v1 => ?_)
  exact bind_end rfl
theorem ref11_IsAbove_r2 (k : Nat) (a0 : T_api_Base) (a1 : Int) (a2 : Int) (o2 : Int) : regionE prog (evF prog anns ext k) ref11_IsAbove_a2 ref11_IsAbove_o2 false ⟨[(1, (V.int .i64 a1)), (2, (V.int .i64 a2)), (3, (V.ptr 3 0 0)), (8, (V.int .i64 o2))], [(3, ⟨false, 4, [(enc_T_api_Base a0)]⟩)], 21⟩ = some ⟨[(1, (V.int .i64 a1)), (2, (V.int .i64 a2)), (3, (V.ptr 3 0 0)), (8, (V.int .i64 o2)), (15, (V.bool (o2 != 0)))], [(3, ⟨false, 4, [(enc_T_api_Base a0)]⟩)], 21⟩ := by
  refine Eq.trans regionE_reg ?_
  exact reg_end rfl
theorem ref11_IsAbove_r3 (k : Nat) (a0 : T_api_Base) (a1 : Int) (a2 : Int) (o2 : Int) : regionE prog (evF prog anns ext k) ref11_IsAbove_a3 ref11_IsAbove_o3 false ⟨[(1, (V.int .i64 a1)), (2, (V.int .i64 a2)), (3, (V.ptr 3 0 0)), (8, (V.int .i64 o2)), (15, (V.bool true))], [(3, ⟨false, 4, [(enc_T_api_Base a0)]⟩)], 21⟩ = some ⟨[(6, (V.bool false)), (7, (V.int .i64 o2))], [], 21⟩ := by
  refine Eq.trans regionE_reg ?_
  exact reg_end rfl
theorem ref11_IsAbove_r4 (k : Nat) (a0 : T_api_Base) (a1 : Int) (a2 : Int) (o2 : Int) : regionE prog (evF prog anns ext k) ref11_IsAbove_a4 ref11_IsAbove_o4 false ⟨[(1, (V.int .i64 a1)), (2, (V.int .i64 a2)), (3, (V.ptr 3 0 0)), (8, (V.int .i64 o2)), (15, (V.bool false))], [(3, ⟨false, 4, [(enc_T_api_Base a0)]⟩)], 21⟩ = (((ref11_above k a0 a1 a2).bind fun v3 => (some (v3, 0)))).map (fun (o : Bool × Int) => (⟨[(6, (V.bool o.1)), (7, (V.int .i64 o.2))], [], 21⟩ : St)) := by
  refine Eq.trans regionE_reg ?_
  refine Eq.trans (reg_adv (m := 3) (j := 3) (st' := ⟨[(1, (V.int .i64 a1)), (2, (V.int .i64 a2)), (3, (V.ptr 3 0 0)), (8, (V.int .i64 o2)), (15, (V.bool false)), (17, (enc_T_api_Base a0)), (18, (V.int .i64 a1)), (19, (V.int .i64 a2))], [(3, ⟨false, 4, [(enc_T_api_Base a0)]⟩)], 21⟩) rfl rfl rfl) ?_
  refine Eq.trans (reg_pure (x := (ref11_above k a0 a1 a2)) (w := fun v3 => (V.bool v3)) rfl rfl rfl rfl (p_call rfl rfl rfl rfl rfl (ref11_above_ok k a0 a1 a2) (.inl rfl))) ?_
  refine bindE (fun v3 => ?_)
  exact bind_end rfl
theorem ref11_IsAbove_ok (k : Nat) (a0 : T_api_Base) (a1 : Int) (a2 : Int) : evF prog anns ext k 19 [(enc_T_api_Base a0), (V.int .i64 a1), (V.int .i64 a2)] = (ref11_IsAbove k a0 a1 a2).map ref11_IsAbove_fin := by
  cases k with
  | zero => rfl
  | succ k =>
    unfold ref11_IsAbove
    refine Eq.trans (evF_succ (c := ref11_IsAbove_c) (N := 21) (regs := ref11_IsAbove_an) rfl Go.Proofs.Try.func19 rfl (by decide) rfl rfl rfl) ?_
    refine Eq.trans (k_region0 rfl (ref11_IsAbove_r0 k a0 a1 a2)) ?_
    refine Eq.trans k_assoc ?_
    refine Eq.trans (k_region rfl (ref11_IsAbove_r1 k a0 a1 a2)) ?_
    refine bindE (fun o2 => ?_)
    refine Eq.trans k_assoc ?_
    refine Eq.trans (k_region0 rfl (ref11_IsAbove_r2 k a0 a1 a2 o2)) ?_
    refine Eq.trans (k_cond (t := (o2 != 0)) rfl) ?_
    refine bifE2 (fun hc => ?_) (fun hc => ?_)
    · rw [hc]
      refine Eq.trans k_assoc ?_
      refine Eq.trans (k_region0 rfl (ref11_IsAbove_r3 k a0 a1 a2 o2)) ?_
      refine Eq.trans k_ret ?_
      rfl
    · rw [hc]
      refine Eq.trans k_skip ?_
      refine Eq.trans (k_region rfl (ref11_IsAbove_r4 k a0 a1 a2 o2)) ?_
      refine bindE (fun o4 => ?_)
      refine Eq.trans k_lret ?_
      rfl
def law11_DbdWays_fin : Bool → V × List V := fun r => ((V.bool r), [])
theorem law11_DbdWays_r0 (k : Nat) (a0 : T_api_Base) (a1 : Int) (a2 : Int) : regionE prog (evF prog anns ext k) law11_DbdWays_a0 law11_DbdWays_o0 false ⟨[(0, (enc_T_api_Base a0)), (1, (V.int .i64 a1)), (2, (V.int .i64 a2))], [], 126⟩ = some ⟨[(1, (V.int .i64 a1)), (2, (V.int .i64 a2)), (3, (V.ptr 3 0 0))], [(3, ⟨false, 4, [(enc_T_api_Base a0)]⟩)], 126⟩ := by
  refine Eq.trans regionE_reg ?_
  exact reg_end rfl
theorem law11_DbdWays_r1 (k : Nat) (a0 : T_api_Base) (a1 : Int) (a2 : Int) : regionE prog (evF prog anns ext k) law11_DbdWays_a1 law11_DbdWays_o1 false ⟨[(1, (V.int .i64 a1)), (2, (V.int .i64 a2)), (3, (V.ptr 3 0 0))], [(3, ⟨false, 4, [(enc_T_api_Base a0)]⟩)], 126⟩ = (((law11_Small k a0).bind fun v1 => (some ((!v1))))).map (fun (o : Bool) => (⟨[(1, (V.int .i64 a1)), (2, (V.int .i64 a2)), (3, (V.ptr 3 0 0)), (17, (V.bool o))], [(3, ⟨false, 4, [(enc_T_api_Base a0)]⟩)], 126⟩ : St)) := by
  refine Eq.trans regionE_reg ?_
  refine Eq.trans (reg_adv (m := 1) (j := 1) (st' := ⟨[(1, (V.int .i64 a1)), (2, (V.int .i64 a2)), (3, (V.ptr 3 0 0)), (15, (enc_T_api_Base a0))], [(3, ⟨false, 4, [(enc_T_api_Base a0)]⟩)], 126⟩) rfl rfl rfl) ?_
  refine Eq.trans (reg_pure (x := (law11_Small k a0)) (w := fun v1 => (V.bool v1)) rfl rfl rfl rfl (p_call rfl rfl rfl rfl rfl (law11_Small_ok k a0) (.inl rfl))) ?_
  refine bindE (fun v1 => ?_)
  exact bind_end rfl
theorem law11_DbdWays_r2 (k : Nat) (a0 : T_api_Base) (a1 : Int) (a2 : Int) : regionE prog (evF prog anns ext k) law11_DbdWays_a2 law11_DbdWays_o2 false ⟨[(1, (V.int .i64 a1)), (2, (V.int .i64 a2)), (3, (V.ptr 3 0 0)), (17, (V.bool true))], [(3, ⟨false, 4, [(enc_T_api_Base a0)]⟩)], 126⟩ = ((law11_First k)).map (fun (o : Bool) => (⟨[(6, (V.bool o))], [], 126⟩ : St)) := by
  refine Eq.trans regionE_reg ?_
  refine Eq.trans (reg_pure (x := (law11_First k)) (w := fun v3 => (V.bool v3)) rfl rfl rfl rfl (p_call rfl rfl rfl rfl rfl (law11_First_ok k) (.inl rfl))) ?_
  refine bind_self (fun v3 => ?_)
  exact bind_end rfl
theorem law11_DbdWays_r3 (k : Nat) (a0 : T_api_Base) (a1 : Int) (a2 : Int) : regionE prog (evF prog anns ext k) law11_DbdWays_a3 law11_DbdWays_o3 false ⟨[(1, (V.int .i64 a1)), (2, (V.int .i64 a2)), (3, (V.ptr 3 0 0)), (17, (V.bool false))], [(3, ⟨false, 4, [(enc_T_api_Base a0)]⟩)], 126⟩ = (((dbd_Way k a0 a2).bind fun v5 => (some (v5.1, v5.2)))).map (fun (o : (List Int) × Int) => (⟨[(1, (V.int .i64 a1)), (2, (V.int .i64 a2)), (3, (V.ptr 3 0 0)), (7, (V.sl 0 1 (List.map (V.int .i64) o.1))), (8, (V.int .i64 o.2))], [(3, ⟨false, 4, [(enc_T_api_Base a0)]⟩)], 126⟩ : St)) := by
  refine Eq.trans regionE_reg ?_
  refine Eq.trans (reg_adv (m := 2) (j := 2) (st' := ⟨[(1, (V.int .i64 a1)), (2, (V.int .i64 a2)), (3, (V.ptr 3 0 0)), (17, (V.bool false)), (20, (enc_T_api_Base a0)), (21, (V.int .i64 a2))], [(3, ⟨false, 4, [(enc_T_api_Base a0)]⟩)], 126⟩) rfl rfl rfl) ?_
  refine Eq.trans (reg_pure (x := (dbd_Way k a0 a2)) (w := fun v5 => (V.tup [(V.sl 0 1 (List.map (V.int .i64) v5.1)), (V.int .i64 v5.2)])) rfl rfl rfl rfl (p_call rfl rfl rfl rfl rfl (dbd_Way_ok k a0 a2) (.inl rfl))) ?_
  refine bindE (fun v5 => ?_)
  exact bind_end rfl
theorem law11_DbdWays_r4 (k : Nat) (a0 : T_api_Base) (a1 : Int) (a2 : Int) (o6 : (List Int) × Int) : regionE prog (evF prog anns ext k) law11_DbdWays_a4 law11_DbdWays_o4 false ⟨[(1, (V.int .i64 a1)), (2, (V.int .i64 a2)), (3, (V.ptr 3 0 0)), (7, (V.sl 0 1 (List.map (V.int .i64) o6.1))), (8, (V.int .i64 o6.2))], [(3, ⟨false, 4, [(enc_T_api_Base a0)]⟩)], 126⟩ = (((ref11_Way k a0 a2).bind fun v7 => (some (v7.1, v7.2)))).map (fun (o : (List Int) × Int) => (⟨[(1, (V.int .i64 a1)), (2, (V.int .i64 a2)), (3, (V.ptr 3 0 0)), (7, (V.sl 0 1 (List.map (V.int .i64) o6.1))), (8, (V.int .i64 o6.2)), (9, (V.sl 0 1 (List.map (V.int .i64) o.1))), (10, (V.int .i64 o.2))], [(3, ⟨false, 4, [(enc_T_api_Base a0)]⟩)], 126⟩ : St)) := by
  refine Eq.trans regionE_reg ?_
  refine Eq.trans (reg_adv (m := 2) (j := 2) (st' := ⟨[(1, (V.int .i64 a1)), (2, (V.int .i64 a2)), (3, (V.ptr 3 0 0)), (7, (V.sl 0 1 (List.map (V.int .i64) o6.1))), (8, (V.int .i64 o6.2)), (26, (enc_T_api_Base a0)), (27, (V.int .i64 a2))], [(3, ⟨false, 4, [(enc_T_api_Base a0)]⟩)], 126⟩) rfl rfl rfl) ?_
  refine Eq.trans (reg_pure (x := (ref11_Way k a0 a2)) (w := fun v7 => (V.tup [(V.sl 0 1 (List.map (V.int .i64) v7.1)), (V.int .i64 v7.2)])) rfl rfl rfl rfl (p_call rfl rfl rfl rfl rfl (ref11_Way_ok k a0 a2) (.inl rfl))) ?_
  refine bindE (fun v7 => ?_)
  exact bind_end rfl
theorem law11_DbdWays_r5 (k : Nat) (a0 : T_api_Base) (a1 : Int) (a2 : Int) (o6 : (List Int) × Int) (o8 : (List Int) × Int) : regionE prog (evF prog anns ext k) law11_DbdWays_a5 law11_DbdWays_o5 false ⟨[(1, (V.int .i64 a1)), (2, (V.int .i64 a2)), (3, (V.ptr 3 0 0)), (7, (V.sl 0 1 (List.map (V.int .i64) o6.1))), (8, (V.int .i64 o6.2)), (9, (V.sl 0 1 (List.map (V.int .i64) o8.1))), (10, (V.int .i64 o8.2))], [(3, ⟨false, 4, [(enc_T_api_Base a0)]⟩)], 126⟩ = (((ref01_SameInts k o6.1 o8.1).bind fun v9 => (bif (!v9) then (some (true)) else (bif (o6.2 != o8.2) then (some (true)) else (bif (o6.2 == 0) then ((idx o6.1 (Go.IntKind.wrap .i64 ((o6.1.length : Int) - 1))).bind fun v10 => (some ((v10 != a2)))) else (some (false))))))).map (fun (o : Bool) => (⟨[(1, (V.int .i64 a1)), (2, (V.int .i64 a2)), (3, (V.ptr 3 0 0)), (7, (V.sl 0 1 (List.map (V.int .i64) o6.1))), (53, (V.bool o))], [(3, ⟨false, 4, [(enc_T_api_Base a0)]⟩)], 126⟩ : St)) := by
  refine Eq.trans regionE_reg ?_
  refine Eq.trans (reg_adv (m := 2) (j := 2) (st' := ⟨[(1, (V.int .i64 a1)), (2, (V.int .i64 a2)), (3, (V.ptr 3 0 0)), (7, (V.sl 0 1 (List.map (V.int .i64) o6.1))), (8, (V.int .i64 o6.2)), (9, (V.sl 0 1 (List.map (V.int .i64) o8.1))), (10, (V.int .i64 o8.2)), (31, (V.sl 0 1 (List.map (V.int .i64) o6.1))), (32, (V.sl 0 1 (List.map (V.int .i64) o8.1)))], [(3, ⟨false, 4, [(enc_T_api_Base a0)]⟩)], 126⟩) rfl rfl rfl) ?_
  refine Eq.trans (reg_pure (x := (ref01_SameInts k o6.1 o8.1)) (w := fun v9 => (V.bool v9)) rfl rfl rfl rfl (p_call rfl rfl rfl rfl rfl (ref01_SameInts_ok k o6.1 o8.1) (.inl rfl))) ?_
  refine bindE (fun v9 => ?_)
  refine Eq.trans (bind_adv (m := 2) (j := 5) (st' := ⟨[(1, (V.int .i64 a1)), (2, (V.int .i64 a2)), (3, (V.ptr 3 0 0)), (7, (V.sl 0 1 (List.map (V.int .i64) o6.1))), (8, (V.int .i64 o6.2)), (9, (V.sl 0 1 (List.map (V.int .i64) o8.1))), (10, (V.int .i64 o8.2)), (31, (V.sl 0 1 (List.map (V.int .i64) o6.1))), (32, (V.sl 0 1 (List.map (V.int .i64) o8.1))), (33, (V.bool v9)), (34, (V.bool (!v9))), (35, (V.bool (!v9)))], [(3, ⟨false, 4, [(enc_T_api_Base a0)]⟩)], 126⟩) rfl rfl rfl) ?_
  refine bifE (c := (!v9)) (fun hc => ?_) (fun hc => ?_)
  · rw [hc]
    exact reg_end rfl
  · rw [hc]
    refine Eq.trans (reg_adv (m := 5) (j := 10) (st' := ⟨[(1, (V.int .i64 a1)), (2, (V.int .i64 a2)), (3, (V.ptr 3 0 0)), (7, (V.sl 0 1 (List.map (V.int .i64) o6.1))), (8, (V.int .i64 o6.2)), (9, (V.sl 0 1 (List.map (V.int .i64) o8.1))), (10, (V.int .i64 o8.2)), (31, (V.sl 0 1 (List.map (V.int .i64) o6.1))), (32, (V.sl 0 1 (List.map (V.int .i64) o8.1))), (33, (V.bool v9)), (34, (V.bool false)), (35, (V.bool false)), (36, (V.int .i64 o6.2)), (37, (V.int .i64 o8.2)), (38, (V.bool (o6.2 != o8.2))), (39, (V.bool (o6.2 != o8.2))), (40, (V.bool (o6.2 != o8.2)))], [(3, ⟨false, 4, [(enc_T_api_Base a0)]⟩)], 126⟩) rfl rfl rfl) ?_
    refine bifE (c := (o6.2 != o8.2)) (fun hc => ?_) (fun hc => ?_)
    · rw [hc]
      exact reg_end rfl
    · rw [hc]
      refine Eq.trans (reg_adv (m := 3) (j := 13) (st' := ⟨[(1, (V.int .i64 a1)), (2, (V.int .i64 a2)), (3, (V.ptr 3 0 0)), (7, (V.sl 0 1 (List.map (V.int .i64) o6.1))), (8, (V.int .i64 o6.2)), (9, (V.sl 0 1 (List.map (V.int .i64) o8.1))), (10, (V.int .i64 o8.2)), (31, (V.sl 0 1 (List.map (V.int .i64) o6.1))), (32, (V.sl 0 1 (List.map (V.int .i64) o8.1))), (33, (V.bool v9)), (34, (V.bool false)), (35, (V.bool false)), (36, (V.int .i64 o6.2)), (37, (V.int .i64 o8.2)), (38, (V.bool false)), (39, (V.bool false)), (40, (V.bool false)), (41, (V.int .i64 o6.2)), (42, (V.bool (o6.2 == 0))), (43, (V.bool (o6.2 == 0)))], [(3, ⟨false, 4, [(enc_T_api_Base a0)]⟩)], 126⟩) rfl rfl rfl) ?_
      refine bifE (c := (o6.2 == 0)) (fun hc => ?_) (fun hc => ?_)
      · rw [hc]
        refine Eq.trans (reg_adv (m := 2) (j := 15) (st' := ⟨[(1, (V.int .i64 a1)), (2, (V.int .i64 a2)), (3, (V.ptr 3 0 0)), (7, (V.sl 0 1 (List.map (V.int .i64) o6.1))), (8, (V.int .i64 o6.2)), (9, (V.sl 0 1 (List.map (V.int .i64) o8.1))), (10, (V.int .i64 o8.2)), (31, (V.sl 0 1 (List.map (V.int .i64) o6.1))), (32, (V.sl 0 1 (List.map (V.int .i64) o8.1))), (33, (V.bool v9)), (34, (V.bool false)), (35, (V.bool false)), (36, (V.int .i64 o6.2)), (37, (V.int .i64 o8.2)), (38, (V.bool false)), (39, (V.bool false)), (40, (V.bool false)), (41, (V.int .i64 o6.2)), (42, (V.bool true)), (43, (V.bool true)), (44, (V.sl 0 1 (List.map (V.int .i64) o6.1))), (45, (V.sl 0 1 (List.map (V.int .i64) o6.1)))], [(3, ⟨false, 4, [(enc_T_api_Base a0)]⟩)], 126⟩) rfl rfl rfl) ?_
        refine Eq.trans (reg_pure (x := some ()) (w := fun _ => (V.int .i64 (o6.1.length : Int))) rfl rfl rfl rfl (p_len (e := (V.int .i64)) rfl rfl rfl rfl rfl rfl Go.Proofs.Try.underlying28)) ?_
        refine Eq.trans some_bind ?_
        refine Eq.trans (bind_adv (m := 1) (j := 17) (st' := ⟨[(1, (V.int .i64 a1)), (2, (V.int .i64 a2)), (3, (V.ptr 3 0 0)), (7, (V.sl 0 1 (List.map (V.int .i64) o6.1))), (8, (V.int .i64 o6.2)), (9, (V.sl 0 1 (List.map (V.int .i64) o8.1))), (10, (V.int .i64 o8.2)), (31, (V.sl 0 1 (List.map (V.int .i64) o6.1))), (32, (V.sl 0 1 (List.map (V.int .i64) o8.1))), (33, (V.bool v9)), (34, (V.bool false)), (35, (V.bool false)), (36, (V.int .i64 o6.2)), (37, (V.int .i64 o8.2)), (38, (V.bool false)), (39, (V.bool false)), (40, (V.bool false)), (41, (V.int .i64 o6.2)), (42, (V.bool true)), (43, (V.bool true)), (44, (V.sl 0 1 (List.map (V.int .i64) o6.1))), (45, (V.sl 0 1 (List.map (V.int .i64) o6.1))), (46, (V.int .i64 (o6.1.length : Int))), (47, (V.int .i64 (Go.IntKind.wrap .i64 ((o6.1.length : Int) - 1))))], [(3, ⟨false, 4, [(enc_T_api_Base a0)]⟩)], 126⟩) rfl rfl rfl) ?_
        refine Eq.trans (reg_pure (x := (idx o6.1 (Go.IntKind.wrap .i64 ((o6.1.length : Int) - 1)))) (w := fun v10 => (V.pro (V.int .i64 v10))) rfl rfl rfl rfl (p_index (e := (V.int .i64)) rfl rfl rfl Go.Proofs.Try.underlying28 rfl (by decide))) ?_
        refine bindE (fun v10 => ?_)
        exact bind_end rfl
      · rw [hc]
        exact reg_end rfl
theorem law11_DbdWays_r6 (k : Nat) (a0 : T_api_Base) (a1 : Int) (a2 : Int) (o6 : (List Int) × Int) : regionE prog (evF prog anns ext k) law11_DbdWays_a6 law11_DbdWays_o6 false ⟨[(1, (V.int .i64 a1)), (2, (V.int .i64 a2)), (3, (V.ptr 3 0 0)), (7, (V.sl 0 1 (List.map (V.int .i64) o6.1))), (53, (V.bool true))], [(3, ⟨false, 4, [(enc_T_api_Base a0)]⟩)], 126⟩ = some ⟨[(6, (V.bool false))], [], 126⟩ := by
  refine Eq.trans regionE_reg ?_
  exact reg_end rfl
theorem law11_DbdWays_r7 (k : Nat) (a0 : T_api_Base) (a1 : Int) (a2 : Int) (o6 : (List Int) × Int) : regionE prog (evF prog anns ext k) law11_DbdWays_a7 law11_DbdWays_o7 false ⟨[(1, (V.int .i64 a1)), (2, (V.int .i64 a2)), (3, (V.ptr 3 0 0)), (7, (V.sl 0 1 (List.map (V.int .i64) o6.1))), (53, (V.bool false))], [(3, ⟨false, 4, [(enc_T_api_Base a0)]⟩)], 126⟩ = (((dbd_Depth k a0 a2).bind fun v12 => (some (v12.2, v12.1)))).map (fun (o : Int × Int) => (⟨[(1, (V.int .i64 a1)), (2, (V.int .i64 a2)), (3, (V.ptr 3 0 0)), (7, (V.sl 0 1 (List.map (V.int .i64) o6.1))), (8, (V.int .i64 o.1)), (11, (V.int .i64 o.2))], [(3, ⟨false, 4, [(enc_T_api_Base a0)]⟩)], 126⟩ : St)) := by
  refine Eq.trans regionE_reg ?_
  refine Eq.trans (reg_adv (m := 2) (j := 2) (st' := ⟨[(1, (V.int .i64 a1)), (2, (V.int .i64 a2)), (3, (V.ptr 3 0 0)), (7, (V.sl 0 1 (List.map (V.int .i64) o6.1))), (53, (V.bool false)), (55, (enc_T_api_Base a0)), (56, (V.int .i64 a2))], [(3, ⟨false, 4, [(enc_T_api_Base a0)]⟩)], 126⟩) rfl rfl rfl) ?_
  refine Eq.trans (reg_pure (x := (dbd_Depth k a0 a2)) (w := fun v12 => (V.tup [(V.int .i64 v12.1), (V.int .i64 v12.2)])) rfl rfl rfl rfl (p_call rfl rfl rfl rfl rfl (dbd_Depth_ok k a0 a2) (.inl rfl))) ?_
  refine bindE (fun v12 => ?_)
  exact bind_end rfl
theorem law11_DbdWays_r8 (k : Nat) (a0 : T_api_Base) (a1 : Int) (a2 : Int) (o6 : (List Int) × Int) (o13 : Int × Int) : regionE prog (evF prog anns ext k) law11_DbdWays_a8 law11_DbdWays_o8 false ⟨[(1, (V.int .i64 a1)), (2, (V.int .i64 a2)), (3, (V.ptr 3 0 0)), (7, (V.sl 0 1 (List.map (V.int .i64) o6.1))), (8, (V.int .i64 o13.1)), (11, (V.int .i64 o13.2))], [(3, ⟨false, 4, [(enc_T_api_Base a0)]⟩)], 126⟩ = (((ref11_Depth k a0 a2).bind fun v14 => (some (v14.2, v14.1)))).map (fun (o : Int × Int) => (⟨[(1, (V.int .i64 a1)), (2, (V.int .i64 a2)), (3, (V.ptr 3 0 0)), (7, (V.sl 0 1 (List.map (V.int .i64) o6.1))), (8, (V.int .i64 o13.1)), (10, (V.int .i64 o.1)), (11, (V.int .i64 o13.2)), (12, (V.int .i64 o.2))], [(3, ⟨false, 4, [(enc_T_api_Base a0)]⟩)], 126⟩ : St)) := by
  refine Eq.trans regionE_reg ?_
  refine Eq.trans (reg_adv (m := 2) (j := 2) (st' := ⟨[(1, (V.int .i64 a1)), (2, (V.int .i64 a2)), (3, (V.ptr 3 0 0)), (7, (V.sl 0 1 (List.map (V.int .i64) o6.1))), (8, (V.int .i64 o13.1)), (11, (V.int .i64 o13.2)), (61, (enc_T_api_Base a0)), (62, (V.int .i64 a2))], [(3, ⟨false, 4, [(enc_T_api_Base a0)]⟩)], 126⟩) rfl rfl rfl) ?_
  refine Eq.trans (reg_pure (x := (ref11_Depth k a0 a2)) (w := fun v14 => (V.tup [(V.int .i64 v14.1), (V.int .i64 v14.2)])) rfl rfl rfl rfl (p_call rfl rfl rfl rfl rfl (ref11_Depth_ok k a0 a2) (.inl rfl))) ?_
  refine bindE (fun v14 => ?_)
  exact bind_end rfl
theorem law11_DbdWays_r9 (k : Nat) (a0 : T_api_Base) (a1 : Int) (a2 : Int) (o6 : (List Int) × Int) (o13 : Int × Int) (o15 : Int × Int) : regionE prog (evF prog anns ext k) law11_DbdWays_a9 law11_DbdWays_o9 false ⟨[(1, (V.int .i64 a1)), (2, (V.int .i64 a2)), (3, (V.ptr 3 0 0)), (7, (V.sl 0 1 (List.map (V.int .i64) o6.1))), (8, (V.int .i64 o13.1)), (10, (V.int .i64 o15.1)), (11, (V.int .i64 o13.2)), (12, (V.int .i64 o15.2))], [(3, ⟨false, 4, [(enc_T_api_Base a0)]⟩)], 126⟩ = ((bif (o13.2 != o15.2) then (some (true)) else (bif (o13.1 != o15.1) then (some (true)) else (some ((o13.2 != (o6.1.length : Int))))))).map (fun (o : Bool) => (⟨[(1, (V.int .i64 a1)), (2, (V.int .i64 a2)), (3, (V.ptr 3 0 0)), (79, (V.bool o))], [(3, ⟨false, 4, [(enc_T_api_Base a0)]⟩)], 126⟩ : St)) := by
  refine Eq.trans regionE_reg ?_
  refine Eq.trans (reg_adv (m := 4) (j := 4) (st' := ⟨[(1, (V.int .i64 a1)), (2, (V.int .i64 a2)), (3, (V.ptr 3 0 0)), (7, (V.sl 0 1 (List.map (V.int .i64) o6.1))), (8, (V.int .i64 o13.1)), (10, (V.int .i64 o15.1)), (11, (V.int .i64 o13.2)), (12, (V.int .i64 o15.2)), (66, (V.int .i64 o13.2)), (67, (V.int .i64 o15.2)), (68, (V.bool (o13.2 != o15.2))), (69, (V.bool (o13.2 != o15.2)))], [(3, ⟨false, 4, [(enc_T_api_Base a0)]⟩)], 126⟩) rfl rfl rfl) ?_
  refine bifE (c := (o13.2 != o15.2)) (fun hc => ?_) (fun hc => ?_)
  · rw [hc]
    exact reg_end rfl
  · rw [hc]
    refine Eq.trans (reg_adv (m := 5) (j := 9) (st' := ⟨[(1, (V.int .i64 a1)), (2, (V.int .i64 a2)), (3, (V.ptr 3 0 0)), (7, (V.sl 0 1 (List.map (V.int .i64) o6.1))), (8, (V.int .i64 o13.1)), (10, (V.int .i64 o15.1)), (11, (V.int .i64 o13.2)), (12, (V.int .i64 o15.2)), (66, (V.int .i64 o13.2)), (67, (V.int .i64 o15.2)), (68, (V.bool false)), (69, (V.bool false)), (70, (V.int .i64 o13.1)), (71, (V.int .i64 o15.1)), (72, (V.bool (o13.1 != o15.1))), (73, (V.bool (o13.1 != o15.1))), (74, (V.bool (o13.1 != o15.1)))], [(3, ⟨false, 4, [(enc_T_api_Base a0)]⟩)], 126⟩) rfl rfl rfl) ?_
    refine bifE (c := (o13.1 != o15.1)) (fun hc => ?_) (fun hc => ?_)
    · rw [hc]
      exact reg_end rfl
    · rw [hc]
      refine Eq.trans (reg_adv (m := 2) (j := 11) (st' := ⟨[(1, (V.int .i64 a1)), (2, (V.int .i64 a2)), (3, (V.ptr 3 0 0)), (7, (V.sl 0 1 (List.map (V.int .i64) o6.1))), (8, (V.int .i64 o13.1)), (10, (V.int .i64 o15.1)), (11, (V.int .i64 o13.2)), (12, (V.int .i64 o15.2)), (66, (V.int .i64 o13.2)), (67, (V.int .i64 o15.2)), (68, (V.bool false)), (69, (V.bool false)), (70, (V.int .i64 o13.1)), (71, (V.int .i64 o15.1)), (72, (V.bool false)), (73, (V.bool false)), (74, (V.bool false)), (75, (V.int .i64 o13.2)), (76, (V.sl 0 1 (List.map (V.int .i64) o6.1)))], [(3, ⟨false, 4, [(enc_T_api_Base a0)]⟩)], 126⟩) rfl rfl rfl) ?_
      refine Eq.trans (reg_pure (x := some ()) (w := fun _ => (V.int .i64 (o6.1.length : Int))) rfl rfl rfl rfl (p_len (e := (V.int .i64)) rfl rfl rfl rfl rfl rfl Go.Proofs.Try.underlying28)) ?_
      refine Eq.trans some_bind ?_
      exact bind_end rfl
theorem law11_DbdWays_r10 (k : Nat) (a0 : T_api_Base) (a1 : Int) (a2 : Int) : regionE prog (evF prog anns ext k) law11_DbdWays_a10 law11_DbdWays_o10 false ⟨[(1, (V.int .i64 a1)), (2, (V.int .i64 a2)), (3, (V.ptr 3 0 0)), (79, (V.bool true))], [(3, ⟨false, 4, [(enc_T_api_Base a0)]⟩)], 126⟩ = some ⟨[(6, (V.bool false))], [], 126⟩ := by
  refine Eq.trans regionE_reg ?_
  exact reg_end rfl
theorem law11_DbdWays_r11 (k : Nat) (a0 : T_api_Base) (a1 : Int) (a2 : Int) : regionE prog (evF prog anns ext k) law11_DbdWays_a11 law11_DbdWays_o11 false ⟨[(1, (V.int .i64 a1)), (2, (V.int .i64 a2)), (3, (V.ptr 3 0 0)), (79, (V.bool false))], [(3, ⟨false, 4, [(enc_T_api_Base a0)]⟩)], 126⟩ = (((dbd_Children k a0 a2).bind fun v17 => (some (v17.1, v17.2)))).map (fun (o : (List Int) × Int) => (⟨[(1, (V.int .i64 a1)), (2, (V.int .i64 a2)), (3, (V.ptr 3 0 0)), (7, (V.sl 0 1 (List.map (V.int .i64) o.1))), (8, (V.int .i64 o.2))], [(3, ⟨false, 4, [(enc_T_api_Base a0)]⟩)], 126⟩ : St)) := by
  refine Eq.trans regionE_reg ?_
  refine Eq.trans (reg_adv (m := 2) (j := 2) (st' := ⟨[(1, (V.int .i64 a1)), (2, (V.int .i64 a2)), (3, (V.ptr 3 0 0)), (79, (V.bool false)), (81, (enc_T_api_Base a0)), (82, (V.int .i64 a2))], [(3, ⟨false, 4, [(enc_T_api_Base a0)]⟩)], 126⟩) rfl rfl rfl) ?_
  refine Eq.trans (reg_pure (x := (dbd_Children k a0 a2)) (w := fun v17 => (V.tup [(V.sl 0 1 (List.map (V.int .i64) v17.1)), (V.int .i64 v17.2)])) rfl rfl rfl rfl (p_call rfl rfl rfl rfl rfl (dbd_Children_ok k a0 a2) (.inl rfl))) ?_
  refine bindE (fun v17 => ?_)
  exact bind_end rfl
theorem law11_DbdWays_r12 (k : Nat) (a0 : T_api_Base) (a1 : Int) (a2 : Int) (o18 : (List Int) × Int) : regionE prog (evF prog anns ext k) law11_DbdWays_a12 law11_DbdWays_o12 false ⟨[(1, (V.int .i64 a1)), (2, (V.int .i64 a2)), (3, (V.ptr 3 0 0)), (7, (V.sl 0 1 (List.map (V.int .i64) o18.1))), (8, (V.int .i64 o18.2))], [(3, ⟨false, 4, [(enc_T_api_Base a0)]⟩)], 126⟩ = (((ref11_Children k a0 a2).bind fun v19 => (some (v19.1, v19.2)))).map (fun (o : (List Int) × Int) => (⟨[(1, (V.int .i64 a1)), (2, (V.int .i64 a2)), (3, (V.ptr 3 0 0)), (7, (V.sl 0 1 (List.map (V.int .i64) o18.1))), (8, (V.int .i64 o18.2)), (9, (V.sl 0 1 (List.map (V.int .i64) o.1))), (10, (V.int .i64 o.2))], [(3, ⟨false, 4, [(enc_T_api_Base a0)]⟩)], 126⟩ : St)) := by
  refine Eq.trans regionE_reg ?_
  refine Eq.trans (reg_adv (m := 2) (j := 2) (st' := ⟨[(1, (V.int .i64 a1)), (2, (V.int .i64 a2)), (3, (V.ptr 3 0 0)), (7, (V.sl 0 1 (List.map (V.int .i64) o18.1))), (8, (V.int .i64 o18.2)), (87, (enc_T_api_Base a0)), (88, (V.int .i64 a2))], [(3, ⟨false, 4, [(enc_T_api_Base a0)]⟩)], 126⟩) rfl rfl rfl) ?_
  refine Eq.trans (reg_pure (x := (ref11_Children k a0 a2)) (w := fun v19 => (V.tup [(V.sl 0 1 (List.map (V.int .i64) v19.1)), (V.int .i64 v19.2)])) rfl rfl rfl rfl (p_call rfl rfl rfl rfl rfl (ref11_Children_ok k a0 a2) (.inl rfl))) ?_
  refine bindE (fun v19 => ?_)
  exact bind_end rfl
theorem law11_DbdWays_r13 (k : Nat) (a0 : T_api_Base) (a1 : Int) (a2 : Int) (o18 : (List Int) × Int) (o20 : (List Int) × Int) : regionE prog (evF prog anns ext k) law11_DbdWays_a13 law11_DbdWays_o13 false ⟨[(1, (V.int .i64 a1)), (2, (V.int .i64 a2)), (3, (V.ptr 3 0 0)), (7, (V.sl 0 1 (List.map (V.int .i64) o18.1))), (8, (V.int .i64 o18.2)), (9, (V.sl 0 1 (List.map (V.int .i64) o20.1))), (10, (V.int .i64 o20.2))], [(3, ⟨false, 4, [(enc_T_api_Base a0)]⟩)], 126⟩ = (((ref01_SameInts k o18.1 o20.1).bind fun v21 => (bif (!v21) then (some (true)) else (some ((o18.2 != o20.2)))))).map (fun (o : Bool) => (⟨[(1, (V.int .i64 a1)), (2, (V.int .i64 a2)), (3, (V.ptr 3 0 0)), (100, (V.bool o))], [(3, ⟨false, 4, [(enc_T_api_Base a0)]⟩)], 126⟩ : St)) := by
  refine Eq.trans regionE_reg ?_
  refine Eq.trans (reg_adv (m := 2) (j := 2) (st' := ⟨[(1, (V.int .i64 a1)), (2, (V.int .i64 a2)), (3, (V.ptr 3 0 0)), (7, (V.sl 0 1 (List.map (V.int .i64) o18.1))), (8, (V.int .i64 o18.2)), (9, (V.sl 0 1 (List.map (V.int .i64) o20.1))), (10, (V.int .i64 o20.2)), (92, (V.sl 0 1 (List.map (V.int .i64) o18.1))), (93, (V.sl 0 1 (List.map (V.int .i64) o20.1)))], [(3, ⟨false, 4, [(enc_T_api_Base a0)]⟩)], 126⟩) rfl rfl rfl) ?_
  refine Eq.trans (reg_pure (x := (ref01_SameInts k o18.1 o20.1)) (w := fun v21 => (V.bool v21)) rfl rfl rfl rfl (p_call rfl rfl rfl rfl rfl (ref01_SameInts_ok k o18.1 o20.1) (.inl rfl))) ?_
  refine bindE (fun v21 => ?_)
  refine Eq.trans (bind_adv (m := 2) (j := 5) (st' := ⟨[(1, (V.int .i64 a1)), (2, (V.int .i64 a2)), (3, (V.ptr 3 0 0)), (7, (V.sl 0 1 (List.map (V.int .i64) o18.1))), (8, (V.int .i64 o18.2)), (9, (V.sl 0 1 (List.map (V.int .i64) o20.1))), (10, (V.int .i64 o20.2)), (92, (V.sl 0 1 (List.map (V.int .i64) o18.1))), (93, (V.sl 0 1 (List.map (V.int .i64) o20.1))), (94, (V.bool v21)), (95, (V.bool (!v21))), (96, (V.bool (!v21)))], [(3, ⟨false, 4, [(enc_T_api_Base a0)]⟩)], 126⟩) rfl rfl rfl) ?_
  refine bifE (c := (!v21)) (fun hc => ?_) (fun hc => ?_)
  · rw [hc]
    exact reg_end rfl
  · rw [hc]
    exact reg_end rfl
theorem law11_DbdWays_r14 (k : Nat) (a0 : T_api_Base) (a1 : Int) (a2 : Int) : regionE prog (evF prog anns ext k) law11_DbdWays_a14 law11_DbdWays_o14 false ⟨[(1, (V.int .i64 a1)), (2, (V.int .i64 a2)), (3, (V.ptr 3 0 0)), (100, (V.bool true))], [(3, ⟨false, 4, [(enc_T_api_Base a0)]⟩)], 126⟩ = some ⟨[(6, (V.bool false))], [], 126⟩ := by
  refine Eq.trans regionE_reg ?_
  exact reg_end rfl
theorem law11_DbdWays_r15 (k : Nat) (a0 : T_api_Base) (a1 : Int) (a2 : Int) : regionE prog (evF prog anns ext k) law11_DbdWays_a15 law11_DbdWays_o15 false ⟨[(1, (V.int .i64 a1)), (2, (V.int .i64 a2)), (3, (V.ptr 3 0 0)), (100, (V.bool false))], [(3, ⟨false, 4, [(enc_T_api_Base a0)]⟩)], 126⟩ = (((dbd_IsAbove k a0 a1 a2).bind fun v23 => (some (v23.2, v23.1)))).map (fun (o : Int × Bool) => (⟨[(1, (V.int .i64 a1)), (2, (V.int .i64 a2)), (3, (V.ptr 3 0 0)), (8, (V.int .i64 o.1)), (13, (V.bool o.2))], [(3, ⟨false, 4, [(enc_T_api_Base a0)]⟩)], 126⟩ : St)) := by
  refine Eq.trans regionE_reg ?_
  refine Eq.trans (reg_adv (m := 3) (j := 3) (st' := ⟨[(1, (V.int .i64 a1)), (2, (V.int .i64 a2)), (3, (V.ptr 3 0 0)), (100, (V.bool false)), (102, (enc_T_api_Base a0)), (103, (V.int .i64 a1)), (104, (V.int .i64 a2))], [(3, ⟨false, 4, [(enc_T_api_Base a0)]⟩)], 126⟩) rfl rfl rfl) ?_
  refine Eq.trans (reg_pure (x := (dbd_IsAbove k a0 a1 a2)) (w := fun v23 => (V.tup [(V.bool v23.1), (V.int .i64 v23.2)])) rfl rfl rfl rfl (p_call rfl rfl rfl rfl rfl (dbd_IsAbove_ok k a0 a1 a2) (.inl rfl))) ?_
  refine bindE (fun v23 => ?_)
  exact bind_end rfl
theorem law11_DbdWays_r16 (k : Nat) (a0 : T_api_Base) (a1 : Int) (a2 : Int) (o24 : Int × Bool) : regionE prog (evF prog anns ext k) law11_DbdWays_a16 law11_DbdWays_o16 false ⟨[(1, (V.int .i64 a1)), (2, (V.int .i64 a2)), (3, (V.ptr 3 0 0)), (8, (V.int .i64 o24.1)), (13, (V.bool o24.2))], [(3, ⟨false, 4, [(enc_T_api_Base a0)]⟩)], 126⟩ = (((ref11_IsAbove k a0 a1 a2).bind fun v25 => (some (v25.2, v25.1)))).map (fun (o : Int × Bool) => (⟨[(8, (V.int .i64 o24.1)), (10, (V.int .i64 o.1)), (13, (V.bool o24.2)), (14, (V.bool o.2))], [], 126⟩ : St)) := by
  refine Eq.trans regionE_reg ?_
  refine Eq.trans (reg_adv (m := 3) (j := 3) (st' := ⟨[(1, (V.int .i64 a1)), (2, (V.int .i64 a2)), (3, (V.ptr 3 0 0)), (8, (V.int .i64 o24.1)), (13, (V.bool o24.2)), (109, (enc_T_api_Base a0)), (110, (V.int .i64 a1)), (111, (V.int .i64 a2))], [(3, ⟨false, 4, [(enc_T_api_Base a0)]⟩)], 126⟩) rfl rfl rfl) ?_
  refine Eq.trans (reg_pure (x := (ref11_IsAbove k a0 a1 a2)) (w := fun v25 => (V.tup [(V.bool v25.1), (V.int .i64 v25.2)])) rfl rfl rfl rfl (p_call rfl rfl rfl rfl rfl (ref11_IsAbove_ok k a0 a1 a2) (.inl rfl))) ?_
  refine bindE (fun v25 => ?_)
  exact bind_end rfl
theorem law11_DbdWays_r17 (k : Nat) (o24 : Int × Bool) (o26 : Int × Bool) : regionE prog (evF prog anns ext k) law11_DbdWays_a17 law11_DbdWays_o17 false ⟨[(8, (V.int .i64 o24.1)), (10, (V.int .i64 o26.1)), (13, (V.bool o24.2)), (14, (V.bool o26.2))], [], 126⟩ = ((bif (o24.2 == o26.2) then (bif (o24.1 == o26.1) then (law11_First k) else (some (false))) else (some (false)))).map (fun (o : Bool) => (⟨[(6, (V.bool o))], [], 126⟩ : St)) := by
  refine Eq.trans regionE_reg ?_
  refine Eq.trans (reg_adv (m := 4) (j := 4) (st' := ⟨[(8, (V.int .i64 o24.1)), (10, (V.int .i64 o26.1)), (13, (V.bool o24.2)), (14, (V.bool o26.2)), (115, (V.bool o24.2)), (116, (V.bool o26.2)), (117, (V.bool (o24.2 == o26.2))), (118, (V.bool (o24.2 == o26.2)))], [], 126⟩) rfl rfl rfl) ?_
  refine bifE (c := (o24.2 == o26.2)) (fun hc => ?_) (fun hc => ?_)
  · rw [hc]
    refine Eq.trans (reg_adv (m := 5) (j := 9) (st' := ⟨[(8, (V.int .i64 o24.1)), (10, (V.int .i64 o26.1)), (13, (V.bool o24.2)), (14, (V.bool o26.2)), (115, (V.bool o24.2)), (116, (V.bool o26.2)), (117, (V.bool true)), (118, (V.bool true)), (119, (V.int .i64 o24.1)), (120, (V.int .i64 o26.1)), (121, (V.bool (o24.1 == o26.1))), (122, (V.bool (o24.1 == o26.1))), (123, (V.bool (o24.1 == o26.1)))], [], 126⟩) rfl rfl rfl) ?_
    refine bifE (c := (o24.1 == o26.1)) (fun hc => ?_) (fun hc => ?_)
    · rw [hc]
      refine Eq.trans (reg_pure (x := (law11_First k)) (w := fun v27 => (V.bool v27)) rfl rfl rfl rfl (p_call rfl rfl rfl rfl rfl (law11_First_ok k) (.inl rfl))) ?_
      refine bind_self (fun v27 => ?_)
      exact bind_end rfl
    · rw [hc]
      exact reg_end rfl
  · rw [hc]
    exact reg_end rfl
theorem law11_DbdWays_ok (k : Nat) (a0 : T_api_Base) (a1 : Int) (a2 : Int) : evF prog anns ext k 3 [(enc_T_api_Base a0), (V.int .i64 a1), (V.int .i64 a2)] = (law11_DbdWays k a0 a1 a2).map law11_DbdWays_fin := by
  cases k with
  | zero => rfl
  | succ k =>
    unfold law11_DbdWays
    refine Eq.trans (evF_succ (c := law11_DbdWays_c) (N := 126) (regs := law11_DbdWays_an) rfl Go.Proofs.Try.func3 rfl (by decide) rfl rfl rfl) ?_
    refine Eq.trans (k_region0 rfl (law11_DbdWays_r0 k a0 a1 a2)) ?_
    refine Eq.trans k_assoc ?_
    refine Eq.trans (k_region rfl (law11_DbdWays_r1 k a0 a1 a2)) ?_
    refine bindE (fun o2 => ?_)
    refine Eq.trans (k_cond (t := o2) rfl) ?_
    refine bifE2 (fun hc => ?_) (fun hc => ?_)
    · rw [hc]
      refine Eq.trans k_assoc ?_
      refine Eq.trans (k_region rfl (law11_DbdWays_r2 k a0 a1 a2)) ?_
      refine bindE (fun o4 => ?_)
      refine Eq.trans k_ret ?_
      rfl
    · rw [hc]
      refine Eq.trans k_skip ?_
      refine Eq.trans (k_region rfl (law11_DbdWays_r3 k a0 a1 a2)) ?_
      refine bindE (fun o6 => ?_)
      refine Eq.trans (k_region rfl (law11_DbdWays_r4 k a0 a1 a2 o6)) ?_
      refine bindE (fun o8 => ?_)
      refine Eq.trans k_assoc ?_
      refine Eq.trans (k_region rfl (law11_DbdWays_r5 k a0 a1 a2 o6 o8)) ?_
      refine bindE (fun o11 => ?_)
      refine Eq.trans (k_cond (t := o11) rfl) ?_
      refine bifE2 (fun hc => ?_) (fun hc => ?_)
      · rw [hc]
        refine Eq.trans k_assoc ?_
        refine Eq.trans (k_region0 rfl (law11_DbdWays_r6 k a0 a1 a2 o6)) ?_
        refine Eq.trans k_ret ?_
        rfl
      · rw [hc]
        refine Eq.trans k_skip ?_
        refine Eq.trans (k_region rfl (law11_DbdWays_r7 k a0 a1 a2 o6)) ?_
        refine bindE (fun o13 => ?_)
        refine Eq.trans (k_region rfl (law11_DbdWays_r8 k a0 a1 a2 o6 o13)) ?_
        refine bindE (fun o15 => ?_)
        refine Eq.trans k_assoc ?_
        refine Eq.trans (k_region rfl (law11_DbdWays_r9 k a0 a1 a2 o6 o13 o15)) ?_
        refine bindE (fun o16 => ?_)
        refine Eq.trans (k_cond (t := o16) rfl) ?_
        refine bifE2 (fun hc => ?_) (fun hc => ?_)
        · rw [hc]
          refine Eq.trans k_assoc ?_
          refine Eq.trans (k_region0 rfl (law11_DbdWays_r10 k a0 a1 a2)) ?_
          refine Eq.trans k_ret ?_
          rfl
        · rw [hc]
          refine Eq.trans k_skip ?_
          refine Eq.trans (k_region rfl (law11_DbdWays_r11 k a0 a1 a2)) ?_
          refine bindE (fun o18 => ?_)
          refine Eq.trans (k_region rfl (law11_DbdWays_r12 k a0 a1 a2 o18)) ?_
          refine bindE (fun o20 => ?_)
          refine Eq.trans k_assoc ?_
          refine Eq.trans (k_region rfl (law11_DbdWays_r13 k a0 a1 a2 o18 o20)) ?_
          refine bindE (fun o22 => ?_)
          refine Eq.trans (k_cond (t := o22) rfl) ?_
          refine bifE2 (fun hc => ?_) (fun hc => ?_)
          · rw [hc]
            refine Eq.trans k_assoc ?_
            refine Eq.trans (k_region0 rfl (law11_DbdWays_r14 k a0 a1 a2)) ?_
            refine Eq.trans k_ret ?_
            rfl
          · rw [hc]
            refine Eq.trans k_skip ?_
            refine Eq.trans (k_region rfl (law11_DbdWays_r15 k a0 a1 a2)) ?_
            refine bindE (fun o24 => ?_)
            refine Eq.trans (k_region rfl (law11_DbdWays_r16 k a0 a1 a2 o24)) ?_
            refine bindE (fun o26 => ?_)
            refine Eq.trans (k_region rfl (law11_DbdWays_r17 k o24 o26)) ?_
            refine bindE (fun o28 => ?_)
            refine Eq.trans k_lret ?_
            rfl
def dbd_Type_1_fin : Bool → V × List V := fun r => ((V.bool r), [])
theorem dbd_Type_1_r0 (k : Nat) (a0 : T_api_Type) (a1 : Str) : regionE prog (evF prog anns ext k) dbd_Type_1_a0 dbd_Type_1_o0 false ⟨[(0, (enc_T_api_Type a0)), (1, (V.pro (V.str a1)))], [], 8⟩ = some ⟨[(1, (V.pro (V.str a1))), (2, (V.ptr 2 0 0))], [(2, ⟨false, 8, [(enc_T_api_Type a0)]⟩)], 8⟩ := by
  refine Eq.trans regionE_reg ?_
  exact reg_end rfl
theorem dbd_Type_1_r1 (k : Nat) (a0 : T_api_Type) (a1 : Str) : regionE prog (evF prog anns ext k) dbd_Type_1_a1 dbd_Type_1_o1 false ⟨[(1, (V.pro (V.str a1))), (2, (V.ptr 2 0 0))], [(2, ⟨false, 8, [(enc_T_api_Type a0)]⟩)], 8⟩ = some ⟨[(3, (V.bool (a0.fName == a1)))], [], 8⟩ := by
  refine Eq.trans regionE_reg ?_
  exact reg_end rfl
theorem dbd_Type_1_ok (k : Nat) (a0 : T_api_Type) (a1 : Str) : evF prog anns ext k 46 [(enc_T_api_Type a0), (V.pro (V.str a1))] = (dbd_Type_1 k a0 a1).map dbd_Type_1_fin := by
  cases k with
  | zero => rfl
  | succ k =>
    unfold dbd_Type_1
    refine Eq.trans (evF_succ (c := dbd_Type_1_c) (N := 8) (regs := dbd_Type_1_an) rfl Go.Proofs.Try.func46 rfl (by decide) rfl rfl rfl) ?_
    refine Eq.trans (k_region0 rfl (dbd_Type_1_r0 k a0 a1)) ?_
    refine Eq.trans (k_region0 rfl (dbd_Type_1_r1 k a0 a1)) ?_
    refine Eq.trans k_lret ?_
    rfl
def dbd_index_fin : (Int × Int) → V × List V := fun r => (.tup [(V.int .i64 r.1), (V.int .i64 r.2)], [])
theorem dbd_index_r0 (k : Nat) (a0 : Int) : regionE prog (evF prog anns ext k) dbd_index_a0 dbd_index_o0 false ⟨[(0, (V.int .i64 a0))], [], 7⟩ = some ⟨[(0, (V.int .i64 a0))], [], 7⟩ := by
  refine Eq.trans regionE_reg ?_
  exact reg_end rfl
theorem dbd_index_r1 (k : Nat) (a0 : Int) : regionE prog (evF prog anns ext k) dbd_index_a1 dbd_index_o1 false ⟨[(0, (V.int .i64 a0))], [], 7⟩ = some ⟨[(0, (V.int .i64 a0)), (5, (V.bool (decide (a0 < 0))))], [], 7⟩ := by
  refine Eq.trans regionE_reg ?_
  exact reg_end rfl
theorem dbd_index_r2 (k : Nat) (a0 : Int) : regionE prog (evF prog anns ext k) dbd_index_a2 dbd_index_o2 false ⟨[(0, (V.int .i64 a0)), (5, (V.bool true))], [], 7⟩ = some ⟨[(2, (V.int .i64 0)), (3, (V.int .i64 5))], [], 7⟩ := by
  refine Eq.trans regionE_reg ?_
  exact reg_end rfl
theorem dbd_index_r3 (k : Nat) (a0 : Int) : regionE prog (evF prog anns ext k) dbd_index_a3 dbd_index_o3 false ⟨[(0, (V.int .i64 a0)), (5, (V.bool false))], [], 7⟩ = some ⟨[(2, (V.int .i64 a0)), (3, (V.int .i64 0))], [], 7⟩ := by
  refine Eq.trans regionE_reg ?_
  exact reg_end rfl
theorem dbd_index_ok (k : Nat) (a0 : Int) : evF prog anns ext k 44 [(V.int .i64 a0)] = (dbd_index k a0).map dbd_index_fin := by
  cases k with
  | zero => rfl
  | succ k =>
    unfold dbd_index
    refine Eq.trans (evF_succ (c := dbd_index_c) (N := 7) (regs := dbd_index_an) rfl Go.Proofs.Try.func44 rfl (by decide) rfl rfl rfl) ?_
    refine Eq.trans (k_region0 rfl (dbd_index_r0 k a0)) ?_
    refine Eq.trans k_assoc ?_
    refine Eq.trans (k_region0 rfl (dbd_index_r1 k a0)) ?_
    refine Eq.trans (k_cond (t := (decide (a0 < 0))) rfl) ?_
    refine bifE2 (fun hc => ?_) (fun hc => ?_)
    · rw [hc]
      refine Eq.trans k_assoc ?_
      refine Eq.trans (k_region0 rfl (dbd_index_r2 k a0)) ?_
      refine Eq.trans k_ret ?_
      rfl
    · rw [hc]
      refine Eq.trans k_skip ?_
      refine Eq.trans (k_region0 rfl (dbd_index_r3 k a0)) ?_
      refine Eq.trans k_lret ?_
      rfl
def dbd_Type_fin : (Int × Int) → V × List V := fun r => (.tup [(V.int .i64 r.1), (V.int .i64 r.2)], [])
theorem dbd_Type_r0 (k : Nat) (a0 : T_api_Base) (a1 : Str) : regionE prog (evF prog anns ext k) dbd_Type_a0 dbd_Type_o0 false ⟨[(0, (enc_T_api_Base a0)), (1, (V.str a1))], [], 19⟩ = some ⟨[(2, (V.ptr 2 0 0)), (3, (V.ptr 3 0 0))], [(2, ⟨false, 4, [(enc_T_api_Base a0)]⟩), (3, ⟨false, 1, [(V.str a1)]⟩)], 19⟩ := by
  refine Eq.trans regionE_reg ?_
  exact reg_end rfl
theorem dbd_Type_r1 (k : Nat) (a0 : T_api_Base) (a1 : Str) : regionE prog (evF prog anns ext k) dbd_Type_a1 dbd_Type_o1 false ⟨[(2, (V.ptr 2 0 0)), (3, (V.ptr 3 0 0))], [(2, ⟨false, 4, [(enc_T_api_Base a0)]⟩), (3, ⟨false, 1, [(V.str a1)]⟩)], 19⟩ = ((dbd_asked k a0 ([] : List Int))).map (fun (o : Int) => (⟨[(2, (V.ptr 2 0 0)), (3, (V.ptr 3 0 0)), (6, (V.int .i64 o))], [(2, ⟨false, 4, [(enc_T_api_Base a0)]⟩), (3, ⟨false, 1, [(V.str a1)]⟩)], 19⟩ : St)) := by
  refine Eq.trans regionE_reg ?_
  refine Eq.trans (reg_adv (m := 1) (j := 1) (st' := ⟨[(2, (V.ptr 2 0 0)), (3, (V.ptr 3 0 0)), (7, (enc_T_api_Base a0))], [(2, ⟨false, 4, [(enc_T_api_Base a0)]⟩), (3, ⟨false, 1, [(V.str a1)]⟩)], 19⟩) rfl rfl rfl) ?_
  refine Eq.trans (reg_pure (x := (dbd_asked k a0 ([] : List Int))) (w := fun v1 => (V.int .i64 v1)) rfl rfl rfl rfl (p_call rfl rfl rfl rfl rfl (dbd_asked_ok k a0 ([] : List Int)) (.inl rfl))) ?_
  refine bind_self (fun v1 => ?_)
  exact bind_end rfl
theorem dbd_Type_r2 (k : Nat) (a0 : T_api_Base) (a1 : Str) (o2 : Int) : regionE prog (evF prog anns ext k) dbd_Type_a2 dbd_Type_o2 false ⟨[(2, (V.ptr 2 0 0)), (3, (V.ptr 3 0 0)), (6, (V.int .i64 o2))], [(2, ⟨false, 4, [(enc_T_api_Base a0)]⟩), (3, ⟨false, 1, [(V.str a1)]⟩)], 19⟩ = some ⟨[(2, (V.ptr 2 0 0)), (3, (V.ptr 3 0 0)), (6, (V.int .i64 o2)), (10, (V.bool (o2 != 0)))], [(2, ⟨false, 4, [(enc_T_api_Base a0)]⟩), (3, ⟨false, 1, [(V.str a1)]⟩)], 19⟩ := by
  refine Eq.trans regionE_reg ?_
  exact reg_end rfl
theorem dbd_Type_r3 (k : Nat) (a0 : T_api_Base) (a1 : Str) (o2 : Int) : regionE prog (evF prog anns ext k) dbd_Type_a3 dbd_Type_o3 false ⟨[(2, (V.ptr 2 0 0)), (3, (V.ptr 3 0 0)), (6, (V.int .i64 o2)), (10, (V.bool true))], [(2, ⟨false, 4, [(enc_T_api_Base a0)]⟩), (3, ⟨false, 1, [(V.str a1)]⟩)], 19⟩ = some ⟨[(4, (V.int .i64 0)), (5, (V.int .i64 o2))], [], 19⟩ := by
  refine Eq.trans regionE_reg ?_
  exact reg_end rfl
theorem dbd_Type_r4 (k : Nat) (a0 : T_api_Base) (a1 : Str) (o2 : Int) : regionE prog (evF prog anns ext k) dbd_Type_a4 dbd_Type_o4 false ⟨[(2, (V.ptr 2 0 0)), (3, (V.ptr 3 0 0)), (6, (V.int .i64 o2)), (10, (V.bool false))], [(2, ⟨false, 4, [(enc_T_api_Base a0)]⟩), (3, ⟨false, 1, [(V.str a1)]⟩)], 19⟩ = (((slices_IndexFunc_Type k a0.fTypes (fun j x0 => (dbd_Type_1 j x0 a1))).bind fun v3 => ((dbd_index k v3).bind fun v4 => (some (v4.1, v4.2))))).map (fun (o : Int × Int) => (⟨[(4, (V.int .i64 o.1)), (5, (V.int .i64 o.2))], [], 19⟩ : St)) := by
  refine Eq.trans regionE_reg ?_
  refine Eq.trans (reg_adv (m := 3) (j := 3) (st' := ⟨[(2, (V.ptr 2 0 0)), (3, (V.ptr 3 0 0)), (6, (V.int .i64 o2)), (10, (V.bool false)), (12, (V.ptr 2 0 2)), (13, (V.sl 0 8 (List.map enc_T_api_Type a0.fTypes))), (14, (V.fn 46 [] [(V.ptr 3 0 0)]))], [(2, ⟨false, 4, [(enc_T_api_Base a0)]⟩), (3, ⟨false, 1, [(V.str a1)]⟩)], 19⟩) rfl rfl rfl) ?_
  refine Eq.trans (reg_pure (x := (slices_IndexFunc_Type k a0.fTypes (fun j x0 => (dbd_Type_1 j x0 a1)))) (w := fun v3 => (V.int .i64 v3)) rfl rfl rfl rfl (p_call rfl rfl rfl rfl rfl (slices_IndexFunc_Type_ok k a0.fTypes (fun j x0 => (dbd_Type_1 j x0 a1)) 46 (V.str a1) (fun j x0 => (dbd_Type_1_ok j x0 a1))) (.inr (fun _ => rfl)))) ?_
  refine bindE (fun v3 => ?_)
  refine Eq.trans (bind_adv (m := 0) (j := 4) (st' := ⟨[(2, (V.ptr 2 0 0)), (3, (V.ptr 3 0 0)), (6, (V.int .i64 o2)), (10, (V.bool false)), (12, (V.ptr 2 0 2)), (13, (V.sl 0 8 (List.map enc_T_api_Type a0.fTypes))), (14, (V.fn 46 [] [(V.ptr 3 0 0)])), (15, (V.int .i64 v3))], [(2, ⟨false, 4, [(enc_T_api_Base a0)]⟩), (3, ⟨false, 1, [(V.str a1)]⟩)], 19⟩) rfl rfl rfl) ?_
  refine Eq.trans (reg_pure (x := (dbd_index k v3)) (w := fun v4 => (V.tup [(V.int .i64 v4.1), (V.int .i64 v4.2)])) rfl rfl rfl rfl (p_call rfl rfl rfl rfl rfl (dbd_index_ok k v3) (.inl rfl))) ?_
  refine bindE (fun v4 => ?_)
  exact bind_end rfl
theorem dbd_Type_ok (k : Nat) (a0 : T_api_Base) (a1 : Str) : evF prog anns ext k 20 [(enc_T_api_Base a0), (V.str a1)] = (dbd_Type k a0 a1).map dbd_Type_fin := by
  cases k with
  | zero => rfl
  | succ k =>
    unfold dbd_Type
    refine Eq.trans (evF_succ (c := dbd_Type_c) (N := 19) (regs := dbd_Type_an) rfl Go.Proofs.Try.func20 rfl (by decide) rfl rfl rfl) ?_
    refine Eq.trans (k_region0 rfl (dbd_Type_r0 k a0 a1)) ?_
    refine Eq.trans k_assoc ?_
    refine Eq.trans (k_region rfl (dbd_Type_r1 k a0 a1)) ?_
    refine bindE (fun o2 => ?_)
    refine Eq.trans k_assoc ?_
    refine Eq.trans (k_region0 rfl (dbd_Type_r2 k a0 a1 o2)) ?_
    refine Eq.trans (k_cond (t := (o2 != 0)) rfl) ?_
    refine bifE2 (fun hc => ?_) (fun hc => ?_)
    · rw [hc]
      refine Eq.trans k_assoc ?_
      refine Eq.trans (k_region0 rfl (dbd_Type_r3 k a0 a1 o2)) ?_
      refine Eq.trans k_ret ?_
      rfl
    · rw [hc]
      refine Eq.trans k_skip ?_
      refine Eq.trans (k_region rfl (dbd_Type_r4 k a0 a1 o2)) ?_
      refine bindE (fun o5 => ?_)
      refine Eq.trans k_lret ?_
      rfl
def ref11_Type_fin : (Int × Int) → V × List V := fun r => (.tup [(V.int .i64 r.1), (V.int .i64 r.2)], [])
theorem ref11_Type_r0 (k : Nat) (a0 : T_api_Base) (a1 : Str) : regionE prog (evF prog anns ext k) ref11_Type_a0 ref11_Type_o0 false ⟨[(0, (enc_T_api_Base a0)), (1, (V.str a1))], [], 29⟩ = some ⟨[(1, (V.str a1)), (2, (V.ptr 2 0 0))], [(2, ⟨false, 4, [(enc_T_api_Base a0)]⟩)], 29⟩ := by
  refine Eq.trans regionE_reg ?_
  exact reg_end rfl
theorem ref11_Type_r1 (k : Nat) (a0 : T_api_Base) (a1 : Str) : regionE prog (evF prog anns ext k) ref11_Type_a1 ref11_Type_o1 false ⟨[(1, (V.str a1)), (2, (V.ptr 2 0 0))], [(2, ⟨false, 4, [(enc_T_api_Base a0)]⟩)], 29⟩ = ((ref11_asked k a0 ([] : List Int))).map (fun (o : Int) => (⟨[(1, (V.str a1)), (2, (V.ptr 2 0 0)), (6, (V.int .i64 o))], [(2, ⟨false, 4, [(enc_T_api_Base a0)]⟩)], 29⟩ : St)) := by
  refine Eq.trans regionE_reg ?_
  refine Eq.trans (reg_adv (m := 1) (j := 1) (st' := ⟨[(1, (V.str a1)), (2, (V.ptr 2 0 0)), (8, (enc_T_api_Base a0))], [(2, ⟨false, 4, [(enc_T_api_Base a0)]⟩)], 29⟩) rfl rfl rfl) ?_
  refine Eq.trans (reg_pure (x := (ref11_asked k a0 ([] : List Int))) (w := fun v1 => (V.int .i64 v1)) rfl rfl rfl rfl (p_call rfl rfl rfl rfl rfl (ref11_asked_ok k a0 ([] : List Int)) (.inl rfl))) ?_
  refine bind_self (fun v1 => ?_)
  exact bind_end rfl
theorem ref11_Type_r2 (k : Nat) (a0 : T_api_Base) (a1 : Str) (o2 : Int) : regionE prog (evF prog anns ext k) ref11_Type_a2 ref11_Type_o2 false ⟨[(1, (V.str a1)), (2, (V.ptr 2 0 0)), (6, (V.int .i64 o2))], [(2, ⟨false, 4, [(enc_T_api_Base a0)]⟩)], 29⟩ = some ⟨[(1, (V.str a1)), (2, (V.ptr 2 0 0)), (6, (V.int .i64 o2)), (11, (V.bool (o2 != 0)))], [(2, ⟨false, 4, [(enc_T_api_Base a0)]⟩)], 29⟩ := by
  refine Eq.trans regionE_reg ?_
  exact reg_end rfl
theorem ref11_Type_r3 (k : Nat) (a0 : T_api_Base) (a1 : Str) (o2 : Int) : regionE prog (evF prog anns ext k) ref11_Type_a3 ref11_Type_o3 false ⟨[(1, (V.str a1)), (2, (V.ptr 2 0 0)), (6, (V.int .i64 o2)), (11, (V.bool true))], [(2, ⟨false, 4, [(enc_T_api_Base a0)]⟩)], 29⟩ = some ⟨[(4, (V.int .i64 0)), (5, (V.int .i64 o2))], [], 29⟩ := by
  refine Eq.trans regionE_reg ?_
  exact reg_end rfl
theorem ref11_Type_r4 (k : Nat) (a0 : T_api_Base) (a1 : Str) (o2 : Int) : regionE prog (evF prog anns ext k) ref11_Type_a4 ref11_Type_o4 false ⟨[(1, (V.str a1)), (2, (V.ptr 2 0 0)), (6, (V.int .i64 o2)), (11, (V.bool false))], [(2, ⟨false, 4, [(enc_T_api_Base a0)]⟩)], 29⟩ = some ⟨[(1, (V.str a1)), (2, (V.ptr 2 0 0)), (7, (V.int .i64 0))], [(2, ⟨false, 4, [(enc_T_api_Base a0)]⟩)], 29⟩ := by
  refine Eq.trans regionE_reg ?_
  exact reg_end rfl
theorem ref11_Type_r5 (k : Nat) (a0 : T_api_Base) (a1 : Str) (x5 : Int) : regionE prog (evF prog anns ext k) ref11_Type_a5 ref11_Type_o5 false ⟨[(1, (V.str a1)), (2, (V.ptr 2 0 0)), (7, (V.int .i64 x5))], [(2, ⟨false, 4, [(enc_T_api_Base a0)]⟩)], 29⟩ = some ⟨[(1, (V.str a1)), (2, (V.ptr 2 0 0)), (7, (V.int .i64 x5)), (17, (V.bool (decide (x5 < (a0.fTypes.length : Int)))))], [(2, ⟨false, 4, [(enc_T_api_Base a0)]⟩)], 29⟩ := by
  refine Eq.trans regionE_reg ?_
  refine Eq.trans (reg_adv (m := 3) (j := 3) (st' := ⟨[(1, (V.str a1)), (2, (V.ptr 2 0 0)), (7, (V.int .i64 x5)), (13, (V.int .i64 x5)), (14, (V.ptr 2 0 2)), (15, (V.sl 0 8 (List.map enc_T_api_Type a0.fTypes)))], [(2, ⟨false, 4, [(enc_T_api_Base a0)]⟩)], 29⟩) rfl rfl rfl) ?_
  refine Eq.trans (reg_pure (x := some ()) (w := fun _ => (V.int .i64 (a0.fTypes.length : Int))) rfl rfl rfl rfl (p_len (e := enc_T_api_Type) rfl rfl rfl rfl rfl rfl Go.Proofs.Try.underlying22)) ?_
  refine Eq.trans some_bind ?_
  exact bind_end rfl
theorem ref11_Type_r7 (k : Nat) (a0 : T_api_Base) (a1 : Str) (x5 : Int) : regionE prog (evF prog anns ext k) ref11_Type_a7 ref11_Type_o7 false ⟨[(1, (V.str a1)), (2, (V.ptr 2 0 0)), (7, (V.int .i64 x5)), (17, (V.bool true))], [(2, ⟨false, 4, [(enc_T_api_Base a0)]⟩)], 29⟩ = (((idx a0.fTypes x5).bind fun v6 => (some ((v6.fName == a1))))).map (fun (o : Bool) => (⟨[(1, (V.str a1)), (2, (V.ptr 2 0 0)), (7, (V.int .i64 x5)), (27, (V.bool o))], [(2, ⟨false, 4, [(enc_T_api_Base a0)]⟩)], 29⟩ : St)) := by
  refine Eq.trans regionE_reg ?_
  refine Eq.trans (reg_adv (m := 3) (j := 3) (st' := ⟨[(1, (V.str a1)), (2, (V.ptr 2 0 0)), (7, (V.int .i64 x5)), (17, (V.bool true)), (20, (V.ptr 2 0 2)), (21, (V.sl 0 8 (List.map enc_T_api_Type a0.fTypes))), (22, (V.int .i64 x5))], [(2, ⟨false, 4, [(enc_T_api_Base a0)]⟩)], 29⟩) rfl rfl rfl) ?_
  refine Eq.trans (reg_pure (x := (idx a0.fTypes x5)) (w := fun v6 => (V.pro (enc_T_api_Type v6))) rfl rfl rfl rfl (p_index (e := enc_T_api_Type) rfl rfl rfl Go.Proofs.Try.underlying22 rfl (by decide))) ?_
  refine bindE (fun v6 => ?_)
  exact bind_end rfl
theorem ref11_Type_r8 (k : Nat) (a0 : T_api_Base) (a1 : Str) (x5 : Int) : regionE prog (evF prog anns ext k) ref11_Type_a8 ref11_Type_o8 false ⟨[(1, (V.str a1)), (2, (V.ptr 2 0 0)), (7, (V.int .i64 x5)), (27, (V.bool true))], [(2, ⟨false, 4, [(enc_T_api_Base a0)]⟩)], 29⟩ = some ⟨[(4, (V.int .i64 x5)), (5, (V.int .i64 0))], [], 29⟩ := by
  refine Eq.trans regionE_reg ?_
  exact reg_end rfl
theorem ref11_Type_r6 (k : Nat) (a0 : T_api_Base) (a1 : Str) (x5 : Int) : regionE prog (evF prog anns ext k) ref11_Type_a6 ref11_Type_o6 false ⟨[(1, (V.str a1)), (2, (V.ptr 2 0 0)), (7, (V.int .i64 x5)), (27, (V.bool false))], [(2, ⟨false, 4, [(enc_T_api_Base a0)]⟩)], 29⟩ = some ⟨[(1, (V.str a1)), (2, (V.ptr 2 0 0)), (7, (V.int .i64 (Go.IntKind.wrap .i64 (x5 + 1))))], [(2, ⟨false, 4, [(enc_T_api_Base a0)]⟩)], 29⟩ := by
  refine Eq.trans regionE_reg ?_
  exact reg_end rfl
theorem ref11_Type_L1_ok (k : Nat) (a0 : T_api_Base) (a1 : Str)  (K0 : Int → Option (Int × Int)) (Kst : X × St → Option (V × List V)) (hK0 : ∀ (y0 : Int), Kst (X.exit 0, ⟨[(1, (V.str a1)), (2, (V.ptr 2 0 0)), (7, (V.int .i64 y0)), (17, (V.bool false))], [(2, ⟨false, 4, [(enc_T_api_Base a0)]⟩)], 29⟩) = (K0 y0).map ref11_Type_fin) (hret : ∀ s, Kst (X.ret, s) = endK prog 29 [(enc_T_api_Base a0), (V.str a1)] [] [.tmp 4, .tmp 5] (X.ret, s)) :
    ∀ (m : Nat) (x5 : Int), (iter (exec prog (evF prog anns ext k) ref11_Type_an k ref11_Type_b0) m ⟨[(1, (V.str a1)), (2, (V.ptr 2 0 0)), (7, (V.int .i64 x5))], [(2, ⟨false, 4, [(enc_T_api_Base a0)]⟩)], 29⟩).bind Kst = (ref11_Type_L1 a0 a1 K0 m x5).map ref11_Type_fin := by
  intro m
  induction m with
  | zero => intros; rfl
  | succ m ih =>
    intro x5
    unfold ref11_Type_L1
    refine Eq.trans k_round ?_
    refine Eq.trans k_assoc ?_
    refine Eq.trans (k_region0 rfl (ref11_Type_r5 k a0 a1 x5)) ?_
    refine Eq.trans (k_cond (t := (decide (x5 < (a0.fTypes.length : Int)))) rfl) ?_
    refine bifE2 (fun hc => ?_) (fun hc => ?_)
    · rw [hc]
      refine Eq.trans k_skip ?_
      refine Eq.trans k_block ?_
      refine Eq.trans (k_region rfl (ref11_Type_r7 k a0 a1 x5)) ?_
      refine bindE (fun o7 => ?_)
      refine Eq.trans (k_lcond (t := o7) rfl) ?_
      refine bifE2 (fun hc => ?_) (fun hc => ?_)
      · rw [hc]
        refine Eq.trans (k_region0 rfl (ref11_Type_r8 k a0 a1 x5)) ?_
        refine Eq.trans k_lret ?_
        refine Eq.trans blk_ret ?_
        refine Eq.trans loop_ret ?_
        refine Eq.trans (hret _) ?_
        rfl
      · rw [hc]
        refine Eq.trans k_lskip ?_
        refine Eq.trans blk_normal ?_
        refine Eq.trans (k_lregion0 rfl (ref11_Type_r6 k a0 a1 x5)) ?_
        refine Eq.trans loop_normal ?_
        exact ih (Go.IntKind.wrap .i64 (x5 + 1))
    · rw [hc]
      refine Eq.trans k_exit ?_
      refine Eq.trans loop_exit ?_
      exact hK0 x5
theorem ref11_Type_r9 (k : Nat) (a0 : T_api_Base) (a1 : Str) (y8 : Int) : regionE prog (evF prog anns ext k) ref11_Type_a9 ref11_Type_o9 false ⟨[(1, (V.str a1)), (2, (V.ptr 2 0 0)), (7, (V.int .i64 y8)), (17, (V.bool false))], [(2, ⟨false, 4, [(enc_T_api_Base a0)]⟩)], 29⟩ = some ⟨[(4, (V.int .i64 0)), (5, (V.int .i64 5))], [], 29⟩ := by
  refine Eq.trans regionE_reg ?_
  exact reg_end rfl
theorem ref11_Type_ok (k : Nat) (a0 : T_api_Base) (a1 : Str) : evF prog anns ext k 21 [(enc_T_api_Base a0), (V.str a1)] = (ref11_Type k a0 a1).map ref11_Type_fin := by
  cases k with
  | zero => rfl
  | succ k =>
    unfold ref11_Type
    refine Eq.trans (evF_succ (c := ref11_Type_c) (N := 29) (regs := ref11_Type_an) rfl Go.Proofs.Try.func21 rfl (by decide) rfl rfl rfl) ?_
    refine Eq.trans (k_region0 rfl (ref11_Type_r0 k a0 a1)) ?_
    refine Eq.trans k_assoc ?_
    refine Eq.trans (k_region rfl (ref11_Type_r1 k a0 a1)) ?_
    refine bindE (fun o2 => ?_)
    refine Eq.trans k_assoc ?_
    refine Eq.trans (k_region0 rfl (ref11_Type_r2 k a0 a1 o2)) ?_
    refine Eq.trans (k_cond (t := (o2 != 0)) rfl) ?_
    refine bifE2 (fun hc => ?_) (fun hc => ?_)
    · rw [hc]
      refine Eq.trans k_assoc ?_
      refine Eq.trans (k_region0 rfl (ref11_Type_r3 k a0 a1 o2)) ?_
      refine Eq.trans k_ret ?_
      rfl
    · rw [hc]
      refine Eq.trans k_skip ?_
      refine Eq.trans k_assoc ?_
      refine Eq.trans (k_region0 rfl (ref11_Type_r4 k a0 a1 o2)) ?_
      refine Eq.trans k_block ?_
      refine Eq.trans k_loop ?_
      refine ref11_Type_L1_ok k a0 a1 _ _ ?h_ref11_Type_L1_0 ?hr_ref11_Type_L1 k 0
      · intro y8
        refine Eq.trans blk_exit ?_
        refine Eq.trans (k_region0 rfl (ref11_Type_r9 k a0 a1 y8)) ?_
        refine Eq.trans k_lret ?_
        rfl
      · intro s; exact rfl
def dbd_Field_1_fin : Bool → V × List V := fun r => ((V.bool r), [])
theorem dbd_Field_1_r0 (k : Nat) (a0 : T_api_Field) (a1 : Str) : regionE prog (evF prog anns ext k) dbd_Field_1_a0 dbd_Field_1_o0 false ⟨[(0, (enc_T_api_Field a0)), (1, (V.pro (V.str a1)))], [], 8⟩ = some ⟨[(1, (V.pro (V.str a1))), (2, (V.ptr 2 0 0))], [(2, ⟨false, 3, [(enc_T_api_Field a0)]⟩)], 8⟩ := by
  refine Eq.trans regionE_reg ?_
  exact reg_end rfl
theorem dbd_Field_1_r1 (k : Nat) (a0 : T_api_Field) (a1 : Str) : regionE prog (evF prog anns ext k) dbd_Field_1_a1 dbd_Field_1_o1 false ⟨[(1, (V.pro (V.str a1))), (2, (V.ptr 2 0 0))], [(2, ⟨false, 3, [(enc_T_api_Field a0)]⟩)], 8⟩ = some ⟨[(3, (V.bool (a0.fName == a1)))], [], 8⟩ := by
  refine Eq.trans regionE_reg ?_
  exact reg_end rfl
theorem dbd_Field_1_ok (k : Nat) (a0 : T_api_Field) (a1 : Str) : evF prog anns ext k 48 [(enc_T_api_Field a0), (V.pro (V.str a1))] = (dbd_Field_1 k a0 a1).map dbd_Field_1_fin := by
  cases k with
  | zero => rfl
  | succ k =>
    unfold dbd_Field_1
    refine Eq.trans (evF_succ (c := dbd_Field_1_c) (N := 8) (regs := dbd_Field_1_an) rfl Go.Proofs.Try.func48 rfl (by decide) rfl rfl rfl) ?_
    refine Eq.trans (k_region0 rfl (dbd_Field_1_r0 k a0 a1)) ?_
    refine Eq.trans (k_region0 rfl (dbd_Field_1_r1 k a0 a1)) ?_
    refine Eq.trans k_lret ?_
    rfl
def dbd_Field_fin : (Int × Int) → V × List V := fun r => (.tup [(V.int .i64 r.1), (V.int .i64 r.2)], [])
theorem dbd_Field_r0 (k : Nat) (a0 : T_api_Base) (a1 : Int) (a2 : Str) : regionE prog (evF prog anns ext k) dbd_Field_a0 dbd_Field_o0 false ⟨[(0, (enc_T_api_Base a0)), (1, (V.int .i64 a1)), (2, (V.str a2))], [], 27⟩ = some ⟨[(1, (V.int .i64 a1)), (3, (V.ptr 3 0 0)), (5, (V.ptr 5 0 0))], [(3, ⟨false, 4, [(enc_T_api_Base a0)]⟩), (5, ⟨false, 1, [(V.str a2)]⟩)], 27⟩ := by
  refine Eq.trans regionE_reg ?_
  exact reg_end rfl
theorem dbd_Field_r1 (k : Nat) (a0 : T_api_Base) (a1 : Int) (a2 : Str) : regionE prog (evF prog anns ext k) dbd_Field_a1 dbd_Field_o1 false ⟨[(1, (V.int .i64 a1)), (3, (V.ptr 3 0 0)), (5, (V.ptr 5 0 0))], [(3, ⟨false, 4, [(enc_T_api_Base a0)]⟩), (5, ⟨false, 1, [(V.str a2)]⟩)], 27⟩ = ((dbd_asked k a0 ([a1] : List Int))).map (fun (o : Int) => (⟨[(1, (V.int .i64 a1)), (3, (V.ptr 3 0 0)), (5, (V.ptr 5 0 0)), (8, (V.int .i64 o))], [(3, ⟨false, 4, [(enc_T_api_Base a0)]⟩), (5, ⟨false, 1, [(V.str a2)]⟩)], 27⟩ : St)) := by
  refine Eq.trans regionE_reg ?_
  refine Eq.trans (reg_adv (m := 3) (j := 3) (st' := ⟨[(1, (V.int .i64 a1)), (3, (V.ptr 3 0 0)), (5, (V.ptr 5 0 0)), (9, (enc_T_api_Base a0)), (10, (V.int .i64 a1)), (11, (V.sl 0 1 (List.map (V.int .i64) ([a1] : List Int))))], [(3, ⟨false, 4, [(enc_T_api_Base a0)]⟩), (5, ⟨false, 1, [(V.str a2)]⟩)], 27⟩) rfl rfl rfl) ?_
  refine Eq.trans (reg_pure (x := (dbd_asked k a0 ([a1] : List Int))) (w := fun v1 => (V.int .i64 v1)) rfl rfl rfl rfl (p_call rfl rfl rfl rfl rfl (dbd_asked_ok k a0 ([a1] : List Int)) (.inl rfl))) ?_
  refine bind_self (fun v1 => ?_)
  exact bind_end rfl
theorem dbd_Field_r2 (k : Nat) (a0 : T_api_Base) (a1 : Int) (a2 : Str) (o2 : Int) : regionE prog (evF prog anns ext k) dbd_Field_a2 dbd_Field_o2 false ⟨[(1, (V.int .i64 a1)), (3, (V.ptr 3 0 0)), (5, (V.ptr 5 0 0)), (8, (V.int .i64 o2))], [(3, ⟨false, 4, [(enc_T_api_Base a0)]⟩), (5, ⟨false, 1, [(V.str a2)]⟩)], 27⟩ = some ⟨[(1, (V.int .i64 a1)), (3, (V.ptr 3 0 0)), (5, (V.ptr 5 0 0)), (8, (V.int .i64 o2)), (14, (V.bool (o2 != 0)))], [(3, ⟨false, 4, [(enc_T_api_Base a0)]⟩), (5, ⟨false, 1, [(V.str a2)]⟩)], 27⟩ := by
  refine Eq.trans regionE_reg ?_
  exact reg_end rfl
theorem dbd_Field_r3 (k : Nat) (a0 : T_api_Base) (a1 : Int) (a2 : Str) (o2 : Int) : regionE prog (evF prog anns ext k) dbd_Field_a3 dbd_Field_o3 false ⟨[(1, (V.int .i64 a1)), (3, (V.ptr 3 0 0)), (5, (V.ptr 5 0 0)), (8, (V.int .i64 o2)), (14, (V.bool true))], [(3, ⟨false, 4, [(enc_T_api_Base a0)]⟩), (5, ⟨false, 1, [(V.str a2)]⟩)], 27⟩ = some ⟨[(6, (V.int .i64 0)), (7, (V.int .i64 o2))], [], 27⟩ := by
  refine Eq.trans regionE_reg ?_
  exact reg_end rfl
theorem dbd_Field_r4 (k : Nat) (a0 : T_api_Base) (a1 : Int) (a2 : Str) (o2 : Int) : regionE prog (evF prog anns ext k) dbd_Field_a4 dbd_Field_o4 false ⟨[(1, (V.int .i64 a1)), (3, (V.ptr 3 0 0)), (5, (V.ptr 5 0 0)), (8, (V.int .i64 o2)), (14, (V.bool false))], [(3, ⟨false, 4, [(enc_T_api_Base a0)]⟩), (5, ⟨false, 1, [(V.str a2)]⟩)], 27⟩ = (((idx a0.fTypes a1).bind fun v3 => ((slices_IndexFunc_Field k v3.fFields (fun j x0 => (dbd_Field_1 j x0 a2))).bind fun v4 => ((dbd_index k v4).bind fun v5 => (some (v5.1, v5.2)))))).map (fun (o : Int × Int) => (⟨[(6, (V.int .i64 o.1)), (7, (V.int .i64 o.2))], [], 27⟩ : St)) := by
  refine Eq.trans regionE_reg ?_
  refine Eq.trans (reg_adv (m := 3) (j := 3) (st' := ⟨[(1, (V.int .i64 a1)), (3, (V.ptr 3 0 0)), (5, (V.ptr 5 0 0)), (8, (V.int .i64 o2)), (14, (V.bool false)), (16, (V.ptr 3 0 2)), (17, (V.sl 0 8 (List.map enc_T_api_Type a0.fTypes))), (18, (V.int .i64 a1))], [(3, ⟨false, 4, [(enc_T_api_Base a0)]⟩), (5, ⟨false, 1, [(V.str a2)]⟩)], 27⟩) rfl rfl rfl) ?_
  refine Eq.trans (reg_pure (x := (idx a0.fTypes a1)) (w := fun v3 => (V.pro (enc_T_api_Type v3))) rfl rfl rfl rfl (p_index (e := enc_T_api_Type) rfl rfl rfl Go.Proofs.Try.underlying22 rfl (by decide))) ?_
  refine bindE (fun v3 => ?_)
  refine Eq.trans (bind_adv (m := 3) (j := 7) (st' := ⟨[(1, (V.int .i64 a1)), (3, (V.ptr 3 0 0)), (5, (V.ptr 5 0 0)), (8, (V.int .i64 o2)), (14, (V.bool false)), (16, (V.ptr 3 0 2)), (17, (V.sl 0 8 (List.map enc_T_api_Type a0.fTypes))), (18, (V.int .i64 a1)), (19, (V.pro (enc_T_api_Type v3))), (20, (V.pro (V.sl 0 3 (List.map enc_T_api_Field v3.fFields)))), (21, (V.sl 0 3 (List.map enc_T_api_Field v3.fFields))), (22, (V.fn 48 [] [(V.ptr 5 0 0)]))], [(3, ⟨false, 4, [(enc_T_api_Base a0)]⟩), (5, ⟨false, 1, [(V.str a2)]⟩)], 27⟩) rfl rfl rfl) ?_
  refine Eq.trans (reg_pure (x := (slices_IndexFunc_Field k v3.fFields (fun j x0 => (dbd_Field_1 j x0 a2)))) (w := fun v4 => (V.int .i64 v4)) rfl rfl rfl rfl (p_call rfl rfl rfl rfl rfl (slices_IndexFunc_Field_ok k v3.fFields (fun j x0 => (dbd_Field_1 j x0 a2)) 48 (V.str a2) (fun j x0 => (dbd_Field_1_ok j x0 a2))) (.inr (fun _ => rfl)))) ?_
  refine bindE (fun v4 => ?_)
  refine Eq.trans (bind_adv (m := 0) (j := 8) (st' := ⟨[(1, (V.int .i64 a1)), (3, (V.ptr 3 0 0)), (5, (V.ptr 5 0 0)), (8, (V.int .i64 o2)), (14, (V.bool false)), (16, (V.ptr 3 0 2)), (17, (V.sl 0 8 (List.map enc_T_api_Type a0.fTypes))), (18, (V.int .i64 a1)), (19, (V.pro (enc_T_api_Type v3))), (20, (V.pro (V.sl 0 3 (List.map enc_T_api_Field v3.fFields)))), (21, (V.sl 0 3 (List.map enc_T_api_Field v3.fFields))), (22, (V.fn 48 [] [(V.ptr 5 0 0)])), (23, (V.int .i64 v4))], [(3, ⟨false, 4, [(enc_T_api_Base a0)]⟩), (5, ⟨false, 1, [(V.str a2)]⟩)], 27⟩) rfl rfl rfl) ?_
  refine Eq.trans (reg_pure (x := (dbd_index k v4)) (w := fun v5 => (V.tup [(V.int .i64 v5.1), (V.int .i64 v5.2)])) rfl rfl rfl rfl (p_call rfl rfl rfl rfl rfl (dbd_index_ok k v4) (.inl rfl))) ?_
  refine bindE (fun v5 => ?_)
  exact bind_end rfl
theorem dbd_Field_ok (k : Nat) (a0 : T_api_Base) (a1 : Int) (a2 : Str) : evF prog anns ext k 22 [(enc_T_api_Base a0), (V.int .i64 a1), (V.str a2)] = (dbd_Field k a0 a1 a2).map dbd_Field_fin := by
  cases k with
  | zero => rfl
  | succ k =>
    unfold dbd_Field
    refine Eq.trans (evF_succ (c := dbd_Field_c) (N := 27) (regs := dbd_Field_an) rfl Go.Proofs.Try.func22 rfl (by decide) rfl rfl rfl) ?_
    refine Eq.trans (k_region0 rfl (dbd_Field_r0 k a0 a1 a2)) ?_
    refine Eq.trans k_assoc ?_
    refine Eq.trans (k_region rfl (dbd_Field_r1 k a0 a1 a2)) ?_
    refine bindE (fun o2 => ?_)
    refine Eq.trans k_assoc ?_
    refine Eq.trans (k_region0 rfl (dbd_Field_r2 k a0 a1 a2 o2)) ?_
    refine Eq.trans (k_cond (t := (o2 != 0)) rfl) ?_
    refine bifE2 (fun hc => ?_) (fun hc => ?_)
    · rw [hc]
      refine Eq.trans k_assoc ?_
      refine Eq.trans (k_region0 rfl (dbd_Field_r3 k a0 a1 a2 o2)) ?_
      refine Eq.trans k_ret ?_
      rfl
    · rw [hc]
      refine Eq.trans k_skip ?_
      refine Eq.trans (k_region rfl (dbd_Field_r4 k a0 a1 a2 o2)) ?_
      refine bindE (fun o6 => ?_)
      refine Eq.trans k_lret ?_
      rfl
def ref11_Field_fin : (Int × Int) → V × List V := fun r => (.tup [(V.int .i64 r.1), (V.int .i64 r.2)], [])
theorem ref11_Field_r0 (k : Nat) (a0 : T_api_Base) (a1 : Int) (a2 : Str) : regionE prog (evF prog anns ext k) ref11_Field_a0 ref11_Field_o0 false ⟨[(0, (enc_T_api_Base a0)), (1, (V.int .i64 a1)), (2, (V.str a2))], [], 41⟩ = some ⟨[(1, (V.int .i64 a1)), (2, (V.str a2)), (3, (V.ptr 3 0 0))], [(3, ⟨false, 4, [(enc_T_api_Base a0)]⟩)], 41⟩ := by
  refine Eq.trans regionE_reg ?_
  exact reg_end rfl
theorem ref11_Field_r1 (k : Nat) (a0 : T_api_Base) (a1 : Int) (a2 : Str) : regionE prog (evF prog anns ext k) ref11_Field_a1 ref11_Field_o1 false ⟨[(1, (V.int .i64 a1)), (2, (V.str a2)), (3, (V.ptr 3 0 0))], [(3, ⟨false, 4, [(enc_T_api_Base a0)]⟩)], 41⟩ = ((ref11_asked k a0 ([a1] : List Int))).map (fun (o : Int) => (⟨[(1, (V.int .i64 a1)), (2, (V.str a2)), (3, (V.ptr 3 0 0)), (8, (V.int .i64 o))], [(3, ⟨false, 4, [(enc_T_api_Base a0)]⟩)], 41⟩ : St)) := by
  refine Eq.trans regionE_reg ?_
  refine Eq.trans (reg_adv (m := 3) (j := 3) (st' := ⟨[(1, (V.int .i64 a1)), (2, (V.str a2)), (3, (V.ptr 3 0 0)), (10, (enc_T_api_Base a0)), (11, (V.int .i64 a1)), (12, (V.sl 0 1 (List.map (V.int .i64) ([a1] : List Int))))], [(3, ⟨false, 4, [(enc_T_api_Base a0)]⟩)], 41⟩) rfl rfl rfl) ?_
  refine Eq.trans (reg_pure (x := (ref11_asked k a0 ([a1] : List Int))) (w := fun v1 => (V.int .i64 v1)) rfl rfl rfl rfl (p_call rfl rfl rfl rfl rfl (ref11_asked_ok k a0 ([a1] : List Int)) (.inl rfl))) ?_
  refine bind_self (fun v1 => ?_)
  exact bind_end rfl
theorem ref11_Field_r2 (k : Nat) (a0 : T_api_Base) (a1 : Int) (a2 : Str) (o2 : Int) : regionE prog (evF prog anns ext k) ref11_Field_a2 ref11_Field_o2 false ⟨[(1, (V.int .i64 a1)), (2, (V.str a2)), (3, (V.ptr 3 0 0)), (8, (V.int .i64 o2))], [(3, ⟨false, 4, [(enc_T_api_Base a0)]⟩)], 41⟩ = some ⟨[(1, (V.int .i64 a1)), (2, (V.str a2)), (3, (V.ptr 3 0 0)), (8, (V.int .i64 o2)), (15, (V.bool (o2 != 0)))], [(3, ⟨false, 4, [(enc_T_api_Base a0)]⟩)], 41⟩ := by
  refine Eq.trans regionE_reg ?_
  exact reg_end rfl
theorem ref11_Field_r3 (k : Nat) (a0 : T_api_Base) (a1 : Int) (a2 : Str) (o2 : Int) : regionE prog (evF prog anns ext k) ref11_Field_a3 ref11_Field_o3 false ⟨[(1, (V.int .i64 a1)), (2, (V.str a2)), (3, (V.ptr 3 0 0)), (8, (V.int .i64 o2)), (15, (V.bool true))], [(3, ⟨false, 4, [(enc_T_api_Base a0)]⟩)], 41⟩ = some ⟨[(6, (V.int .i64 0)), (7, (V.int .i64 o2))], [], 41⟩ := by
  refine Eq.trans regionE_reg ?_
  exact reg_end rfl
theorem ref11_Field_r4 (k : Nat) (a0 : T_api_Base) (a1 : Int) (a2 : Str) (o2 : Int) : regionE prog (evF prog anns ext k) ref11_Field_a4 ref11_Field_o4 false ⟨[(1, (V.int .i64 a1)), (2, (V.str a2)), (3, (V.ptr 3 0 0)), (8, (V.int .i64 o2)), (15, (V.bool false))], [(3, ⟨false, 4, [(enc_T_api_Base a0)]⟩)], 41⟩ = some ⟨[(1, (V.int .i64 a1)), (2, (V.str a2)), (3, (V.ptr 3 0 0)), (9, (V.int .i64 0))], [(3, ⟨false, 4, [(enc_T_api_Base a0)]⟩)], 41⟩ := by
  refine Eq.trans regionE_reg ?_
  exact reg_end rfl
theorem ref11_Field_r5 (k : Nat) (a0 : T_api_Base) (a1 : Int) (a2 : Str) (x8 : Int) : regionE prog (evF prog anns ext k) ref11_Field_a5 ref11_Field_o5 false ⟨[(1, (V.int .i64 a1)), (2, (V.str a2)), (3, (V.ptr 3 0 0)), (9, (V.int .i64 x8))], [(3, ⟨false, 4, [(enc_T_api_Base a0)]⟩)], 41⟩ = (((idx a0.fTypes a1).bind fun v9 => (some ((decide (x8 < (v9.fFields.length : Int))))))).map (fun (o : Bool) => (⟨[(1, (V.int .i64 a1)), (2, (V.str a2)), (3, (V.ptr 3 0 0)), (9, (V.int .i64 x8)), (25, (V.bool o))], [(3, ⟨false, 4, [(enc_T_api_Base a0)]⟩)], 41⟩ : St)) := by
  refine Eq.trans regionE_reg ?_
  refine Eq.trans (reg_adv (m := 4) (j := 4) (st' := ⟨[(1, (V.int .i64 a1)), (2, (V.str a2)), (3, (V.ptr 3 0 0)), (9, (V.int .i64 x8)), (17, (V.int .i64 x8)), (18, (V.ptr 3 0 2)), (19, (V.sl 0 8 (List.map enc_T_api_Type a0.fTypes))), (20, (V.int .i64 a1))], [(3, ⟨false, 4, [(enc_T_api_Base a0)]⟩)], 41⟩) rfl rfl rfl) ?_
  refine Eq.trans (reg_pure (x := (idx a0.fTypes a1)) (w := fun v9 => (V.pro (enc_T_api_Type v9))) rfl rfl rfl rfl (p_index (e := enc_T_api_Type) rfl rfl rfl Go.Proofs.Try.underlying22 rfl (by decide))) ?_
  refine bindE (fun v9 => ?_)
  refine Eq.trans (bind_adv (m := 2) (j := 7) (st' := ⟨[(1, (V.int .i64 a1)), (2, (V.str a2)), (3, (V.ptr 3 0 0)), (9, (V.int .i64 x8)), (17, (V.int .i64 x8)), (18, (V.ptr 3 0 2)), (19, (V.sl 0 8 (List.map enc_T_api_Type a0.fTypes))), (20, (V.int .i64 a1)), (21, (V.pro (enc_T_api_Type v9))), (22, (V.pro (V.sl 0 3 (List.map enc_T_api_Field v9.fFields)))), (23, (V.sl 0 3 (List.map enc_T_api_Field v9.fFields)))], [(3, ⟨false, 4, [(enc_T_api_Base a0)]⟩)], 41⟩) rfl rfl rfl) ?_
  refine Eq.trans (reg_pure (x := some ()) (w := fun _ => (V.int .i64 (v9.fFields.length : Int))) rfl rfl rfl rfl (p_len (e := enc_T_api_Field) rfl rfl rfl rfl rfl rfl Go.Proofs.Try.underlying53)) ?_
  refine Eq.trans some_bind ?_
  exact bind_end rfl
theorem ref11_Field_r7 (k : Nat) (a0 : T_api_Base) (a1 : Int) (a2 : Str) (x8 : Int) : regionE prog (evF prog anns ext k) ref11_Field_a7 ref11_Field_o7 false ⟨[(1, (V.int .i64 a1)), (2, (V.str a2)), (3, (V.ptr 3 0 0)), (9, (V.int .i64 x8)), (25, (V.bool true))], [(3, ⟨false, 4, [(enc_T_api_Base a0)]⟩)], 41⟩ = (((idx a0.fTypes a1).bind fun v11 => ((idx v11.fFields x8).bind fun v12 => (some ((v12.fName == a2)))))).map (fun (o : Bool) => (⟨[(1, (V.int .i64 a1)), (2, (V.str a2)), (3, (V.ptr 3 0 0)), (9, (V.int .i64 x8)), (39, (V.bool o))], [(3, ⟨false, 4, [(enc_T_api_Base a0)]⟩)], 41⟩ : St)) := by
  refine Eq.trans regionE_reg ?_
  refine Eq.trans (reg_adv (m := 3) (j := 3) (st' := ⟨[(1, (V.int .i64 a1)), (2, (V.str a2)), (3, (V.ptr 3 0 0)), (9, (V.int .i64 x8)), (25, (V.bool true)), (28, (V.ptr 3 0 2)), (29, (V.sl 0 8 (List.map enc_T_api_Type a0.fTypes))), (30, (V.int .i64 a1))], [(3, ⟨false, 4, [(enc_T_api_Base a0)]⟩)], 41⟩) rfl rfl rfl) ?_
  refine Eq.trans (reg_pure (x := (idx a0.fTypes a1)) (w := fun v11 => (V.pro (enc_T_api_Type v11))) rfl rfl rfl rfl (p_index (e := enc_T_api_Type) rfl rfl rfl Go.Proofs.Try.underlying22 rfl (by decide))) ?_
  refine bindE (fun v11 => ?_)
  refine Eq.trans (bind_adv (m := 3) (j := 7) (st' := ⟨[(1, (V.int .i64 a1)), (2, (V.str a2)), (3, (V.ptr 3 0 0)), (9, (V.int .i64 x8)), (25, (V.bool true)), (28, (V.ptr 3 0 2)), (29, (V.sl 0 8 (List.map enc_T_api_Type a0.fTypes))), (30, (V.int .i64 a1)), (31, (V.pro (enc_T_api_Type v11))), (32, (V.pro (V.sl 0 3 (List.map enc_T_api_Field v11.fFields)))), (33, (V.sl 0 3 (List.map enc_T_api_Field v11.fFields))), (34, (V.int .i64 x8))], [(3, ⟨false, 4, [(enc_T_api_Base a0)]⟩)], 41⟩) rfl rfl rfl) ?_
  refine Eq.trans (reg_pure (x := (idx v11.fFields x8)) (w := fun v12 => (V.pro (enc_T_api_Field v12))) rfl rfl rfl rfl (p_index (e := enc_T_api_Field) rfl rfl rfl Go.Proofs.Try.underlying53 rfl (by decide))) ?_
  refine bindE (fun v12 => ?_)
  exact bind_end rfl
theorem ref11_Field_r8 (k : Nat) (a0 : T_api_Base) (a1 : Int) (a2 : Str) (x8 : Int) : regionE prog (evF prog anns ext k) ref11_Field_a8 ref11_Field_o8 false ⟨[(1, (V.int .i64 a1)), (2, (V.str a2)), (3, (V.ptr 3 0 0)), (9, (V.int .i64 x8)), (39, (V.bool true))], [(3, ⟨false, 4, [(enc_T_api_Base a0)]⟩)], 41⟩ = some ⟨[(6, (V.int .i64 x8)), (7, (V.int .i64 0))], [], 41⟩ := by
  refine Eq.trans regionE_reg ?_
  exact reg_end rfl
theorem ref11_Field_r6 (k : Nat) (a0 : T_api_Base) (a1 : Int) (a2 : Str) (x8 : Int) : regionE prog (evF prog anns ext k) ref11_Field_a6 ref11_Field_o6 false ⟨[(1, (V.int .i64 a1)), (2, (V.str a2)), (3, (V.ptr 3 0 0)), (9, (V.int .i64 x8)), (39, (V.bool false))], [(3, ⟨false, 4, [(enc_T_api_Base a0)]⟩)], 41⟩ = some ⟨[(1, (V.int .i64 a1)), (2, (V.str a2)), (3, (V.ptr 3 0 0)), (9, (V.int .i64 (Go.IntKind.wrap .i64 (x8 + 1))))], [(3, ⟨false, 4, [(enc_T_api_Base a0)]⟩)], 41⟩ := by
  refine Eq.trans regionE_reg ?_
  exact reg_end rfl
theorem ref11_Field_L1_ok (k : Nat) (a0 : T_api_Base) (a1 : Int) (a2 : Str)  (K0 : Int → Option (Int × Int)) (Kst : X × St → Option (V × List V)) (hK0 : ∀ (y0 : Int), Kst (X.exit 0, ⟨[(1, (V.int .i64 a1)), (2, (V.str a2)), (3, (V.ptr 3 0 0)), (9, (V.int .i64 y0)), (25, (V.bool false))], [(3, ⟨false, 4, [(enc_T_api_Base a0)]⟩)], 41⟩) = (K0 y0).map ref11_Field_fin) (hret : ∀ s, Kst (X.ret, s) = endK prog 41 [(enc_T_api_Base a0), (V.int .i64 a1), (V.str a2)] [] [.tmp 6, .tmp 7] (X.ret, s)) :
    ∀ (m : Nat) (x8 : Int), (iter (exec prog (evF prog anns ext k) ref11_Field_an k ref11_Field_b0) m ⟨[(1, (V.int .i64 a1)), (2, (V.str a2)), (3, (V.ptr 3 0 0)), (9, (V.int .i64 x8))], [(3, ⟨false, 4, [(enc_T_api_Base a0)]⟩)], 41⟩).bind Kst = (ref11_Field_L1 a0 a1 a2 K0 m x8).map ref11_Field_fin := by
  intro m
  induction m with
  | zero => intros; rfl
  | succ m ih =>
    intro x8
    unfold ref11_Field_L1
    refine Eq.trans k_round ?_
    refine Eq.trans k_assoc ?_
    refine Eq.trans (k_region rfl (ref11_Field_r5 k a0 a1 a2 x8)) ?_
    refine bindE (fun o10 => ?_)
    refine Eq.trans (k_cond (t := o10) rfl) ?_
    refine bifE2 (fun hc => ?_) (fun hc => ?_)
    · rw [hc]
      refine Eq.trans k_skip ?_
      refine Eq.trans k_block ?_
      refine Eq.trans (k_region rfl (ref11_Field_r7 k a0 a1 a2 x8)) ?_
      refine bindE (fun o13 => ?_)
      refine Eq.trans (k_lcond (t := o13) rfl) ?_
      refine bifE2 (fun hc => ?_) (fun hc => ?_)
      · rw [hc]
        refine Eq.trans (k_region0 rfl (ref11_Field_r8 k a0 a1 a2 x8)) ?_
        refine Eq.trans k_lret ?_
        refine Eq.trans blk_ret ?_
        refine Eq.trans loop_ret ?_
        refine Eq.trans (hret _) ?_
        rfl
      · rw [hc]
        refine Eq.trans k_lskip ?_
        refine Eq.trans blk_normal ?_
        refine Eq.trans (k_lregion0 rfl (ref11_Field_r6 k a0 a1 a2 x8)) ?_
        refine Eq.trans loop_normal ?_
        exact ih (Go.IntKind.wrap .i64 (x8 + 1))
    · rw [hc]
      refine Eq.trans k_exit ?_
      refine Eq.trans loop_exit ?_
      exact hK0 x8
theorem ref11_Field_r9 (k : Nat) (a0 : T_api_Base) (a1 : Int) (a2 : Str) (y14 : Int) : regionE prog (evF prog anns ext k) ref11_Field_a9 ref11_Field_o9 false ⟨[(1, (V.int .i64 a1)), (2, (V.str a2)), (3, (V.ptr 3 0 0)), (9, (V.int .i64 y14)), (25, (V.bool false))], [(3, ⟨false, 4, [(enc_T_api_Base a0)]⟩)], 41⟩ = some ⟨[(6, (V.int .i64 0)), (7, (V.int .i64 5))], [], 41⟩ := by
  refine Eq.trans regionE_reg ?_
  exact reg_end rfl
theorem ref11_Field_ok (k : Nat) (a0 : T_api_Base) (a1 : Int) (a2 : Str) : evF prog anns ext k 23 [(enc_T_api_Base a0), (V.int .i64 a1), (V.str a2)] = (ref11_Field k a0 a1 a2).map ref11_Field_fin := by
  cases k with
  | zero => rfl
  | succ k =>
    unfold ref11_Field
    refine Eq.trans (evF_succ (c := ref11_Field_c) (N := 41) (regs := ref11_Field_an) rfl Go.Proofs.Try.func23 rfl (by decide) rfl rfl rfl) ?_
    refine Eq.trans (k_region0 rfl (ref11_Field_r0 k a0 a1 a2)) ?_
    refine Eq.trans k_assoc ?_
    refine Eq.trans (k_region rfl (ref11_Field_r1 k a0 a1 a2)) ?_
    refine bindE (fun o2 => ?_)
    refine Eq.trans k_assoc ?_
    refine Eq.trans (k_region0 rfl (ref11_Field_r2 k a0 a1 a2 o2)) ?_
    refine Eq.trans (k_cond (t := (o2 != 0)) rfl) ?_
    refine bifE2 (fun hc => ?_) (fun hc => ?_)
    · rw [hc]
      refine Eq.trans k_assoc ?_
      refine Eq.trans (k_region0 rfl (ref11_Field_r3 k a0 a1 a2 o2)) ?_
      refine Eq.trans k_ret ?_
      rfl
    · rw [hc]
      refine Eq.trans k_skip ?_
      refine Eq.trans k_assoc ?_
      refine Eq.trans (k_region0 rfl (ref11_Field_r4 k a0 a1 a2 o2)) ?_
      refine Eq.trans k_block ?_
      refine Eq.trans k_loop ?_
      refine ref11_Field_L1_ok k a0 a1 a2 _ _ ?h_ref11_Field_L1_0 ?hr_ref11_Field_L1 k 0
      · intro y14
        refine Eq.trans blk_exit ?_
        refine Eq.trans (k_region0 rfl (ref11_Field_r9 k a0 a1 a2 y14)) ?_
        refine Eq.trans k_lret ?_
        rfl
      · intro s; exact rfl
def law11_DbdNames_fin : Bool → V × List V := fun r => ((V.bool r), [])
theorem law11_DbdNames_r0 (k : Nat) (a0 : T_api_Base) (a1 : Int) (a2 : Str) : regionE prog (evF prog anns ext k) law11_DbdNames_a0 law11_DbdNames_o0 false ⟨[(0, (enc_T_api_Base a0)), (1, (V.int .i64 a1)), (2, (V.str a2))], [], 60⟩ = some ⟨[(1, (V.int .i64 a1)), (2, (V.str a2)), (3, (V.ptr 3 0 0))], [(3, ⟨false, 4, [(enc_T_api_Base a0)]⟩)], 60⟩ := by
  refine Eq.trans regionE_reg ?_
  exact reg_end rfl
theorem law11_DbdNames_r1 (k : Nat) (a0 : T_api_Base) (a1 : Int) (a2 : Str) : regionE prog (evF prog anns ext k) law11_DbdNames_a1 law11_DbdNames_o1 false ⟨[(1, (V.int .i64 a1)), (2, (V.str a2)), (3, (V.ptr 3 0 0))], [(3, ⟨false, 4, [(enc_T_api_Base a0)]⟩)], 60⟩ = (((law11_Small k a0).bind fun v1 => (some ((!v1))))).map (fun (o : Bool) => (⟨[(1, (V.int .i64 a1)), (2, (V.str a2)), (3, (V.ptr 3 0 0)), (13, (V.bool o))], [(3, ⟨false, 4, [(enc_T_api_Base a0)]⟩)], 60⟩ : St)) := by
  refine Eq.trans regionE_reg ?_
  refine Eq.trans (reg_adv (m := 1) (j := 1) (st' := ⟨[(1, (V.int .i64 a1)), (2, (V.str a2)), (3, (V.ptr 3 0 0)), (11, (enc_T_api_Base a0))], [(3, ⟨false, 4, [(enc_T_api_Base a0)]⟩)], 60⟩) rfl rfl rfl) ?_
  refine Eq.trans (reg_pure (x := (law11_Small k a0)) (w := fun v1 => (V.bool v1)) rfl rfl rfl rfl (p_call rfl rfl rfl rfl rfl (law11_Small_ok k a0) (.inl rfl))) ?_
  refine bindE (fun v1 => ?_)
  exact bind_end rfl
theorem law11_DbdNames_r2 (k : Nat) (a0 : T_api_Base) (a1 : Int) (a2 : Str) : regionE prog (evF prog anns ext k) law11_DbdNames_a2 law11_DbdNames_o2 false ⟨[(1, (V.int .i64 a1)), (2, (V.str a2)), (3, (V.ptr 3 0 0)), (13, (V.bool true))], [(3, ⟨false, 4, [(enc_T_api_Base a0)]⟩)], 60⟩ = ((law11_First k)).map (fun (o : Bool) => (⟨[(6, (V.bool o))], [], 60⟩ : St)) := by
  refine Eq.trans regionE_reg ?_
  refine Eq.trans (reg_pure (x := (law11_First k)) (w := fun v3 => (V.bool v3)) rfl rfl rfl rfl (p_call rfl rfl rfl rfl rfl (law11_First_ok k) (.inl rfl))) ?_
  refine bind_self (fun v3 => ?_)
  exact bind_end rfl
theorem law11_DbdNames_r3 (k : Nat) (a0 : T_api_Base) (a1 : Int) (a2 : Str) : regionE prog (evF prog anns ext k) law11_DbdNames_a3 law11_DbdNames_o3 false ⟨[(1, (V.int .i64 a1)), (2, (V.str a2)), (3, (V.ptr 3 0 0)), (13, (V.bool false))], [(3, ⟨false, 4, [(enc_T_api_Base a0)]⟩)], 60⟩ = (((dbd_Type k a0 a2).bind fun v5 => (some (v5.1, v5.2)))).map (fun (o : Int × Int) => (⟨[(1, (V.int .i64 a1)), (2, (V.str a2)), (3, (V.ptr 3 0 0)), (7, (V.int .i64 o.1)), (8, (V.int .i64 o.2))], [(3, ⟨false, 4, [(enc_T_api_Base a0)]⟩)], 60⟩ : St)) := by
  refine Eq.trans regionE_reg ?_
  refine Eq.trans (reg_adv (m := 2) (j := 2) (st' := ⟨[(1, (V.int .i64 a1)), (2, (V.str a2)), (3, (V.ptr 3 0 0)), (13, (V.bool false)), (16, (enc_T_api_Base a0)), (17, (V.str a2))], [(3, ⟨false, 4, [(enc_T_api_Base a0)]⟩)], 60⟩) rfl rfl rfl) ?_
  refine Eq.trans (reg_pure (x := (dbd_Type k a0 a2)) (w := fun v5 => (V.tup [(V.int .i64 v5.1), (V.int .i64 v5.2)])) rfl rfl rfl rfl (p_call rfl rfl rfl rfl rfl (dbd_Type_ok k a0 a2) (.inl rfl))) ?_
  refine bindE (fun v5 => ?_)
  exact bind_end rfl
theorem law11_DbdNames_r4 (k : Nat) (a0 : T_api_Base) (a1 : Int) (a2 : Str) (o6 : Int × Int) : regionE prog (evF prog anns ext k) law11_DbdNames_a4 law11_DbdNames_o4 false ⟨[(1, (V.int .i64 a1)), (2, (V.str a2)), (3, (V.ptr 3 0 0)), (7, (V.int .i64 o6.1)), (8, (V.int .i64 o6.2))], [(3, ⟨false, 4, [(enc_T_api_Base a0)]⟩)], 60⟩ = (((ref11_Type k a0 a2).bind fun v7 => (some (v7.1, v7.2)))).map (fun (o : Int × Int) => (⟨[(1, (V.int .i64 a1)), (2, (V.str a2)), (3, (V.ptr 3 0 0)), (7, (V.int .i64 o6.1)), (8, (V.int .i64 o6.2)), (9, (V.int .i64 o.1)), (10, (V.int .i64 o.2))], [(3, ⟨false, 4, [(enc_T_api_Base a0)]⟩)], 60⟩ : St)) := by
  refine Eq.trans regionE_reg ?_
  refine Eq.trans (reg_adv (m := 2) (j := 2) (st' := ⟨[(1, (V.int .i64 a1)), (2, (V.str a2)), (3, (V.ptr 3 0 0)), (7, (V.int .i64 o6.1)), (8, (V.int .i64 o6.2)), (22, (enc_T_api_Base a0)), (23, (V.str a2))], [(3, ⟨false, 4, [(enc_T_api_Base a0)]⟩)], 60⟩) rfl rfl rfl) ?_
  refine Eq.trans (reg_pure (x := (ref11_Type k a0 a2)) (w := fun v7 => (V.tup [(V.int .i64 v7.1), (V.int .i64 v7.2)])) rfl rfl rfl rfl (p_call rfl rfl rfl rfl rfl (ref11_Type_ok k a0 a2) (.inl rfl))) ?_
  refine bindE (fun v7 => ?_)
  exact bind_end rfl
theorem law11_DbdNames_r5 (k : Nat) (a0 : T_api_Base) (a1 : Int) (a2 : Str) (o6 : Int × Int) (o8 : Int × Int) : regionE prog (evF prog anns ext k) law11_DbdNames_a5 law11_DbdNames_o5 false ⟨[(1, (V.int .i64 a1)), (2, (V.str a2)), (3, (V.ptr 3 0 0)), (7, (V.int .i64 o6.1)), (8, (V.int .i64 o6.2)), (9, (V.int .i64 o8.1)), (10, (V.int .i64 o8.2))], [(3, ⟨false, 4, [(enc_T_api_Base a0)]⟩)], 60⟩ = ((bif (o6.1 != o8.1) then (some (true)) else (some ((o6.2 != o8.2))))).map (fun (o : Bool) => (⟨[(1, (V.int .i64 a1)), (2, (V.str a2)), (3, (V.ptr 3 0 0)), (34, (V.bool o))], [(3, ⟨false, 4, [(enc_T_api_Base a0)]⟩)], 60⟩ : St)) := by
  refine Eq.trans regionE_reg ?_
  refine Eq.trans (reg_adv (m := 4) (j := 4) (st' := ⟨[(1, (V.int .i64 a1)), (2, (V.str a2)), (3, (V.ptr 3 0 0)), (7, (V.int .i64 o6.1)), (8, (V.int .i64 o6.2)), (9, (V.int .i64 o8.1)), (10, (V.int .i64 o8.2)), (27, (V.int .i64 o6.1)), (28, (V.int .i64 o8.1)), (29, (V.bool (o6.1 != o8.1))), (30, (V.bool (o6.1 != o8.1)))], [(3, ⟨false, 4, [(enc_T_api_Base a0)]⟩)], 60⟩) rfl rfl rfl) ?_
  refine bifE (c := (o6.1 != o8.1)) (fun hc => ?_) (fun hc => ?_)
  · rw [hc]
    exact reg_end rfl
  · rw [hc]
    exact reg_end rfl
theorem law11_DbdNames_r6 (k : Nat) (a0 : T_api_Base) (a1 : Int) (a2 : Str) : regionE prog (evF prog anns ext k) law11_DbdNames_a6 law11_DbdNames_o6 false ⟨[(1, (V.int .i64 a1)), (2, (V.str a2)), (3, (V.ptr 3 0 0)), (34, (V.bool true))], [(3, ⟨false, 4, [(enc_T_api_Base a0)]⟩)], 60⟩ = some ⟨[(6, (V.bool false))], [], 60⟩ := by
  refine Eq.trans regionE_reg ?_
  exact reg_end rfl
theorem law11_DbdNames_r7 (k : Nat) (a0 : T_api_Base) (a1 : Int) (a2 : Str) : regionE prog (evF prog anns ext k) law11_DbdNames_a7 law11_DbdNames_o7 false ⟨[(1, (V.int .i64 a1)), (2, (V.str a2)), (3, (V.ptr 3 0 0)), (34, (V.bool false))], [(3, ⟨false, 4, [(enc_T_api_Base a0)]⟩)], 60⟩ = (((dbd_Field k a0 a1 a2).bind fun v10 => (some (v10.1, v10.2)))).map (fun (o : Int × Int) => (⟨[(1, (V.int .i64 a1)), (2, (V.str a2)), (3, (V.ptr 3 0 0)), (7, (V.int .i64 o.1)), (8, (V.int .i64 o.2))], [(3, ⟨false, 4, [(enc_T_api_Base a0)]⟩)], 60⟩ : St)) := by
  refine Eq.trans regionE_reg ?_
  refine Eq.trans (reg_adv (m := 3) (j := 3) (st' := ⟨[(1, (V.int .i64 a1)), (2, (V.str a2)), (3, (V.ptr 3 0 0)), (34, (V.bool false)), (36, (enc_T_api_Base a0)), (37, (V.int .i64 a1)), (38, (V.str a2))], [(3, ⟨false, 4, [(enc_T_api_Base a0)]⟩)], 60⟩) rfl rfl rfl) ?_
  refine Eq.trans (reg_pure (x := (dbd_Field k a0 a1 a2)) (w := fun v10 => (V.tup [(V.int .i64 v10.1), (V.int .i64 v10.2)])) rfl rfl rfl rfl (p_call rfl rfl rfl rfl rfl (dbd_Field_ok k a0 a1 a2) (.inl rfl))) ?_
  refine bindE (fun v10 => ?_)
  exact bind_end rfl
theorem law11_DbdNames_r8 (k : Nat) (a0 : T_api_Base) (a1 : Int) (a2 : Str) (o11 : Int × Int) : regionE prog (evF prog anns ext k) law11_DbdNames_a8 law11_DbdNames_o8 false ⟨[(1, (V.int .i64 a1)), (2, (V.str a2)), (3, (V.ptr 3 0 0)), (7, (V.int .i64 o11.1)), (8, (V.int .i64 o11.2))], [(3, ⟨false, 4, [(enc_T_api_Base a0)]⟩)], 60⟩ = (((ref11_Field k a0 a1 a2).bind fun v12 => (some (v12.1, v12.2)))).map (fun (o : Int × Int) => (⟨[(7, (V.int .i64 o11.1)), (8, (V.int .i64 o11.2)), (9, (V.int .i64 o.1)), (10, (V.int .i64 o.2))], [], 60⟩ : St)) := by
  refine Eq.trans regionE_reg ?_
  refine Eq.trans (reg_adv (m := 3) (j := 3) (st' := ⟨[(1, (V.int .i64 a1)), (2, (V.str a2)), (3, (V.ptr 3 0 0)), (7, (V.int .i64 o11.1)), (8, (V.int .i64 o11.2)), (43, (enc_T_api_Base a0)), (44, (V.int .i64 a1)), (45, (V.str a2))], [(3, ⟨false, 4, [(enc_T_api_Base a0)]⟩)], 60⟩) rfl rfl rfl) ?_
  refine Eq.trans (reg_pure (x := (ref11_Field k a0 a1 a2)) (w := fun v12 => (V.tup [(V.int .i64 v12.1), (V.int .i64 v12.2)])) rfl rfl rfl rfl (p_call rfl rfl rfl rfl rfl (ref11_Field_ok k a0 a1 a2) (.inl rfl))) ?_
  refine bindE (fun v12 => ?_)
  exact bind_end rfl
theorem law11_DbdNames_r9 (k : Nat) (o11 : Int × Int) (o13 : Int × Int) : regionE prog (evF prog anns ext k) law11_DbdNames_a9 law11_DbdNames_o9 false ⟨[(7, (V.int .i64 o11.1)), (8, (V.int .i64 o11.2)), (9, (V.int .i64 o13.1)), (10, (V.int .i64 o13.2))], [], 60⟩ = ((bif (o11.1 == o13.1) then (bif (o11.2 == o13.2) then (law11_First k) else (some (false))) else (some (false)))).map (fun (o : Bool) => (⟨[(6, (V.bool o))], [], 60⟩ : St)) := by
  refine Eq.trans regionE_reg ?_
  refine Eq.trans (reg_adv (m := 4) (j := 4) (st' := ⟨[(7, (V.int .i64 o11.1)), (8, (V.int .i64 o11.2)), (9, (V.int .i64 o13.1)), (10, (V.int .i64 o13.2)), (49, (V.int .i64 o11.1)), (50, (V.int .i64 o13.1)), (51, (V.bool (o11.1 == o13.1))), (52, (V.bool (o11.1 == o13.1)))], [], 60⟩) rfl rfl rfl) ?_
  refine bifE (c := (o11.1 == o13.1)) (fun hc => ?_) (fun hc => ?_)
  · rw [hc]
    refine Eq.trans (reg_adv (m := 5) (j := 9) (st' := ⟨[(7, (V.int .i64 o11.1)), (8, (V.int .i64 o11.2)), (9, (V.int .i64 o13.1)), (10, (V.int .i64 o13.2)), (49, (V.int .i64 o11.1)), (50, (V.int .i64 o13.1)), (51, (V.bool true)), (52, (V.bool true)), (53, (V.int .i64 o11.2)), (54, (V.int .i64 o13.2)), (55, (V.bool (o11.2 == o13.2))), (56, (V.bool (o11.2 == o13.2))), (57, (V.bool (o11.2 == o13.2)))], [], 60⟩) rfl rfl rfl) ?_
    refine bifE (c := (o11.2 == o13.2)) (fun hc => ?_) (fun hc => ?_)
    · rw [hc]
      refine Eq.trans (reg_pure (x := (law11_First k)) (w := fun v14 => (V.bool v14)) rfl rfl rfl rfl (p_call rfl rfl rfl rfl rfl (law11_First_ok k) (.inl rfl))) ?_
      refine bind_self (fun v14 => ?_)
      exact bind_end rfl
    · rw [hc]
      exact reg_end rfl
  · rw [hc]
    exact reg_end rfl
theorem law11_DbdNames_ok (k : Nat) (a0 : T_api_Base) (a1 : Int) (a2 : Str) : evF prog anns ext k 4 [(enc_T_api_Base a0), (V.int .i64 a1), (V.str a2)] = (law11_DbdNames k a0 a1 a2).map law11_DbdNames_fin := by
  cases k with
  | zero => rfl
  | succ k =>
    unfold law11_DbdNames
    refine Eq.trans (evF_succ (c := law11_DbdNames_c) (N := 60) (regs := law11_DbdNames_an) rfl Go.Proofs.Try.func4 rfl (by decide) rfl rfl rfl) ?_
    refine Eq.trans (k_region0 rfl (law11_DbdNames_r0 k a0 a1 a2)) ?_
    refine Eq.trans k_assoc ?_
    refine Eq.trans (k_region rfl (law11_DbdNames_r1 k a0 a1 a2)) ?_
    refine bindE (fun o2 => ?_)
    refine Eq.trans (k_cond (t := o2) rfl) ?_
    refine bifE2 (fun hc => ?_) (fun hc => ?_)
    · rw [hc]
      refine Eq.trans k_assoc ?_
      refine Eq.trans (k_region rfl (law11_DbdNames_r2 k a0 a1 a2)) ?_
      refine bindE (fun o4 => ?_)
      refine Eq.trans k_ret ?_
      rfl
    · rw [hc]
      refine Eq.trans k_skip ?_
      refine Eq.trans (k_region rfl (law11_DbdNames_r3 k a0 a1 a2)) ?_
      refine bindE (fun o6 => ?_)
      refine Eq.trans (k_region rfl (law11_DbdNames_r4 k a0 a1 a2 o6)) ?_
      refine bindE (fun o8 => ?_)
      refine Eq.trans k_assoc ?_
      refine Eq.trans (k_region rfl (law11_DbdNames_r5 k a0 a1 a2 o6 o8)) ?_
      refine bindE (fun o9 => ?_)
      refine Eq.trans (k_cond (t := o9) rfl) ?_
      refine bifE2 (fun hc => ?_) (fun hc => ?_)
      · rw [hc]
        refine Eq.trans k_assoc ?_
        refine Eq.trans (k_region0 rfl (law11_DbdNames_r6 k a0 a1 a2)) ?_
        refine Eq.trans k_ret ?_
        rfl
      · rw [hc]
        refine Eq.trans k_skip ?_
        refine Eq.trans (k_region rfl (law11_DbdNames_r7 k a0 a1 a2)) ?_
        refine bindE (fun o11 => ?_)
        refine Eq.trans (k_region rfl (law11_DbdNames_r8 k a0 a1 a2 o11)) ?_
        refine bindE (fun o13 => ?_)
        refine Eq.trans (k_region rfl (law11_DbdNames_r9 k o11 o13)) ?_
        refine bindE (fun o15 => ?_)
        refine Eq.trans k_lret ?_
        rfl
end Go.AE
