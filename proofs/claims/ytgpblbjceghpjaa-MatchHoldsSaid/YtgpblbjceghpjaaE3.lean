/- The program, function by function: the evaluator comes to the typed functions. Conditions: none. -/
import Derived.Test.YtgpblbjceghpjaaA3
import Derived.KernelRfl
import Derived.Test.YtgpblbjceghpjaaProg
import Derived.Test.YtgpblbjceghpjaaB1
import Derived.Test.YtgpblbjceghpjaaE2
namespace Go.AE
open Go.Proofs.Try Go.Sh
set_option linter.unusedSimpArgs false
set_option linter.unusedVariables false
set_option maxRecDepth 100000
set_option maxHeartbeats 4000000
noncomputable section
theorem ref12_Valid_ok (k : Nat) (a0 : T_api_Base) (a1 : Int) (a2 : (List (List T_api_Term))) : EV k 16 [(eBase a0), (I a1), (V.sl 0 1 (List.map sTerm a2))] = (ref12_Valid k a0 a1 a2).map ref12_Valid_fin := by
  cases k with
  | zero => rfl
  | succ k =>
    unfold ref12_Valid
    refine et (evF_succ (c := f16c) (N := 19) (regs := f16n) rfl func16 rfl (by decide) rfl rfl rfl) ?_
    refine et (k_region0 rfl (f16r0 k a0 a1 a2)) ?_
    refine et k_assoc ?_
    refine et (k_region rfl (f16r1 k a0 a1 a2)) ?_
    refine bindE (fun o2 => ?_)
    refine et k_assoc ?_
    refine et (k_region0 rfl (f16r2 k a0 a1 a2 o2)) ?_
    refine et (k_cond (t := (o2 != 0)) rfl rfl) ?_
    refine bifE2 (fun hc => ?_) fun hc => ?_
    · rw [hc]
      refine et k_assoc ?_
      refine et (k_region0 rfl (f16r3 k a0 a1 a2 o2)) ?_
      refine et k_ret ?_
      rfl
    · rw [hc]
      refine et k_skip ?_
      refine et (k_region rfl (f16r4 k a0 a1 a2 o2)) ?_
      refine bindE (fun o4 => ?_)
      refine et k_lret ?_
      rfl
def dbd_fits_fin : Bool → V × List V := fun r => ((Bo r), [])
theorem f67r0 (k : Nat) (a0 : T_api_Type) (a1 : Str) : RE k f67a0 f67o0 false ⟨[(0, (eType a0)), (1, (Sr a1))], [], 17⟩ = some ⟨[(1, (Sr a1)), (2, (Pt 2))], [(2, vS 8 (eType a0))], 17⟩ :=
  rE rfl
theorem f67r1 (k : Nat) (a0 : T_api_Type) (a1 : Str) : RE k f67a1 f67o1 false ⟨[(1, (Sr a1)), (2, (Pt 2))], [(2, vS 8 (eType a0))], 17⟩ = ((bif (decide ((a1.length : Int) ≥ a0.fMin)) then (some ((decide ((a1.length : Int) ≤ a0.fSize)))) else (some (false)))).map (fun (o : Bool) => (⟨[(4, (Bo o))], [], 17⟩ : St)) := by
  refine rg ?_
  refine ra 6 6 ⟨[(1, (Sr a1)), (2, (Pt 2)), (5, (Sr a1)), (6, (I (a1.length : Int))), (7, (V.ptr 2 0 2)), (8, (I a0.fMin)), (9, (Bo (decide ((a1.length : Int) ≥ a0.fMin)))), (10, (Bo (decide ((a1.length : Int) ≥ a0.fMin))))], [(2, vS 8 (eType a0))], 17⟩ rfl rfl rfl ?_
  refine bifE (c := (decide ((a1.length : Int) ≥ a0.fMin))) (fun hc => ?_) fun hc => ?_
  · rw [hc]
    exact reg_end rfl
  · rw [hc]
    exact reg_end rfl
theorem dbd_fits_ok (k : Nat) (a0 : T_api_Type) (a1 : Str) : EV k 67 [(eType a0), (Sr a1)] = (dbd_fits k a0 a1).map dbd_fits_fin := by
  cases k with
  | zero => rfl
  | succ k =>
    unfold dbd_fits
    refine et (evF_succ (c := f67c) (N := 17) (regs := f67n) rfl func67 rfl (by decide) rfl rfl rfl) ?_
    refine et (k_region0 rfl (f67r0 k a0 a1)) ?_
    refine et (k_region rfl (f67r1 k a0 a1)) ?_
    refine bindE (fun o1 => ?_)
    refine et k_lret ?_
    rfl
def dbd_Fits_fin : (Bool × Int) → V × List V := fun r => (.tup [(Bo r.1), (I r.2)], [])
theorem f37r0 (k : Nat) (a0 : T_api_Base) (a1 : Int) (a2 : Str) : RE k f37a0 f37o0 false ⟨[(0, (eBase a0)), (1, (I a1)), (2, (Sr a2))], [], 23⟩ = some ⟨[(1, (I a1)), (2, (Sr a2)), (3, (Pt 3))], [(3, vS 4 (eBase a0))], 23⟩ :=
  rE rfl
theorem f37r1 (k : Nat) (a0 : T_api_Base) (a1 : Int) (a2 : Str) : RE k f37a1 f37o1 false ⟨[(1, (I a1)), (2, (Sr a2)), (3, (Pt 3))], [(3, vS 4 (eBase a0))], 23⟩ = ((dbd_asked k a0 ([a1] : List Int))).map (fun (o : Int) => (⟨[(1, (I a1)), (2, (Sr a2)), (3, (Pt 3)), (8, (I o))], [(3, vS 4 (eBase a0))], 23⟩ : St)) := by
  refine rg ?_
  refine ra 3 3 ⟨[(1, (I a1)), (2, (Sr a2)), (3, (Pt 3)), (9, (eBase a0)), (10, (I a1)), (11, (sI (([a1] : List Int))))], [(3, vS 4 (eBase a0))], 23⟩ rfl rfl rfl ?_
  refine et (reg_pure (x := (dbd_asked k a0 ([a1] : List Int))) (w := fun v1 => (I v1)) rfl rfl rfl rfl (p_call rfl rfl rfl rfl rfl (dbd_asked_ok k a0 ([a1] : List Int)) (.inl rfl))) ?_
  refine bind_self (fun v1 => ?_)
  exact bind_end rfl
theorem f37r2 (k : Nat) (a0 : T_api_Base) (a1 : Int) (a2 : Str) (o2 : Int) : RE k f37a2 f37o2 false ⟨[(1, (I a1)), (2, (Sr a2)), (3, (Pt 3)), (8, (I o2))], [(3, vS 4 (eBase a0))], 23⟩ = some ⟨[(1, (I a1)), (2, (Sr a2)), (3, (Pt 3)), (8, (I o2)), (14, (Bo (o2 != 0)))], [(3, vS 4 (eBase a0))], 23⟩ :=
  rE rfl
theorem f37r3 (k : Nat) (a0 : T_api_Base) (a1 : Int) (a2 : Str) (o2 : Int) : RE k f37a3 f37o3 false ⟨[(1, (I a1)), (2, (Sr a2)), (3, (Pt 3)), (8, (I o2)), (14, (Bo true))], [(3, vS 4 (eBase a0))], 23⟩ = some ⟨[(6, (Bo false)), (7, (I o2))], [], 23⟩ :=
  rE rfl
theorem f37r4 (k : Nat) (a0 : T_api_Base) (a1 : Int) (a2 : Str) (o2 : Int) : RE k f37a4 f37o4 false ⟨[(1, (I a1)), (2, (Sr a2)), (3, (Pt 3)), (8, (I o2)), (14, (Bo false))], [(3, vS 4 (eBase a0))], 23⟩ = (((idx a0.fTypes a1).bind fun v3 => ((dbd_fits k v3 a2).bind fun v4 => (some (v4, 0))))).map (fun (o : Bool × Int) => (⟨[(6, (Bo o.1)), (7, (I o.2))], [], 23⟩ : St)) := by
  refine rg ?_
  refine ra 3 3 ⟨[(1, (I a1)), (2, (Sr a2)), (3, (Pt 3)), (8, (I o2)), (14, (Bo false)), (16, (V.ptr 3 0 2)), (17, (sType a0.fTypes)), (18, (I a1))], [(3, vS 4 (eBase a0))], 23⟩ rfl rfl rfl ?_
  refine et (reg_pure (x := (idx a0.fTypes a1)) (w := fun v3 => (Pr (eType v3))) rfl rfl rfl rfl (p_index (e := eType) rfl rfl rfl underlying22 rfl (by decide))) ?_
  refine bindE (fun v3 => ?_)
  refine ba 2 6 ⟨[(1, (I a1)), (2, (Sr a2)), (3, (Pt 3)), (8, (I o2)), (14, (Bo false)), (16, (V.ptr 3 0 2)), (17, (sType a0.fTypes)), (18, (I a1)), (19, (Pr (eType v3))), (20, (eType v3)), (21, (Sr a2))], [(3, vS 4 (eBase a0))], 23⟩ rfl rfl rfl ?_
  refine et (reg_pure (x := (dbd_fits k v3 a2)) (w := fun v4 => (Bo v4)) rfl rfl rfl rfl (p_call rfl rfl rfl rfl rfl (dbd_fits_ok k v3 a2) (.inl rfl))) ?_
  refine bindE (fun v4 => ?_)
  exact bind_end rfl
theorem dbd_Fits_ok (k : Nat) (a0 : T_api_Base) (a1 : Int) (a2 : Str) : EV k 37 [(eBase a0), (I a1), (Sr a2)] = (dbd_Fits k a0 a1 a2).map dbd_Fits_fin := by
  cases k with
  | zero => rfl
  | succ k =>
    unfold dbd_Fits
    refine et (evF_succ (c := f37c) (N := 23) (regs := f37n) rfl func37 rfl (by decide) rfl rfl rfl) ?_
    refine et (k_region0 rfl (f37r0 k a0 a1 a2)) ?_
    refine et k_assoc ?_
    refine et (k_region rfl (f37r1 k a0 a1 a2)) ?_
    refine bindE (fun o2 => ?_)
    refine et k_assoc ?_
    refine et (k_region0 rfl (f37r2 k a0 a1 a2 o2)) ?_
    refine et (k_cond (t := (o2 != 0)) rfl rfl) ?_
    refine bifE2 (fun hc => ?_) fun hc => ?_
    · rw [hc]
      refine et k_assoc ?_
      refine et (k_region0 rfl (f37r3 k a0 a1 a2 o2)) ?_
      refine et k_ret ?_
      rfl
    · rw [hc]
      refine et k_skip ?_
      refine et (k_region rfl (f37r4 k a0 a1 a2 o2)) ?_
      refine bindE (fun o5 => ?_)
      refine et k_lret ?_
      rfl
def match_Holds_2_1_v12_fin : Bool → V × List V := fun r => ((Bo r), [])
theorem f43v12r0 (k : Nat) (a0 : T_api_Term) (a1 : Nat → T_api_Term → Option Bool) (a1_fid : Go.FuncId) (a1_c0 : V) (a1_c1 : V) (a1_hok : ∀ j x0, EV j a1_fid [(eTerm x0), V.pro a1_c0, V.pro a1_c1] = (a1 j x0).map fun b => ((Bo b), [])) : RE k f43v12a0 f43v12o0 false ⟨[(0, (eTerm a0)), (1, (Pr (V.fn a1_fid [] [V.pro a1_c0, V.pro a1_c1])))], [], 8⟩ = some ⟨[(1, (Pr (V.fn a1_fid [] [V.pro a1_c0, V.pro a1_c1]))), (2, (Pt 2))], [(2, vS 3 (eTerm a0))], 8⟩ :=
  rE rfl
theorem f43v12r1 (k : Nat) (a0 : T_api_Term) (a1 : Nat → T_api_Term → Option Bool) (a1_fid : Go.FuncId) (a1_c0 : V) (a1_c1 : V) (a1_hok : ∀ j x0, EV j a1_fid [(eTerm x0), V.pro a1_c0, V.pro a1_c1] = (a1 j x0).map fun b => ((Bo b), [])) : RE k f43v12a1 f43v12o1 false ⟨[(1, (Pr (V.fn a1_fid [] [V.pro a1_c0, V.pro a1_c1]))), (2, (Pt 2))], [(2, vS 3 (eTerm a0))], 8⟩ = (((a1 k a0).bind fun v1 => (some ((!v1))))).map (fun (o : Bool) => (⟨[(3, (Bo o))], [], 8⟩ : St)) := by
  refine rg ?_
  refine ra 2 2 ⟨[(1, (Pr (V.fn a1_fid [] [V.pro a1_c0, V.pro a1_c1]))), (2, (Pt 2)), (4, (V.fn a1_fid [] [V.pro a1_c0, V.pro a1_c1])), (5, (eTerm a0))], [(2, vS 3 (eTerm a0))], 8⟩ rfl rfl rfl ?_
  refine et (reg_pure (x := (a1 k a0)) (w := fun v1 => (Bo v1)) rfl rfl rfl rfl (p_call rfl rfl rfl rfl rfl (a1_hok k a0) (.inl rfl))) ?_
  refine bindE (fun v1 => ?_)
  exact bind_end rfl
theorem match_Holds_2_1_v12_ok (k : Nat) (a0 : T_api_Term) (a1 : Nat → T_api_Term → Option Bool) (a1_fid : Go.FuncId) (a1_c0 : V) (a1_c1 : V) (a1_hok : ∀ j x0, EV j a1_fid [(eTerm x0), V.pro a1_c0, V.pro a1_c1] = (a1 j x0).map fun b => ((Bo b), [])) : EV k 43 [(eTerm a0), (Pr (V.fn a1_fid [] [V.pro a1_c0, V.pro a1_c1]))] = (match_Holds_2_1_v12 k a0 a1).map match_Holds_2_1_v12_fin := by
  cases k with
  | zero => rfl
  | succ k =>
    unfold match_Holds_2_1_v12
    refine et (evF_succ (c := f43v12c) (N := 8) (regs := f43v12n) rfl func43 rfl (by decide) rfl rfl rfl) ?_
    refine et (k_region0 rfl (f43v12r0 k a0 a1 a1_fid a1_c0 a1_c1 a1_hok)) ?_
    refine et (k_region rfl (f43v12r1 k a0 a1 a1_fid a1_c0 a1_c1 a1_hok)) ?_
    refine bindE (fun o2 => ?_)
    refine et k_lret ?_
    rfl
def match_Holds_2_v12_fin : Bool → V × List V := fun r => ((Bo r), [])
theorem f41v12r0 (k : Nat) (a0 : (List T_api_Term)) (a1 : Nat → T_api_Term → Option Bool) (a1_fid : Go.FuncId) (a1_c0 : V) (a1_c1 : V) (a1_hok : ∀ j x0, EV j a1_fid [(eTerm x0), V.pro a1_c0, V.pro a1_c1] = (a1 j x0).map fun b => ((Bo b), [])) : RE k f41v12a0 f41v12o0 false ⟨[(0, (sTerm a0)), (1, (Pr (V.fn a1_fid [] [V.pro a1_c0, V.pro a1_c1])))], [], 8⟩ = some ⟨[(0, (sTerm a0)), (1, (Pr (V.fn a1_fid [] [V.pro a1_c0, V.pro a1_c1])))], [], 8⟩ :=
  rE rfl
theorem f41v12r1 (k : Nat) (a0 : (List T_api_Term)) (a1 : Nat → T_api_Term → Option Bool) (a1_fid : Go.FuncId) (a1_c0 : V) (a1_c1 : V) (a1_hok : ∀ j x0, EV j a1_fid [(eTerm x0), V.pro a1_c0, V.pro a1_c1] = (a1 j x0).map fun b => ((Bo b), [])) : RE k f41v12a1 f41v12o1 false ⟨[(0, (sTerm a0)), (1, (Pr (V.fn a1_fid [] [V.pro a1_c0, V.pro a1_c1])))], [], 8⟩ = (((slices_ContainsFunc_Term k a0 (fun j x0 => (match_Holds_2_1_v12 j x0 a1))).bind fun v1 => (some ((!v1))))).map (fun (o : Bool) => (⟨[(3, (Bo o))], [], 8⟩ : St)) := by
  refine rg ?_
  refine ra 2 2 ⟨[(0, (sTerm a0)), (1, (Pr (V.fn a1_fid [] [V.pro a1_c0, V.pro a1_c1]))), (4, (sTerm a0)), (5, (V.fn 43 [] [(Pr (V.fn a1_fid [] [V.pro a1_c0, V.pro a1_c1]))]))], [], 8⟩ rfl rfl rfl ?_
  refine et (reg_pure (x := (slices_ContainsFunc_Term k a0 (fun j x0 => (match_Holds_2_1_v12 j x0 a1)))) (w := fun v1 => (Bo v1)) rfl rfl rfl rfl (p_call rfl rfl rfl rfl rfl (slices_ContainsFunc_Term_ok k a0 (fun j x0 => (match_Holds_2_1_v12 j x0 a1)) 43 (V.fn a1_fid [] [V.pro a1_c0, V.pro a1_c1]) (fun j x0 => (match_Holds_2_1_v12_ok j x0 a1 a1_fid a1_c0 a1_c1 a1_hok))) (.inl rfl))) ?_
  refine bindE (fun v1 => ?_)
  exact bind_end rfl
theorem match_Holds_2_v12_ok (k : Nat) (a0 : (List T_api_Term)) (a1 : Nat → T_api_Term → Option Bool) (a1_fid : Go.FuncId) (a1_c0 : V) (a1_c1 : V) (a1_hok : ∀ j x0, EV j a1_fid [(eTerm x0), V.pro a1_c0, V.pro a1_c1] = (a1 j x0).map fun b => ((Bo b), [])) : EV k 41 [(sTerm a0), (Pr (V.fn a1_fid [] [V.pro a1_c0, V.pro a1_c1]))] = (match_Holds_2_v12 k a0 a1).map match_Holds_2_v12_fin := by
  cases k with
  | zero => rfl
  | succ k =>
    unfold match_Holds_2_v12
    refine et (evF_succ (c := f41v12c) (N := 8) (regs := f41v12n) rfl func41 rfl (by decide) rfl rfl rfl) ?_
    refine et (k_region0 rfl (f41v12r0 k a0 a1 a1_fid a1_c0 a1_c1 a1_hok)) ?_
    refine et (k_region rfl (f41v12r1 k a0 a1 a1_fid a1_c0 a1_c1 a1_hok)) ?_
    refine bindE (fun o2 => ?_)
    refine et k_lret ?_
    rfl
def strings_Compare_fin : Int → V × List V := fun r => (I r, [])
theorem strings_Compare_ok (k : Nat) (s n : Str) : EV k 70 [(Sr s), (Sr n)] = (strings_Compare k s n).map strings_Compare_fin := by
  cases k with
  | zero => rfl
  | succ k => exact (evF_ext (ext := ext) (f := 70) rfl).trans rfl
def match_holds_fin : Bool → V × List V := fun r => ((Bo r), [])
theorem f40r0 (k : Nat) (a0 : Int) (a1 : Str) (a2 : Str) : RE k f40a0 f40o0 false ⟨[(0, (I a0)), (1, (Sr a1)), (2, (Sr a2))], [], 34⟩ = some ⟨[(0, (I a0)), (1, (Sr a1)), (2, (Sr a2))], [], 34⟩ :=
  rE rfl
theorem f40r1 (k : Nat) (a0 : Int) (a1 : Str) (a2 : Str) : RE k f40a1 f40o1 false ⟨[(0, (I a0)), (1, (Sr a1)), (2, (Sr a2))], [], 34⟩ = ((strings_Compare k a1 a2)).map (fun (o : Int) => (⟨[(0, (I a0)), (7, (I o))], [], 34⟩ : St)) := by
  refine rg ?_
  refine ra 2 2 ⟨[(0, (I a0)), (1, (Sr a1)), (2, (Sr a2)), (8, (Sr a1)), (9, (Sr a2))], [], 34⟩ rfl rfl rfl ?_
  refine et (reg_pure (x := (strings_Compare k a1 a2)) (w := fun v1 => (I v1)) rfl rfl rfl rfl (p_call rfl rfl rfl rfl rfl (strings_Compare_ok k a1 a2) (.inl rfl))) ?_
  refine bind_self (fun v1 => ?_)
  exact bind_end rfl
theorem f40r2 (k : Nat) (a0 : Int) (o2 : Int) : RE k f40a2 f40o2 false ⟨[(0, (I a0)), (7, (I o2))], [], 34⟩ = some ⟨[(7, (I o2)), (11, (I a0))], [], 34⟩ :=
  rE rfl
theorem f40r3 (k : Nat) (a0 : Int) (o2 : Int) : RE k f40a3 f40o3 false ⟨[(7, (I o2)), (11, (I a0))], [], 34⟩ = some ⟨[(7, (I o2)), (11, (I a0)), (12, (Bo (a0 == 1)))], [], 34⟩ :=
  rE rfl
theorem f40r4 (k : Nat) (a0 : Int) (o2 : Int) : RE k f40a4 f40o4 false ⟨[(7, (I o2)), (11, (I a0)), (12, (Bo true))], [], 34⟩ = some ⟨[(6, (Bo (o2 == 0)))], [], 34⟩ :=
  rE rfl
theorem f40r5 (k : Nat) (a0 : Int) (o2 : Int) : RE k f40a5 f40o5 false ⟨[(7, (I o2)), (11, (I a0)), (12, (Bo false))], [], 34⟩ = some ⟨[(7, (I o2)), (11, (I a0)), (16, (Bo (a0 == 2)))], [], 34⟩ :=
  rE rfl
theorem f40r6 (k : Nat) (a0 : Int) (o2 : Int) : RE k f40a6 f40o6 false ⟨[(7, (I o2)), (11, (I a0)), (16, (Bo true))], [], 34⟩ = some ⟨[(6, (Bo (o2 != 0)))], [], 34⟩ :=
  rE rfl
theorem f40r7 (k : Nat) (a0 : Int) (o2 : Int) : RE k f40a7 f40o7 false ⟨[(7, (I o2)), (11, (I a0)), (16, (Bo false))], [], 34⟩ = some ⟨[(7, (I o2)), (11, (I a0)), (20, (Bo (a0 == 3)))], [], 34⟩ :=
  rE rfl
theorem f40r8 (k : Nat) (a0 : Int) (o2 : Int) : RE k f40a8 f40o8 false ⟨[(7, (I o2)), (11, (I a0)), (20, (Bo true))], [], 34⟩ = some ⟨[(6, (Bo (decide (o2 < 0))))], [], 34⟩ :=
  rE rfl
theorem f40r9 (k : Nat) (a0 : Int) (o2 : Int) : RE k f40a9 f40o9 false ⟨[(7, (I o2)), (11, (I a0)), (20, (Bo false))], [], 34⟩ = some ⟨[(7, (I o2)), (11, (I a0)), (24, (Bo (a0 == 4)))], [], 34⟩ :=
  rE rfl
theorem f40r10 (k : Nat) (a0 : Int) (o2 : Int) : RE k f40a10 f40o10 false ⟨[(7, (I o2)), (11, (I a0)), (24, (Bo true))], [], 34⟩ = some ⟨[(6, (Bo (decide (o2 ≤ 0))))], [], 34⟩ :=
  rE rfl
theorem f40r11 (k : Nat) (a0 : Int) (o2 : Int) : RE k f40a11 f40o11 false ⟨[(7, (I o2)), (11, (I a0)), (24, (Bo false))], [], 34⟩ = some ⟨[(7, (I o2)), (28, (Bo (a0 == 5)))], [], 34⟩ :=
  rE rfl
theorem f40r12 (k : Nat) (o2 : Int) : RE k f40a12 f40o12 false ⟨[(7, (I o2)), (28, (Bo true))], [], 34⟩ = some ⟨[(6, (Bo (decide (o2 > 0))))], [], 34⟩ :=
  rE rfl
theorem f40r13 (k : Nat) (o2 : Int) : RE k f40a13 f40o13 false ⟨[(7, (I o2)), (28, (Bo false))], [], 34⟩ = some ⟨[(6, (Bo (decide (o2 ≥ 0))))], [], 34⟩ :=
  rE rfl
theorem match_holds_ok (k : Nat) (a0 : Int) (a1 : Str) (a2 : Str) : EV k 40 [(I a0), (Sr a1), (Sr a2)] = (match_holds k a0 a1 a2).map match_holds_fin := by
  cases k with
  | zero => rfl
  | succ k =>
    unfold match_holds
    refine et (evF_succ (c := f40c) (N := 34) (regs := f40n) rfl func40 rfl (by decide) rfl rfl rfl) ?_
    refine et (k_region0 rfl (f40r0 k a0 a1 a2)) ?_
    refine et (k_region rfl (f40r1 k a0 a1 a2)) ?_
    refine bindE (fun o2 => ?_)
    refine et k_assoc ?_
    refine et (k_region0 rfl (f40r2 k a0 o2)) ?_
    refine et (k_block rfl) ?_
    refine et (k_region0 rfl (f40r3 k a0 o2)) ?_
    refine et (k_lcond (t := (a0 == 1)) rfl rfl) ?_
    refine bifE2 (fun hc => ?_) fun hc => ?_
    · rw [hc]
      refine et (k_region0 rfl (f40r4 k a0 o2)) ?_
      refine et k_lret ?_
      refine et blk_ret ?_
      rfl
    · rw [hc]
      refine et (k_region0 rfl (f40r5 k a0 o2)) ?_
      refine et (k_lcond (t := (a0 == 2)) rfl rfl) ?_
      refine bifE2 (fun hc => ?_) fun hc => ?_
      · rw [hc]
        refine et (k_region0 rfl (f40r6 k a0 o2)) ?_
        refine et k_lret ?_
        refine et blk_ret ?_
        rfl
      · rw [hc]
        refine et (k_region0 rfl (f40r7 k a0 o2)) ?_
        refine et (k_lcond (t := (a0 == 3)) rfl rfl) ?_
        refine bifE2 (fun hc => ?_) fun hc => ?_
        · rw [hc]
          refine et (k_region0 rfl (f40r8 k a0 o2)) ?_
          refine et k_lret ?_
          refine et blk_ret ?_
          rfl
        · rw [hc]
          refine et (k_region0 rfl (f40r9 k a0 o2)) ?_
          refine et (k_lcond (t := (a0 == 4)) rfl rfl) ?_
          refine bifE2 (fun hc => ?_) fun hc => ?_
          · rw [hc]
            refine et (k_region0 rfl (f40r10 k a0 o2)) ?_
            refine et k_lret ?_
            refine et blk_ret ?_
            rfl
          · rw [hc]
            refine et (k_region0 rfl (f40r11 k a0 o2)) ?_
            refine et (k_lcond (t := (a0 == 5)) rfl rfl) ?_
            refine bifE2 (fun hc => ?_) fun hc => ?_
            · rw [hc]
              refine et (k_region0 rfl (f40r12 k o2)) ?_
              refine et k_lret ?_
              refine et blk_ret ?_
              rfl
            · rw [hc]
              refine et k_lskip ?_
              refine et blk_normal ?_
              refine et (k_region0 rfl (f40r13 k o2)) ?_
              refine et k_lret ?_
              rfl
def match_Holds_1_fin : Bool → V × List V := fun r => ((Bo r), [])
theorem f38r0 (k : Nat) (a0 : T_api_Term) (a1 : T_api_Type) (a2 : Str) : RE k f38a0 f38o0 false ⟨[(0, (eTerm a0)), (1, (Pr (eType a1))), (2, (Pr (Sr a2)))], [], 44⟩ = some ⟨[(1, (Pr (eType a1))), (2, (Pr (Sr a2))), (3, (Pt 3))], [(3, vS 3 (eTerm a0))], 44⟩ :=
  rE rfl
theorem f38r1 (k : Nat) (a0 : T_api_Term) (a1 : T_api_Type) (a2 : Str) : RE k f38a1 f38o1 false ⟨[(1, (Pr (eType a1))), (2, (Pr (Sr a2))), (3, (Pt 3))], [(3, vS 3 (eTerm a0))], 44⟩ = (((match_field k a1 a0.fField).bind fun v1 => (some (v1.1)))).map (fun (o : Int) => (⟨[(1, (Pr (eType a1))), (2, (Pr (Sr a2))), (3, (Pt 3)), (5, (I o))], [(3, vS 3 (eTerm a0))], 44⟩ : St)) := by
  refine rg ?_
  refine ra 3 3 ⟨[(1, (Pr (eType a1))), (2, (Pr (Sr a2))), (3, (Pt 3)), (9, (eType a1)), (10, (Pt 3)), (11, (Sr a0.fField))], [(3, vS 3 (eTerm a0))], 44⟩ rfl rfl rfl ?_
  refine et (reg_pure (x := (match_field k a1 a0.fField)) (w := fun v1 => (V.tup [(I v1.1), (Bo v1.2)])) rfl rfl rfl rfl (p_call rfl rfl rfl rfl rfl (match_field_ok k a1 a0.fField) (.inl rfl))) ?_
  refine bindE (fun v1 => ?_)
  exact bind_end rfl
theorem f38r2 (k : Nat) (a0 : T_api_Term) (a1 : T_api_Type) (a2 : Str) (o2 : Int) : RE k f38a2 f38o2 false ⟨[(1, (Pr (eType a1))), (2, (Pr (Sr a2))), (3, (Pt 3)), (5, (I o2))], [(3, vS 3 (eTerm a0))], 44⟩ = ((idx a1.fFields o2)).map (fun (o : T_api_Field) => (⟨[(2, (Pr (Sr a2))), (3, (Pt 3)), (7, (Pt 7))], [(3, vS 3 (eTerm a0)), (7, vS 3 (eField o))], 44⟩ : St)) := by
  refine rg ?_
  refine ra 3 3 ⟨[(1, (Pr (eType a1))), (2, (Pr (Sr a2))), (3, (Pt 3)), (5, (I o2)), (15, (Pr (sField a1.fFields))), (16, (sField a1.fFields)), (17, (I o2))], [(3, vS 3 (eTerm a0))], 44⟩ rfl rfl rfl ?_
  refine et (reg_pure (x := (idx a1.fFields o2)) (w := fun v3 => (Pr (eField v3))) rfl rfl rfl rfl (p_index (e := eField) rfl rfl rfl underlying43 rfl (by decide))) ?_
  refine bind_self (fun v3 => ?_)
  exact bind_end rfl
theorem f38r3 (k : Nat) (a0 : T_api_Term) (a2 : Str) (o4 : T_api_Field) : RE k f38a3 f38o3 true ⟨[(2, (Pr (Sr a2))), (3, (Pt 3)), (7, (Pt 7))], [(3, vS 3 (eTerm a0)), (7, vS 3 (eField o4))], 44⟩ = ((bif (decide ((Go.IntKind.wrap .i64 (o4.fAt + o4.fBytes)) ≤ (a2.length : Int))) then ((cut a2 o4.fAt (Go.IntKind.wrap .i64 (o4.fAt + o4.fBytes))).bind fun v5 => (match_holds k a0.fOp v5 a0.fValue)) else (some (false)))).map (fun (o : Bool) => (⟨[(4, (Bo o))], [], 44⟩ : St)) := by
  refine et (regionE_regp (p := 25) (dk := true) (t := [(2, (Pr (Sr a2))), (3, (Pt 3)), (7, (Pt 7))]) (σ := [(3, vS 3 (eTerm a0)), (7, vS 3 (eField o4))]) (n := 44) rfl (by decide) (by decide) rfl) ?_
  refine et (regp_adv (m := 9) (j := 9) (t' := [(2, (Pr (Sr a2))), (3, (Pt 3)), (7, (Pt 7)), (20, (V.ptr 7 0 1)), (21, (I o4.fAt)), (22, (V.ptr 7 0 2)), (23, (I o4.fBytes)), (24, (I (Go.IntKind.wrap .i64 (o4.fAt + o4.fBytes)))), (25, (Sr a2)), (26, (I (a2.length : Int))), (27, (Bo (decide ((Go.IntKind.wrap .i64 (o4.fAt + o4.fBytes)) ≤ (a2.length : Int))))), (28, (Bo (decide ((Go.IntKind.wrap .i64 (o4.fAt + o4.fBytes)) ≤ (a2.length : Int)))))]) rfl rfl rfl) ?_
  refine bifE (c := (decide ((Go.IntKind.wrap .i64 (o4.fAt + o4.fBytes)) ≤ (a2.length : Int)))) (fun hc => ?_) fun hc => ?_
  · rw [hc]
    refine et (regp_adv (m := 10) (j := 19) (t' := [(2, (Pr (Sr a2))), (3, (Pt 3)), (7, (Pt 7)), (20, (V.ptr 7 0 1)), (21, (I o4.fAt)), (22, (V.ptr 7 0 2)), (23, (I o4.fBytes)), (24, (I (Go.IntKind.wrap .i64 (o4.fAt + o4.fBytes)))), (25, (Sr a2)), (26, (I (a2.length : Int))), (27, (Bo true)), (28, (Bo true)), (29, (V.ptr 3 0 1)), (30, (I a0.fOp)), (31, (Sr a2)), (32, (V.ptr 7 0 1)), (33, (I o4.fAt)), (34, (V.ptr 7 0 1)), (35, (I o4.fAt)), (36, (V.ptr 7 0 2)), (37, (I o4.fBytes)), (38, (I (Go.IntKind.wrap .i64 (o4.fAt + o4.fBytes))))]) rfl rfl rfl) ?_
    refine et (regp_pure (x := (cut a2 o4.fAt (Go.IntKind.wrap .i64 (o4.fAt + o4.fBytes)))) (w := fun v5 => (Sr v5)) rfl rfl rfl rfl rfl (p_sliceS rfl rfl rfl rfl rfl rfl underlying9)) ?_
    refine bindE (fun v5 => ?_)
    refine et (putp_adv (m := 2) (j := 22) (t' := [(2, (Pr (Sr a2))), (3, (Pt 3)), (7, (Pt 7)), (20, (V.ptr 7 0 1)), (21, (I o4.fAt)), (22, (V.ptr 7 0 2)), (23, (I o4.fBytes)), (24, (I (Go.IntKind.wrap .i64 (o4.fAt + o4.fBytes)))), (25, (Sr a2)), (26, (I (a2.length : Int))), (27, (Bo true)), (28, (Bo true)), (29, (V.ptr 3 0 1)), (30, (I a0.fOp)), (31, (Sr a2)), (32, (V.ptr 7 0 1)), (33, (I o4.fAt)), (34, (V.ptr 7 0 1)), (35, (I o4.fAt)), (36, (V.ptr 7 0 2)), (37, (I o4.fBytes)), (38, (I (Go.IntKind.wrap .i64 (o4.fAt + o4.fBytes)))), (39, (Sr v5)), (40, (V.ptr 3 0 2)), (41, (Sr a0.fValue))]) rfl rfl rfl) ?_
    refine et (regp_pure (x := (match_holds k a0.fOp v5 a0.fValue)) (w := fun v6 => (Bo v6)) rfl rfl rfl rfl rfl (p_call rfl rfl rfl rfl rfl (match_holds_ok k a0.fOp v5 a0.fValue) (.inl rfl))) ?_
    refine bind_self (fun v6 => ?_)
    exact regp_end rfl
  · rw [hc]
    exact regp_end rfl
theorem match_Holds_1_ok (k : Nat) (a0 : T_api_Term) (a1 : T_api_Type) (a2 : Str) : EV k 38 [(eTerm a0), (Pr (eType a1)), (Pr (Sr a2))] = (match_Holds_1 k a0 a1 a2).map match_Holds_1_fin := by
  cases k with
  | zero => rfl
  | succ k =>
    unfold match_Holds_1
    refine et (evF_succ (c := f38c) (N := 44) (regs := f38n) rfl func38 rfl (by decide) rfl rfl rfl) ?_
    refine et (k_region0 rfl (f38r0 k a0 a1 a2)) ?_
    refine et (k_region rfl (f38r1 k a0 a1 a2)) ?_
    refine bindE (fun o2 => ?_)
    refine et (k_region rfl (f38r2 k a0 a1 a2 o2)) ?_
    refine bindE (fun o4 => ?_)
    refine et (k_region rfl (f38r3 k a0 a2 o4)) ?_
    refine bindE (fun o7 => ?_)
    refine et k_lret ?_
    rfl
def match_Holds_fin : (Bool × Int) → V × List V := fun r => (.tup [(Bo r.1), (I r.2)], [])
theorem f17r0 (k : Nat) (a0 : T_api_Base) (a1 : Int) (a2 : (List (List T_api_Term))) (a3 : Str) : RE k f17a0 f17o0 false ⟨[(0, (eBase a0)), (1, (I a1)), (2, (V.sl 0 1 (List.map sTerm a2))), (3, (Sr a3))], [], 50⟩ = some ⟨[(1, (I a1)), (2, (V.sl 0 1 (List.map sTerm a2))), (4, (Pt 4)), (7, (Pt 7))], [(4, vS 4 (eBase a0)), (7, vS 1 (Sr a3))], 50⟩ :=
  rE rfl
theorem f17r1 (k : Nat) (a0 : T_api_Base) (a1 : Int) (a2 : (List (List T_api_Term))) (a3 : Str) : RE k f17a1 f17o1 false ⟨[(1, (I a1)), (2, (V.sl 0 1 (List.map sTerm a2))), (4, (Pt 4)), (7, (Pt 7))], [(4, vS 4 (eBase a0)), (7, vS 1 (Sr a3))], 50⟩ = (((dbd_Fits k a0 a1 a3).bind fun v1 => (some (v1.1, v1.2)))).map (fun (o : Bool × Int) => (⟨[(1, (I a1)), (2, (V.sl 0 1 (List.map sTerm a2))), (4, (Pt 4)), (7, (Pt 7)), (10, (Bo o.1)), (11, (I o.2))], [(4, vS 4 (eBase a0)), (7, vS 1 (Sr a3))], 50⟩ : St)) := by
  refine rg ?_
  refine ra 3 3 ⟨[(1, (I a1)), (2, (V.sl 0 1 (List.map sTerm a2))), (4, (Pt 4)), (7, (Pt 7)), (16, (eBase a0)), (17, (I a1)), (18, (Sr a3))], [(4, vS 4 (eBase a0)), (7, vS 1 (Sr a3))], 50⟩ rfl rfl rfl ?_
  refine et (reg_pure (x := (dbd_Fits k a0 a1 a3)) (w := fun v1 => (V.tup [(Bo v1.1), (I v1.2)])) rfl rfl rfl rfl (p_call rfl rfl rfl rfl rfl (dbd_Fits_ok k a0 a1 a3) (.inl rfl))) ?_
  refine bindE (fun v1 => ?_)
  exact bind_end rfl
theorem f17r2 (k : Nat) (a0 : T_api_Base) (a1 : Int) (a2 : (List (List T_api_Term))) (a3 : Str) (o2 : Bool × Int) : RE k f17a2 f17o2 false ⟨[(1, (I a1)), (2, (V.sl 0 1 (List.map sTerm a2))), (4, (Pt 4)), (7, (Pt 7)), (10, (Bo o2.1)), (11, (I o2.2))], [(4, vS 4 (eBase a0)), (7, vS 1 (Sr a3))], 50⟩ = some ⟨[(1, (I a1)), (2, (V.sl 0 1 (List.map sTerm a2))), (4, (Pt 4)), (7, (Pt 7)), (10, (Bo o2.1)), (11, (I o2.2)), (22, (Bo (o2.2 != 0)))], [(4, vS 4 (eBase a0)), (7, vS 1 (Sr a3))], 50⟩ :=
  rE rfl
theorem f17r3 (k : Nat) (a0 : T_api_Base) (a1 : Int) (a2 : (List (List T_api_Term))) (a3 : Str) (o2 : Bool × Int) : RE k f17a3 f17o3 false ⟨[(1, (I a1)), (2, (V.sl 0 1 (List.map sTerm a2))), (4, (Pt 4)), (7, (Pt 7)), (10, (Bo o2.1)), (11, (I o2.2)), (22, (Bo true))], [(4, vS 4 (eBase a0)), (7, vS 1 (Sr a3))], 50⟩ = some ⟨[(8, (Bo false)), (9, (I o2.2))], [], 50⟩ :=
  rE rfl
theorem f17r4 (k : Nat) (a0 : T_api_Base) (a1 : Int) (a2 : (List (List T_api_Term))) (a3 : Str) (o2 : Bool × Int) : RE k f17a4 f17o4 false ⟨[(1, (I a1)), (2, (V.sl 0 1 (List.map sTerm a2))), (4, (Pt 4)), (7, (Pt 7)), (10, (Bo o2.1)), (11, (I o2.2)), (22, (Bo false))], [(4, vS 4 (eBase a0)), (7, vS 1 (Sr a3))], 50⟩ = some ⟨[(1, (I a1)), (2, (V.sl 0 1 (List.map sTerm a2))), (4, (Pt 4)), (7, (Pt 7)), (26, (Bo (!o2.1)))], [(4, vS 4 (eBase a0)), (7, vS 1 (Sr a3))], 50⟩ :=
  rE rfl
theorem f17r5 (k : Nat) (a0 : T_api_Base) (a1 : Int) (a2 : (List (List T_api_Term))) (a3 : Str) : RE k f17a5 f17o5 false ⟨[(1, (I a1)), (2, (V.sl 0 1 (List.map sTerm a2))), (4, (Pt 4)), (7, (Pt 7)), (26, (Bo true))], [(4, vS 4 (eBase a0)), (7, vS 1 (Sr a3))], 50⟩ = some ⟨[(8, (Bo false)), (9, (I 2))], [], 50⟩ :=
  rE rfl
theorem f17r6 (k : Nat) (a0 : T_api_Base) (a1 : Int) (a2 : (List (List T_api_Term))) (a3 : Str) : RE k f17a6 f17o6 false ⟨[(1, (I a1)), (2, (V.sl 0 1 (List.map sTerm a2))), (4, (Pt 4)), (7, (Pt 7)), (26, (Bo false))], [(4, vS 4 (eBase a0)), (7, vS 1 (Sr a3))], 50⟩ = (((match_conditions k a0 a1 ([a2] : List (List (List T_api_Term)))).bind fun v3 => (some (v3.2, v3.1)))).map (fun (o : Int × T_api_Type) => (⟨[(2, (V.sl 0 1 (List.map sTerm a2))), (7, (Pt 7)), (11, (I o.1)), (12, (Pt 12))], [(7, vS 1 (Sr a3)), (12, vS 8 (eType o.2))], 50⟩ : St)) := by
  refine rg ?_
  refine ra 4 4 ⟨[(1, (I a1)), (2, (V.sl 0 1 (List.map sTerm a2))), (4, (Pt 4)), (7, (Pt 7)), (26, (Bo false)), (30, (eBase a0)), (31, (I a1)), (32, (V.sl 0 1 (List.map sTerm a2))), (33, (V.sl 0 1 (List.map (fun x => (V.sl 0 1 (List.map sTerm x))) ([a2] : List (List (List T_api_Term))))))], [(4, vS 4 (eBase a0)), (7, vS 1 (Sr a3))], 50⟩ rfl rfl rfl ?_
  refine et (reg_pure (x := (match_conditions k a0 a1 ([a2] : List (List (List T_api_Term))))) (w := fun v3 => (V.tup [(eType v3.1), (I v3.2)])) rfl rfl rfl rfl (p_call rfl rfl rfl rfl rfl (match_conditions_ok k a0 a1 ([a2] : List (List (List T_api_Term)))) (.inl rfl))) ?_
  refine bindE (fun v3 => ?_)
  exact bind_end rfl
theorem f17r7 (k : Nat) (a2 : (List (List T_api_Term))) (a3 : Str) (o4 : Int × T_api_Type) : RE k f17a7 f17o7 false ⟨[(2, (V.sl 0 1 (List.map sTerm a2))), (7, (Pt 7)), (11, (I o4.1)), (12, (Pt 12))], [(7, vS 1 (Sr a3)), (12, vS 8 (eType o4.2))], 50⟩ = some ⟨[(2, (V.sl 0 1 (List.map sTerm a2))), (7, (Pt 7)), (11, (I o4.1)), (12, (Pt 12)), (38, (Bo (o4.1 != 0)))], [(7, vS 1 (Sr a3)), (12, vS 8 (eType o4.2))], 50⟩ :=
  rE rfl
theorem f17r8 (k : Nat) (a2 : (List (List T_api_Term))) (a3 : Str) (o4 : Int × T_api_Type) : RE k f17a8 f17o8 false ⟨[(2, (V.sl 0 1 (List.map sTerm a2))), (7, (Pt 7)), (11, (I o4.1)), (12, (Pt 12)), (38, (Bo true))], [(7, vS 1 (Sr a3)), (12, vS 8 (eType o4.2))], 50⟩ = some ⟨[(8, (Bo false)), (9, (I o4.1))], [], 50⟩ :=
  rE rfl
theorem f17r9 (k : Nat) (a2 : (List (List T_api_Term))) (a3 : Str) (o4 : Int × T_api_Type) : RE k f17a9 f17o9 false ⟨[(2, (V.sl 0 1 (List.map sTerm a2))), (7, (Pt 7)), (11, (I o4.1)), (12, (Pt 12)), (38, (Bo false))], [(7, vS 1 (Sr a3)), (12, vS 8 (eType o4.2))], 50⟩ = some ⟨[(2, (V.sl 0 1 (List.map sTerm a2))), (7, (Pt 7)), (12, (Pt 12)), (13, (Pt 13))], [(7, vS 1 (Sr a3)), (12, vS 8 (eType o4.2)), (13, ⟨false, 1, [(V.fn 38 [] [(Pt 12), (Pt 7)])]⟩)], 50⟩ :=
  rE rfl
theorem f17r10 (k : Nat) (a2 : (List (List T_api_Term))) (a3 : Str) (o4 : Int × T_api_Type) : RE k f17a10 f17o10 false ⟨[(2, (V.sl 0 1 (List.map sTerm a2))), (7, (Pt 7)), (12, (Pt 12)), (13, (Pt 13))], [(7, vS 1 (Sr a3)), (12, vS 8 (eType o4.2)), (13, ⟨false, 1, [(V.fn 38 [] [(Pt 12), (Pt 7)])]⟩)], 50⟩ = some ⟨[(2, (V.sl 0 1 (List.map sTerm a2))), (7, (Pt 7)), (12, (Pt 12)), (13, (Pt 13)), (14, (V.fn 41 [] [(Pt 13)]))], [(7, vS 1 (Sr a3)), (12, vS 8 (eType o4.2)), (13, ⟨false, 1, [(V.fn 38 [] [(Pt 12), (Pt 7)])]⟩)], 50⟩ :=
  rE rfl
theorem f17r11 (k : Nat) (a2 : (List (List T_api_Term))) (a3 : Str) (o4 : Int × T_api_Type) : RE k f17a11 f17o11 false ⟨[(2, (V.sl 0 1 (List.map sTerm a2))), (7, (Pt 7)), (12, (Pt 12)), (13, (Pt 13)), (14, (V.fn 41 [] [(Pt 13)]))], [(7, vS 1 (Sr a3)), (12, vS 8 (eType o4.2)), (13, ⟨false, 1, [(V.fn 38 [] [(Pt 12), (Pt 7)])]⟩)], 50⟩ = ((bif ((a2.length : Int) == 0) then (some (true, 0)) else ((slices_ContainsFunc_TermL k a2 (fun j x0 => (match_Holds_2_v12 j x0 (fun j x0 => (match_Holds_1 j x0 o4.2 a3))))).bind fun v5 => (some (v5, 0))))).map (fun (o : Bool × Int) => (⟨[(8, (Bo o.1)), (9, (I o.2))], [], 50⟩ : St)) := by
  refine rg ?_
  refine ra 1 1 ⟨[(2, (V.sl 0 1 (List.map sTerm a2))), (7, (Pt 7)), (12, (Pt 12)), (13, (Pt 13)), (14, (V.fn 41 [] [(Pt 13)])), (42, (V.sl 0 1 (List.map sTerm a2)))], [(7, vS 1 (Sr a3)), (12, vS 8 (eType o4.2)), (13, ⟨false, 1, [(V.fn 38 [] [(Pt 12), (Pt 7)])]⟩)], 50⟩ rfl rfl rfl ?_
  refine et (reg_pure (x := some ()) (w := fun _ => (I (a2.length : Int))) rfl rfl rfl rfl (p_len (e := sTerm) rfl rfl rfl rfl rfl rfl underlying26)) ?_
  refine et some_bind ?_
  refine ba 2 4 ⟨[(2, (V.sl 0 1 (List.map sTerm a2))), (7, (Pt 7)), (12, (Pt 12)), (13, (Pt 13)), (14, (V.fn 41 [] [(Pt 13)])), (42, (V.sl 0 1 (List.map sTerm a2))), (43, (I (a2.length : Int))), (44, (Bo ((a2.length : Int) == 0))), (45, (Bo ((a2.length : Int) == 0)))], [(7, vS 1 (Sr a3)), (12, vS 8 (eType o4.2)), (13, ⟨false, 1, [(V.fn 38 [] [(Pt 12), (Pt 7)])]⟩)], 50⟩ rfl rfl rfl ?_
  refine bifE (c := ((a2.length : Int) == 0)) (fun hc => ?_) fun hc => ?_
  · rw [hc]
    exact reg_end rfl
  · rw [hc]
    refine ra 2 6 ⟨[(2, (V.sl 0 1 (List.map sTerm a2))), (7, (Pt 7)), (12, (Pt 12)), (13, (Pt 13)), (14, (V.fn 41 [] [(Pt 13)])), (42, (V.sl 0 1 (List.map sTerm a2))), (43, (I (a2.length : Int))), (44, (Bo false)), (45, (Bo false)), (46, (V.sl 0 1 (List.map sTerm a2))), (47, (V.fn 41 [] [(Pt 13)]))], [(7, vS 1 (Sr a3)), (12, vS 8 (eType o4.2)), (13, ⟨false, 1, [(V.fn 38 [] [(Pt 12), (Pt 7)])]⟩)], 50⟩ rfl rfl rfl ?_
    refine et (reg_pure (x := (slices_ContainsFunc_TermL k a2 (fun j x0 => (match_Holds_2_v12 j x0 (fun j x0 => (match_Holds_1 j x0 o4.2 a3)))))) (w := fun v5 => (Bo v5)) rfl rfl rfl rfl (p_call rfl rfl rfl rfl rfl (slices_ContainsFunc_TermL_ok k a2 (fun j x0 => (match_Holds_2_v12 j x0 (fun j x0 => (match_Holds_1 j x0 o4.2 a3)))) 41 (V.fn 38 [] [(Pr (eType o4.2)), (Pr (Sr a3))]) (fun j x0 => (match_Holds_2_v12_ok j x0 (fun j x0 => (match_Holds_1 j x0 o4.2 a3)) 38 (eType o4.2) (Sr a3) (fun j x0 => (match_Holds_1_ok j x0 o4.2 a3))))) (.inr (fun _ => rfl)))) ?_
    refine bindE (fun v5 => ?_)
    exact bind_end rfl
theorem match_Holds_ok (k : Nat) (a0 : T_api_Base) (a1 : Int) (a2 : (List (List T_api_Term))) (a3 : Str) : EV k 17 [(eBase a0), (I a1), (V.sl 0 1 (List.map sTerm a2)), (Sr a3)] = (match_Holds k a0 a1 a2 a3).map match_Holds_fin := by
  cases k with
  | zero => rfl
  | succ k =>
    unfold match_Holds
    refine et (evF_succ (c := f17c) (N := 50) (regs := f17n) rfl func17 rfl (by decide) rfl rfl rfl) ?_
    refine et (k_region0 rfl (f17r0 k a0 a1 a2 a3)) ?_
    refine et (k_region rfl (f17r1 k a0 a1 a2 a3)) ?_
    refine bindE (fun o2 => ?_)
    refine et (k_block rfl) ?_
    refine et (k_region0 rfl (f17r2 k a0 a1 a2 a3 o2)) ?_
    refine et (k_lcond (t := (o2.2 != 0)) rfl rfl) ?_
    refine bifE2 (fun hc => ?_) fun hc => ?_
    · rw [hc]
      refine et (k_region0 rfl (f17r3 k a0 a1 a2 a3 o2)) ?_
      refine et k_lret ?_
      refine et blk_ret ?_
      rfl
    · rw [hc]
      refine et (k_region0 rfl (f17r4 k a0 a1 a2 a3 o2)) ?_
      refine et (k_lcond (t := (!o2.1)) rfl rfl) ?_
      refine bifE2 (fun hc => ?_) fun hc => ?_
      · rw [hc]
        refine et (k_region0 rfl (f17r5 k a0 a1 a2 a3)) ?_
        refine et k_lret ?_
        refine et blk_ret ?_
        rfl
      · rw [hc]
        refine et k_lskip ?_
        refine et blk_normal ?_
        refine et (k_region rfl (f17r6 k a0 a1 a2 a3)) ?_
        refine bindE (fun o4 => ?_)
        refine et k_assoc ?_
        refine et (k_region0 rfl (f17r7 k a2 a3 o4)) ?_
        refine et (k_cond (t := (o4.1 != 0)) rfl rfl) ?_
        refine bifE2 (fun hc => ?_) fun hc => ?_
        · rw [hc]
          refine et k_assoc ?_
          refine et (k_region0 rfl (f17r8 k a2 a3 o4)) ?_
          refine et k_ret ?_
          rfl
        · rw [hc]
          refine et k_skip ?_
          refine et (k_region0 rfl (f17r9 k a2 a3 o4)) ?_
          refine et (k_region0 rfl (f17r10 k a2 a3 o4)) ?_
          refine et (k_region rfl (f17r11 k a2 a3 o4)) ?_
          refine bindE (fun o6 => ?_)
          refine et k_lret ?_
          rfl
def ref11_Fits_fin : (Bool × Int) → V × List V := fun r => (.tup [(Bo r.1), (I r.2)], [])
theorem f45r0 (k : Nat) (a0 : T_api_Base) (a1 : Int) (a2 : Str) : RE k f45a0 f45o0 false ⟨[(0, (eBase a0)), (1, (I a1)), (2, (Sr a2))], [], 36⟩ = some ⟨[(1, (I a1)), (2, (Sr a2)), (3, (Pt 3))], [(3, vS 4 (eBase a0))], 36⟩ :=
  rE rfl
theorem f45r1 (k : Nat) (a0 : T_api_Base) (a1 : Int) (a2 : Str) : RE k f45a1 f45o1 false ⟨[(1, (I a1)), (2, (Sr a2)), (3, (Pt 3))], [(3, vS 4 (eBase a0))], 36⟩ = ((ref11_asked k a0 ([a1] : List Int))).map (fun (o : Int) => (⟨[(1, (I a1)), (2, (Sr a2)), (3, (Pt 3)), (8, (I o))], [(3, vS 4 (eBase a0))], 36⟩ : St)) := by
  refine rg ?_
  refine ra 3 3 ⟨[(1, (I a1)), (2, (Sr a2)), (3, (Pt 3)), (9, (eBase a0)), (10, (I a1)), (11, (sI (([a1] : List Int))))], [(3, vS 4 (eBase a0))], 36⟩ rfl rfl rfl ?_
  refine et (reg_pure (x := (ref11_asked k a0 ([a1] : List Int))) (w := fun v1 => (I v1)) rfl rfl rfl rfl (p_call rfl rfl rfl rfl rfl (ref11_asked_ok k a0 ([a1] : List Int)) (.inl rfl))) ?_
  refine bind_self (fun v1 => ?_)
  exact bind_end rfl
theorem f45r2 (k : Nat) (a0 : T_api_Base) (a1 : Int) (a2 : Str) (o2 : Int) : RE k f45a2 f45o2 false ⟨[(1, (I a1)), (2, (Sr a2)), (3, (Pt 3)), (8, (I o2))], [(3, vS 4 (eBase a0))], 36⟩ = some ⟨[(1, (I a1)), (2, (Sr a2)), (3, (Pt 3)), (8, (I o2)), (14, (Bo (o2 != 0)))], [(3, vS 4 (eBase a0))], 36⟩ :=
  rE rfl
theorem f45r3 (k : Nat) (a0 : T_api_Base) (a1 : Int) (a2 : Str) (o2 : Int) : RE k f45a3 f45o3 false ⟨[(1, (I a1)), (2, (Sr a2)), (3, (Pt 3)), (8, (I o2)), (14, (Bo true))], [(3, vS 4 (eBase a0))], 36⟩ = some ⟨[(6, (Bo false)), (7, (I o2))], [], 36⟩ :=
  rE rfl
theorem f45r4 (k : Nat) (a0 : T_api_Base) (a1 : Int) (a2 : Str) (o2 : Int) : RE k f45a4 f45o4 false ⟨[(1, (I a1)), (2, (Sr a2)), (3, (Pt 3)), (8, (I o2)), (14, (Bo false))], [(3, vS 4 (eBase a0))], 36⟩ = (((idx a0.fTypes a1).bind fun v3 => (bif (decide ((a2.length : Int) ≥ v3.fMin)) then ((idx a0.fTypes a1).bind fun v4 => (some ((decide ((a2.length : Int) ≤ v4.fSize)), 0))) else (some (false, 0))))).map (fun (o : Bool × Int) => (⟨[(6, (Bo o.1)), (7, (I o.2))], [], 36⟩ : St)) := by
  refine rg ?_
  refine ra 5 5 ⟨[(1, (I a1)), (2, (Sr a2)), (3, (Pt 3)), (8, (I o2)), (14, (Bo false)), (16, (Sr a2)), (17, (I (a2.length : Int))), (18, (V.ptr 3 0 2)), (19, (sType a0.fTypes)), (20, (I a1))], [(3, vS 4 (eBase a0))], 36⟩ rfl rfl rfl ?_
  refine et (reg_pure (x := (idx a0.fTypes a1)) (w := fun v3 => (Pr (eType v3))) rfl rfl rfl rfl (p_index (e := eType) rfl rfl rfl underlying22 rfl (by decide))) ?_
  refine bindE (fun v3 => ?_)
  refine ba 4 10 ⟨[(1, (I a1)), (2, (Sr a2)), (3, (Pt 3)), (8, (I o2)), (14, (Bo false)), (16, (Sr a2)), (17, (I (a2.length : Int))), (18, (V.ptr 3 0 2)), (19, (sType a0.fTypes)), (20, (I a1)), (21, (Pr (eType v3))), (22, (Pr (I v3.fMin))), (23, (I v3.fMin)), (24, (Bo (decide ((a2.length : Int) ≥ v3.fMin)))), (25, (Bo (decide ((a2.length : Int) ≥ v3.fMin))))], [(3, vS 4 (eBase a0))], 36⟩ rfl rfl rfl ?_
  refine bifE (c := (decide ((a2.length : Int) ≥ v3.fMin))) (fun hc => ?_) fun hc => ?_
  · rw [hc]
    refine ra 5 15 ⟨[(1, (I a1)), (2, (Sr a2)), (3, (Pt 3)), (8, (I o2)), (14, (Bo false)), (16, (Sr a2)), (17, (I (a2.length : Int))), (18, (V.ptr 3 0 2)), (19, (sType a0.fTypes)), (20, (I a1)), (21, (Pr (eType v3))), (22, (Pr (I v3.fMin))), (23, (I v3.fMin)), (24, (Bo true)), (25, (Bo true)), (26, (Sr a2)), (27, (I (a2.length : Int))), (28, (V.ptr 3 0 2)), (29, (sType a0.fTypes)), (30, (I a1))], [(3, vS 4 (eBase a0))], 36⟩ rfl rfl rfl ?_
    refine et (reg_pure (x := (idx a0.fTypes a1)) (w := fun v4 => (Pr (eType v4))) rfl rfl rfl rfl (p_index (e := eType) rfl rfl rfl underlying22 rfl (by decide))) ?_
    refine bindE (fun v4 => ?_)
    exact bind_end rfl
  · rw [hc]
    exact reg_end rfl
theorem ref11_Fits_ok (k : Nat) (a0 : T_api_Base) (a1 : Int) (a2 : Str) : EV k 45 [(eBase a0), (I a1), (Sr a2)] = (ref11_Fits k a0 a1 a2).map ref11_Fits_fin := by
  cases k with
  | zero => rfl
  | succ k =>
    unfold ref11_Fits
    refine et (evF_succ (c := f45c) (N := 36) (regs := f45n) rfl func45 rfl (by decide) rfl rfl rfl) ?_
    refine et (k_region0 rfl (f45r0 k a0 a1 a2)) ?_
    refine et k_assoc ?_
    refine et (k_region rfl (f45r1 k a0 a1 a2)) ?_
    refine bindE (fun o2 => ?_)
    refine et k_assoc ?_
    refine et (k_region0 rfl (f45r2 k a0 a1 a2 o2)) ?_
    refine et (k_cond (t := (o2 != 0)) rfl rfl) ?_
    refine bifE2 (fun hc => ?_) fun hc => ?_
    · rw [hc]
      refine et k_assoc ?_
      refine et (k_region0 rfl (f45r3 k a0 a1 a2 o2)) ?_
      refine et k_ret ?_
      rfl
    · rw [hc]
      refine et k_skip ?_
      refine et (k_region rfl (f45r4 k a0 a1 a2 o2)) ?_
      refine bindE (fun o5 => ?_)
      refine et k_lret ?_
      rfl
def ref11_Value_fin : (Str × Bool × Int) → V × List V := fun r => (.tup [(Sr r.1), (Bo r.2.1), (I r.2.2)], [])
theorem f54r0 (k : Nat) (a0 : T_api_Base) (a1 : Int) (a2 : Str) (a3 : Int) : RE k f54a0 f54o0 false ⟨[(0, (eBase a0)), (1, (I a1)), (2, (Sr a2)), (3, (I a3))], [], 69⟩ = some ⟨[(1, (I a1)), (2, (Sr a2)), (3, (I a3)), (4, (Pt 4))], [(4, vS 4 (eBase a0))], 69⟩ :=
  rE rfl
theorem f54r1 (k : Nat) (a0 : T_api_Base) (a1 : Int) (a2 : Str) (a3 : Int) : RE k f54a1 f54o1 false ⟨[(1, (I a1)), (2, (Sr a2)), (3, (I a3)), (4, (Pt 4))], [(4, vS 4 (eBase a0))], 69⟩ = (((ref11_Fits k a0 a1 a2).bind fun v1 => (some (v1.1, v1.2)))).map (fun (o : Bool × Int) => (⟨[(1, (I a1)), (2, (Sr a2)), (3, (I a3)), (4, (Pt 4)), (11, (Bo o.1)), (12, (I o.2))], [(4, vS 4 (eBase a0))], 69⟩ : St)) := by
  refine rg ?_
  refine ra 3 3 ⟨[(1, (I a1)), (2, (Sr a2)), (3, (I a3)), (4, (Pt 4)), (15, (eBase a0)), (16, (I a1)), (17, (Sr a2))], [(4, vS 4 (eBase a0))], 69⟩ rfl rfl rfl ?_
  refine et (reg_pure (x := (ref11_Fits k a0 a1 a2)) (w := fun v1 => (V.tup [(Bo v1.1), (I v1.2)])) rfl rfl rfl rfl (p_call rfl rfl rfl rfl rfl (ref11_Fits_ok k a0 a1 a2) (.inl rfl))) ?_
  refine bindE (fun v1 => ?_)
  exact bind_end rfl
theorem f54r2 (k : Nat) (a0 : T_api_Base) (a1 : Int) (a2 : Str) (a3 : Int) (o2 : Bool × Int) : RE k f54a2 f54o2 false ⟨[(1, (I a1)), (2, (Sr a2)), (3, (I a3)), (4, (Pt 4)), (11, (Bo o2.1)), (12, (I o2.2))], [(4, vS 4 (eBase a0))], 69⟩ = some ⟨[(1, (I a1)), (2, (Sr a2)), (3, (I a3)), (4, (Pt 4)), (11, (Bo o2.1)), (12, (I o2.2)), (21, (Bo (o2.2 != 0)))], [(4, vS 4 (eBase a0))], 69⟩ :=
  rE rfl
theorem f54r3 (k : Nat) (a0 : T_api_Base) (a1 : Int) (a2 : Str) (a3 : Int) (o2 : Bool × Int) : RE k f54a3 f54o3 false ⟨[(1, (I a1)), (2, (Sr a2)), (3, (I a3)), (4, (Pt 4)), (11, (Bo o2.1)), (12, (I o2.2)), (21, (Bo true))], [(4, vS 4 (eBase a0))], 69⟩ = some ⟨[(8, (Sr ([] : Str))), (9, (Bo false)), (10, (I o2.2))], [], 69⟩ :=
  rE rfl
theorem f54r4 (k : Nat) (a0 : T_api_Base) (a1 : Int) (a2 : Str) (a3 : Int) (o2 : Bool × Int) : RE k f54a4 f54o4 false ⟨[(1, (I a1)), (2, (Sr a2)), (3, (I a3)), (4, (Pt 4)), (11, (Bo o2.1)), (12, (I o2.2)), (21, (Bo false))], [(4, vS 4 (eBase a0))], 69⟩ = ((bif (!o2.1) then (some (true)) else (bif (decide (a3 < 0)) then (some (true)) else ((idx a0.fTypes a1).bind fun v3 => (some ((decide (a3 ≥ (v3.fFields.length : Int))))))))).map (fun (o : Bool) => (⟨[(1, (I a1)), (2, (Sr a2)), (3, (I a3)), (4, (Pt 4)), (25, (Bo o))], [(4, vS 4 (eBase a0))], 69⟩ : St)) := by
  refine rg ?_
  refine ra 3 3 ⟨[(1, (I a1)), (2, (Sr a2)), (3, (I a3)), (4, (Pt 4)), (11, (Bo o2.1)), (12, (I o2.2)), (21, (Bo false)), (26, (Bo o2.1)), (27, (Bo (!o2.1))), (28, (Bo (!o2.1)))], [(4, vS 4 (eBase a0))], 69⟩ rfl rfl rfl ?_
  refine bifE (c := (!o2.1)) (fun hc => ?_) fun hc => ?_
  · rw [hc]
    exact reg_end rfl
  · rw [hc]
    refine ra 4 7 ⟨[(1, (I a1)), (2, (Sr a2)), (3, (I a3)), (4, (Pt 4)), (11, (Bo o2.1)), (12, (I o2.2)), (21, (Bo false)), (26, (Bo o2.1)), (27, (Bo false)), (28, (Bo false)), (29, (I a3)), (30, (Bo (decide (a3 < 0)))), (31, (Bo (decide (a3 < 0)))), (32, (Bo (decide (a3 < 0))))], [(4, vS 4 (eBase a0))], 69⟩ rfl rfl rfl ?_
    refine bifE (c := (decide (a3 < 0))) (fun hc => ?_) fun hc => ?_
    · rw [hc]
      exact reg_end rfl
    · rw [hc]
      refine ra 4 11 ⟨[(1, (I a1)), (2, (Sr a2)), (3, (I a3)), (4, (Pt 4)), (11, (Bo o2.1)), (12, (I o2.2)), (21, (Bo false)), (26, (Bo o2.1)), (27, (Bo false)), (28, (Bo false)), (29, (I a3)), (30, (Bo false)), (31, (Bo false)), (32, (Bo false)), (33, (I a3)), (34, (V.ptr 4 0 2)), (35, (sType a0.fTypes)), (36, (I a1))], [(4, vS 4 (eBase a0))], 69⟩ rfl rfl rfl ?_
      refine et (reg_pure (x := (idx a0.fTypes a1)) (w := fun v3 => (Pr (eType v3))) rfl rfl rfl rfl (p_index (e := eType) rfl rfl rfl underlying22 rfl (by decide))) ?_
      refine bindE (fun v3 => ?_)
      refine ba 2 14 ⟨[(1, (I a1)), (2, (Sr a2)), (3, (I a3)), (4, (Pt 4)), (11, (Bo o2.1)), (12, (I o2.2)), (21, (Bo false)), (26, (Bo o2.1)), (27, (Bo false)), (28, (Bo false)), (29, (I a3)), (30, (Bo false)), (31, (Bo false)), (32, (Bo false)), (33, (I a3)), (34, (V.ptr 4 0 2)), (35, (sType a0.fTypes)), (36, (I a1)), (37, (Pr (eType v3))), (38, (Pr (sField v3.fFields))), (39, (sField v3.fFields))], [(4, vS 4 (eBase a0))], 69⟩ rfl rfl rfl ?_
      refine et (reg_pure (x := some ()) (w := fun _ => (I (v3.fFields.length : Int))) rfl rfl rfl rfl (p_len (e := eField) rfl rfl rfl rfl rfl rfl underlying43)) ?_
      refine et some_bind ?_
      exact bind_end rfl
theorem f54r5 (k : Nat) (a0 : T_api_Base) (a1 : Int) (a2 : Str) (a3 : Int) : RE k f54a5 f54o5 false ⟨[(1, (I a1)), (2, (Sr a2)), (3, (I a3)), (4, (Pt 4)), (25, (Bo true))], [(4, vS 4 (eBase a0))], 69⟩ = some ⟨[(8, (Sr ([] : Str))), (9, (Bo false)), (10, (I 2))], [], 69⟩ :=
  rE rfl
theorem f54r6 (k : Nat) (a0 : T_api_Base) (a1 : Int) (a2 : Str) (a3 : Int) : RE k f54a6 f54o6 false ⟨[(1, (I a1)), (2, (Sr a2)), (3, (I a3)), (4, (Pt 4)), (25, (Bo false))], [(4, vS 4 (eBase a0))], 69⟩ = (((idx a0.fTypes a1).bind fun v5 => (idx v5.fFields a3))).map (fun (o : T_api_Field) => (⟨[(2, (Sr a2)), (13, (Pt 13))], [(13, vS 3 (eField o))], 69⟩ : St)) := by
  refine rg ?_
  refine ra 3 3 ⟨[(1, (I a1)), (2, (Sr a2)), (3, (I a3)), (4, (Pt 4)), (25, (Bo false)), (43, (V.ptr 4 0 2)), (44, (sType a0.fTypes)), (45, (I a1))], [(4, vS 4 (eBase a0))], 69⟩ rfl rfl rfl ?_
  refine et (reg_pure (x := (idx a0.fTypes a1)) (w := fun v5 => (Pr (eType v5))) rfl rfl rfl rfl (p_index (e := eType) rfl rfl rfl underlying22 rfl (by decide))) ?_
  refine bindE (fun v5 => ?_)
  refine ba 3 7 ⟨[(1, (I a1)), (2, (Sr a2)), (3, (I a3)), (4, (Pt 4)), (25, (Bo false)), (43, (V.ptr 4 0 2)), (44, (sType a0.fTypes)), (45, (I a1)), (46, (Pr (eType v5))), (47, (Pr (sField v5.fFields))), (48, (sField v5.fFields)), (49, (I a3))], [(4, vS 4 (eBase a0))], 69⟩ rfl rfl rfl ?_
  refine et (reg_pure (x := (idx v5.fFields a3)) (w := fun v6 => (Pr (eField v6))) rfl rfl rfl rfl (p_index (e := eField) rfl rfl rfl underlying43 rfl (by decide))) ?_
  refine bind_self (fun v6 => ?_)
  exact bind_end rfl
theorem f54r7 (k : Nat) (a2 : Str) (o7 : T_api_Field) : RE k f54a7 f54o7 false ⟨[(2, (Sr a2)), (13, (Pt 13))], [(13, vS 3 (eField o7))], 69⟩ = some ⟨[(2, (Sr a2)), (13, (Pt 13)), (59, (Bo (decide ((Go.IntKind.wrap .i64 (o7.fAt + o7.fBytes)) > (a2.length : Int)))))], [(13, vS 3 (eField o7))], 69⟩ :=
  rE rfl
theorem f54r8 (k : Nat) (a2 : Str) (o7 : T_api_Field) : RE k f54a8 f54o8 false ⟨[(2, (Sr a2)), (13, (Pt 13)), (59, (Bo true))], [(13, vS 3 (eField o7))], 69⟩ = some ⟨[(8, (Sr ([] : Str))), (9, (Bo false)), (10, (I 0))], [], 69⟩ :=
  rE rfl
theorem f54r9 (k : Nat) (a2 : Str) (o7 : T_api_Field) : RE k f54a9 f54o9 false ⟨[(2, (Sr a2)), (13, (Pt 13)), (59, (Bo false))], [(13, vS 3 (eField o7))], 69⟩ = (((cut a2 o7.fAt (Go.IntKind.wrap .i64 (o7.fAt + o7.fBytes))).bind fun v8 => (some (v8, true, 0)))).map (fun (o : Str × Bool × Int) => (⟨[(8, (Sr o.1)), (9, (Bo o.2.1)), (10, (I o.2.2))], [], 69⟩ : St)) := by
  refine rg ?_
  refine ra 8 8 ⟨[(2, (Sr a2)), (13, (Pt 13)), (59, (Bo false)), (60, (Sr a2)), (61, (V.ptr 13 0 1)), (62, (I o7.fAt)), (63, (V.ptr 13 0 1)), (64, (I o7.fAt)), (65, (V.ptr 13 0 2)), (66, (I o7.fBytes)), (67, (I (Go.IntKind.wrap .i64 (o7.fAt + o7.fBytes))))], [(13, vS 3 (eField o7))], 69⟩ rfl rfl rfl ?_
  refine et (reg_pure (x := (cut a2 o7.fAt (Go.IntKind.wrap .i64 (o7.fAt + o7.fBytes)))) (w := fun v8 => (Sr v8)) rfl rfl rfl rfl (p_sliceS rfl rfl rfl rfl rfl rfl underlying9)) ?_
  refine bindE (fun v8 => ?_)
  exact bind_end rfl
theorem ref11_Value_ok (k : Nat) (a0 : T_api_Base) (a1 : Int) (a2 : Str) (a3 : Int) : EV k 54 [(eBase a0), (I a1), (Sr a2), (I a3)] = (ref11_Value k a0 a1 a2 a3).map ref11_Value_fin := by
  cases k with
  | zero => rfl
  | succ k =>
    unfold ref11_Value
    refine et (evF_succ (c := f54c) (N := 69) (regs := f54n) rfl func54 rfl (by decide) rfl rfl rfl) ?_
    refine et (k_region0 rfl (f54r0 k a0 a1 a2 a3)) ?_
    refine et (k_region rfl (f54r1 k a0 a1 a2 a3)) ?_
    refine bindE (fun o2 => ?_)
    refine et (k_block rfl) ?_
    refine et (k_region0 rfl (f54r2 k a0 a1 a2 a3 o2)) ?_
    refine et (k_lcond (t := (o2.2 != 0)) rfl rfl) ?_
    refine bifE2 (fun hc => ?_) fun hc => ?_
    · rw [hc]
      refine et (k_region0 rfl (f54r3 k a0 a1 a2 a3 o2)) ?_
      refine et k_lret ?_
      refine et blk_ret ?_
      rfl
    · rw [hc]
      refine et (k_region rfl (f54r4 k a0 a1 a2 a3 o2)) ?_
      refine bindE (fun o4 => ?_)
      refine et (k_lcond (t := o4) rfl rfl) ?_
      refine bifE2 (fun hc => ?_) fun hc => ?_
      · rw [hc]
        refine et (k_region0 rfl (f54r5 k a0 a1 a2 a3)) ?_
        refine et k_lret ?_
        refine et blk_ret ?_
        rfl
      · rw [hc]
        refine et k_lskip ?_
        refine et blk_normal ?_
        refine et (k_region rfl (f54r6 k a0 a1 a2 a3)) ?_
        refine bindE (fun o7 => ?_)
        refine et k_assoc ?_
        refine et (k_region0 rfl (f54r7 k a2 o7)) ?_
        refine et (k_cond (t := (decide ((Go.IntKind.wrap .i64 (o7.fAt + o7.fBytes)) > (a2.length : Int)))) rfl rfl) ?_
        refine bifE2 (fun hc => ?_) fun hc => ?_
        · rw [hc]
          refine et k_assoc ?_
          refine et (k_region0 rfl (f54r8 k a2 o7)) ?_
          refine et k_ret ?_
          rfl
        · rw [hc]
          refine et k_skip ?_
          refine et (k_region rfl (f54r9 k a2 o7)) ?_
          refine bindE (fun o9 => ?_)
          refine et k_lret ?_
          rfl
def ref12_stands_fin : Bool → V × List V := fun r => ((Bo r), [])
theorem f74r0 (k : Nat) (a0 : Str) (a1 : Int) (a2 : Str) : RE k f74a0 f74o0 false ⟨[(0, (Sr a0)), (1, (I a1)), (2, (Sr a2))], [], 36⟩ = some ⟨[(0, (Sr a0)), (1, (I a1)), (2, (Sr a2))], [], 36⟩ :=
  rE rfl
theorem f74r1 (k : Nat) (a0 : Str) (a1 : Int) (a2 : Str) : RE k f74a1 f74o1 false ⟨[(0, (Sr a0)), (1, (I a1)), (2, (Sr a2))], [], 36⟩ = some ⟨[(0, (Sr a0)), (2, (Sr a2)), (7, (I a1))], [], 36⟩ :=
  rE rfl
theorem f74r2 (k : Nat) (a0 : Str) (a1 : Int) (a2 : Str) : RE k f74a2 f74o2 false ⟨[(0, (Sr a0)), (2, (Sr a2)), (7, (I a1))], [], 36⟩ = some ⟨[(0, (Sr a0)), (2, (Sr a2)), (7, (I a1)), (8, (Bo (a1 == 1)))], [], 36⟩ :=
  rE rfl
theorem f74r3 (k : Nat) (a0 : Str) (a1 : Int) (a2 : Str) : RE k f74a3 f74o3 false ⟨[(0, (Sr a0)), (2, (Sr a2)), (7, (I a1)), (8, (Bo true))], [], 36⟩ = some ⟨[(6, (Bo (a0 == a2)))], [], 36⟩ :=
  rE rfl
theorem f74r4 (k : Nat) (a0 : Str) (a1 : Int) (a2 : Str) : RE k f74a4 f74o4 false ⟨[(0, (Sr a0)), (2, (Sr a2)), (7, (I a1)), (8, (Bo false))], [], 36⟩ = some ⟨[(0, (Sr a0)), (2, (Sr a2)), (7, (I a1)), (13, (Bo (a1 == 2)))], [], 36⟩ :=
  rE rfl
theorem f74r5 (k : Nat) (a0 : Str) (a1 : Int) (a2 : Str) : RE k f74a5 f74o5 false ⟨[(0, (Sr a0)), (2, (Sr a2)), (7, (I a1)), (13, (Bo true))], [], 36⟩ = some ⟨[(6, (Bo (!(a0 == a2))))], [], 36⟩ :=
  rE rfl
theorem f74r6 (k : Nat) (a0 : Str) (a1 : Int) (a2 : Str) : RE k f74a6 f74o6 false ⟨[(0, (Sr a0)), (2, (Sr a2)), (7, (I a1)), (13, (Bo false))], [], 36⟩ = some ⟨[(0, (Sr a0)), (2, (Sr a2)), (7, (I a1)), (18, (Bo (a1 == 3)))], [], 36⟩ :=
  rE rfl
theorem f74r7 (k : Nat) (a0 : Str) (a1 : Int) (a2 : Str) : RE k f74a7 f74o7 false ⟨[(0, (Sr a0)), (2, (Sr a2)), (7, (I a1)), (18, (Bo true))], [], 36⟩ = some ⟨[(6, (Bo (Go.AE.bytesLt a0 a2)))], [], 36⟩ :=
  rE rfl
theorem f74r8 (k : Nat) (a0 : Str) (a1 : Int) (a2 : Str) : RE k f74a8 f74o8 false ⟨[(0, (Sr a0)), (2, (Sr a2)), (7, (I a1)), (18, (Bo false))], [], 36⟩ = some ⟨[(0, (Sr a0)), (2, (Sr a2)), (7, (I a1)), (23, (Bo (a1 == 4)))], [], 36⟩ :=
  rE rfl
theorem f74r9 (k : Nat) (a0 : Str) (a1 : Int) (a2 : Str) : RE k f74a9 f74o9 false ⟨[(0, (Sr a0)), (2, (Sr a2)), (7, (I a1)), (23, (Bo true))], [], 36⟩ = some ⟨[(6, (Bo (Go.AE.bytesLt a0 a2 || a0 == a2)))], [], 36⟩ :=
  rE rfl
theorem f74r10 (k : Nat) (a0 : Str) (a1 : Int) (a2 : Str) : RE k f74a10 f74o10 false ⟨[(0, (Sr a0)), (2, (Sr a2)), (7, (I a1)), (23, (Bo false))], [], 36⟩ = some ⟨[(0, (Sr a0)), (2, (Sr a2)), (28, (Bo (a1 == 5)))], [], 36⟩ :=
  rE rfl
theorem f74r11 (k : Nat) (a0 : Str) (a2 : Str) : RE k f74a11 f74o11 false ⟨[(0, (Sr a0)), (2, (Sr a2)), (28, (Bo true))], [], 36⟩ = some ⟨[(6, (Bo (!(Go.AE.bytesLt a0 a2 || a0 == a2))))], [], 36⟩ :=
  rE rfl
theorem f74r12 (k : Nat) (a0 : Str) (a2 : Str) : RE k f74a12 f74o12 false ⟨[(0, (Sr a0)), (2, (Sr a2)), (28, (Bo false))], [], 36⟩ = some ⟨[(6, (Bo (!Go.AE.bytesLt a0 a2)))], [], 36⟩ :=
  rE rfl
theorem ref12_stands_ok (k : Nat) (a0 : Str) (a1 : Int) (a2 : Str) : EV k 74 [(Sr a0), (I a1), (Sr a2)] = (ref12_stands k a0 a1 a2).map ref12_stands_fin := by
  cases k with
  | zero => rfl
  | succ k =>
    unfold ref12_stands
    refine et (evF_succ (c := f74c) (N := 36) (regs := f74n) rfl func74 rfl (by decide) rfl rfl rfl) ?_
    refine et (k_region0 rfl (f74r0 k a0 a1 a2)) ?_
    refine et k_assoc ?_
    refine et (k_region0 rfl (f74r1 k a0 a1 a2)) ?_
    refine et (k_block rfl) ?_
    refine et (k_region0 rfl (f74r2 k a0 a1 a2)) ?_
    refine et (k_lcond (t := (a1 == 1)) rfl rfl) ?_
    refine bifE2 (fun hc => ?_) fun hc => ?_
    · rw [hc]
      refine et (k_region0 rfl (f74r3 k a0 a1 a2)) ?_
      refine et k_lret ?_
      refine et blk_ret ?_
      rfl
    · rw [hc]
      refine et (k_region0 rfl (f74r4 k a0 a1 a2)) ?_
      refine et (k_lcond (t := (a1 == 2)) rfl rfl) ?_
      refine bifE2 (fun hc => ?_) fun hc => ?_
      · rw [hc]
        refine et (k_region0 rfl (f74r5 k a0 a1 a2)) ?_
        refine et k_lret ?_
        refine et blk_ret ?_
        rfl
      · rw [hc]
        refine et (k_region0 rfl (f74r6 k a0 a1 a2)) ?_
        refine et (k_lcond (t := (a1 == 3)) rfl rfl) ?_
        refine bifE2 (fun hc => ?_) fun hc => ?_
        · rw [hc]
          refine et (k_region0 rfl (f74r7 k a0 a1 a2)) ?_
          refine et k_lret ?_
          refine et blk_ret ?_
          rfl
        · rw [hc]
          refine et (k_region0 rfl (f74r8 k a0 a1 a2)) ?_
          refine et (k_lcond (t := (a1 == 4)) rfl rfl) ?_
          refine bifE2 (fun hc => ?_) fun hc => ?_
          · rw [hc]
            refine et (k_region0 rfl (f74r9 k a0 a1 a2)) ?_
            refine et k_lret ?_
            refine et blk_ret ?_
            rfl
          · rw [hc]
            refine et (k_region0 rfl (f74r10 k a0 a1 a2)) ?_
            refine et (k_lcond (t := (a1 == 5)) rfl rfl) ?_
            refine bifE2 (fun hc => ?_) fun hc => ?_
            · rw [hc]
              refine et (k_region0 rfl (f74r11 k a0 a2)) ?_
              refine et k_lret ?_
              refine et blk_ret ?_
              rfl
            · rw [hc]
              refine et k_lskip ?_
              refine et blk_normal ?_
              refine et (k_region0 rfl (f74r12 k a0 a2)) ?_
              refine et k_lret ?_
              rfl
def ref12_holds_fin : Bool → V × List V := fun r => ((Bo r), [])
theorem f46r0 (k : Nat) (a0 : T_api_Base) (a1 : Int) (a2 : T_api_Term) (a3 : Str) : RE k f46a0 f46o0 false ⟨[(0, (eBase a0)), (1, (I a1)), (2, (eTerm a2)), (3, (Sr a3))], [], 44⟩ = some ⟨[(1, (I a1)), (3, (Sr a3)), (4, (Pt 4)), (6, (Pt 6))], [(4, vS 4 (eBase a0)), (6, vS 3 (eTerm a2))], 44⟩ :=
  rE rfl
theorem f46r1 (k : Nat) (a0 : T_api_Base) (a1 : Int) (a2 : T_api_Term) (a3 : Str) : RE k f46a1 f46o1 false ⟨[(1, (I a1)), (3, (Sr a3)), (4, (Pt 4)), (6, (Pt 6))], [(4, vS 4 (eBase a0)), (6, vS 3 (eTerm a2))], 44⟩ = (((ref11_Field k a0 a1 a2.fField).bind fun v1 => (some (v1.1)))).map (fun (o : Int) => (⟨[(1, (I a1)), (3, (Sr a3)), (4, (Pt 4)), (6, (Pt 6)), (9, (I o))], [(4, vS 4 (eBase a0)), (6, vS 3 (eTerm a2))], 44⟩ : St)) := by
  refine rg ?_
  refine ra 4 4 ⟨[(1, (I a1)), (3, (Sr a3)), (4, (Pt 4)), (6, (Pt 6)), (15, (eBase a0)), (16, (I a1)), (17, (Pt 6)), (18, (Sr a2.fField))], [(4, vS 4 (eBase a0)), (6, vS 3 (eTerm a2))], 44⟩ rfl rfl rfl ?_
  refine et (reg_pure (x := (ref11_Field k a0 a1 a2.fField)) (w := fun v1 => (V.tup [(I v1.1), (I v1.2)])) rfl rfl rfl rfl (p_call rfl rfl rfl rfl rfl (ref11_Field_ok k a0 a1 a2.fField) (.inl rfl))) ?_
  refine bindE (fun v1 => ?_)
  exact bind_end rfl
theorem f46r2 (k : Nat) (a0 : T_api_Base) (a1 : Int) (a2 : T_api_Term) (a3 : Str) (o2 : Int) : RE k f46a2 f46o2 false ⟨[(1, (I a1)), (3, (Sr a3)), (4, (Pt 4)), (6, (Pt 6)), (9, (I o2))], [(4, vS 4 (eBase a0)), (6, vS 3 (eTerm a2))], 44⟩ = (((ref11_Value k a0 a1 a3 o2).bind fun v3 => (some (v3.1, v3.2.1, v3.2.2)))).map (fun (o : Str × Bool × Int) => (⟨[(6, (Pt 6)), (11, (Sr o.1)), (12, (Bo o.2.1)), (13, (I o.2.2))], [(6, vS 3 (eTerm a2))], 44⟩ : St)) := by
  refine rg ?_
  refine ra 4 4 ⟨[(1, (I a1)), (3, (Sr a3)), (4, (Pt 4)), (6, (Pt 6)), (9, (I o2)), (23, (eBase a0)), (24, (I a1)), (25, (Sr a3)), (26, (I o2))], [(4, vS 4 (eBase a0)), (6, vS 3 (eTerm a2))], 44⟩ rfl rfl rfl ?_
  refine et (reg_pure (x := (ref11_Value k a0 a1 a3 o2)) (w := fun v3 => (V.tup [(Sr v3.1), (Bo v3.2.1), (I v3.2.2)])) rfl rfl rfl rfl (p_call rfl rfl rfl rfl rfl (ref11_Value_ok k a0 a1 a3 o2) (.inl rfl))) ?_
  refine bindE (fun v3 => ?_)
  exact bind_end rfl
theorem f46r3 (k : Nat) (a2 : T_api_Term) (o4 : Str × Bool × Int) : RE k f46a3 f46o3 false ⟨[(6, (Pt 6)), (11, (Sr o4.1)), (12, (Bo o4.2.1)), (13, (I o4.2.2))], [(6, vS 3 (eTerm a2))], 44⟩ = ((bif (o4.2.2 == 0) then (bif o4.2.1 then (ref12_stands k o4.1 a2.fOp a2.fValue) else (some (false))) else (some (false)))).map (fun (o : Bool) => (⟨[(8, (Bo o))], [], 44⟩ : St)) := by
  refine rg ?_
  refine ra 3 3 ⟨[(6, (Pt 6)), (11, (Sr o4.1)), (12, (Bo o4.2.1)), (13, (I o4.2.2)), (31, (I o4.2.2)), (32, (Bo (o4.2.2 == 0))), (33, (Bo (o4.2.2 == 0)))], [(6, vS 3 (eTerm a2))], 44⟩ rfl rfl rfl ?_
  refine bifE (c := (o4.2.2 == 0)) (fun hc => ?_) fun hc => ?_
  · rw [hc]
    refine ra 3 6 ⟨[(6, (Pt 6)), (11, (Sr o4.1)), (12, (Bo o4.2.1)), (13, (I o4.2.2)), (31, (I o4.2.2)), (32, (Bo true)), (33, (Bo true)), (34, (Bo o4.2.1)), (35, (Bo o4.2.1)), (36, (Bo o4.2.1))], [(6, vS 3 (eTerm a2))], 44⟩ rfl rfl rfl ?_
    refine bifE (c := o4.2.1) (fun hc => ?_) fun hc => ?_
    · rw [hc]
      refine ra 5 11 ⟨[(6, (Pt 6)), (11, (Sr o4.1)), (12, (Bo true)), (13, (I o4.2.2)), (31, (I o4.2.2)), (32, (Bo true)), (33, (Bo true)), (34, (Bo true)), (35, (Bo true)), (36, (Bo true)), (37, (Sr o4.1)), (38, (V.ptr 6 0 1)), (39, (I a2.fOp)), (40, (V.ptr 6 0 2)), (41, (Sr a2.fValue))], [(6, vS 3 (eTerm a2))], 44⟩ rfl rfl rfl ?_
      refine et (reg_pure (x := (ref12_stands k o4.1 a2.fOp a2.fValue)) (w := fun v5 => (Bo v5)) rfl rfl rfl rfl (p_call rfl rfl rfl rfl rfl (ref12_stands_ok k o4.1 a2.fOp a2.fValue) (.inl rfl))) ?_
      refine bind_self (fun v5 => ?_)
      exact bind_end rfl
    · rw [hc]
      exact reg_end rfl
  · rw [hc]
    exact reg_end rfl
theorem ref12_holds_ok (k : Nat) (a0 : T_api_Base) (a1 : Int) (a2 : T_api_Term) (a3 : Str) : EV k 46 [(eBase a0), (I a1), (eTerm a2), (Sr a3)] = (ref12_holds k a0 a1 a2 a3).map ref12_holds_fin := by
  cases k with
  | zero => rfl
  | succ k =>
    unfold ref12_holds
    refine et (evF_succ (c := f46c) (N := 44) (regs := f46n) rfl func46 rfl (by decide) rfl rfl rfl) ?_
    refine et (k_region0 rfl (f46r0 k a0 a1 a2 a3)) ?_
    refine et (k_region rfl (f46r1 k a0 a1 a2 a3)) ?_
    refine bindE (fun o2 => ?_)
    refine et (k_region rfl (f46r2 k a0 a1 a2 a3 o2)) ?_
    refine bindE (fun o4 => ?_)
    refine et (k_region rfl (f46r3 k a2 o4)) ?_
    refine bindE (fun o6 => ?_)
    refine et k_lret ?_
    rfl
def ref12_Holds_fin : (Bool × Int) → V × List V := fun r => (.tup [(Bo r.1), (I r.2)], [])
theorem f18r0 (k : Nat) (a0 : T_api_Base) (a1 : Int) (a2 : (List (List T_api_Term))) (a3 : Str) : RE k f18a0 f18o0 false ⟨[(0, (eBase a0)), (1, (I a1)), (2, (V.sl 0 1 (List.map sTerm a2))), (3, (Sr a3))], [], 76⟩ = some ⟨[(1, (I a1)), (2, (V.sl 0 1 (List.map sTerm a2))), (3, (Sr a3)), (4, (Pt 4))], [(4, vS 4 (eBase a0))], 76⟩ :=
  rE rfl
theorem f18r1 (k : Nat) (a0 : T_api_Base) (a1 : Int) (a2 : (List (List T_api_Term))) (a3 : Str) : RE k f18a1 f18o1 false ⟨[(1, (I a1)), (2, (V.sl 0 1 (List.map sTerm a2))), (3, (Sr a3)), (4, (Pt 4))], [(4, vS 4 (eBase a0))], 76⟩ = ((ref12_isType k a0 a1)).map (fun (o : Int) => (⟨[(1, (I a1)), (2, (V.sl 0 1 (List.map sTerm a2))), (3, (Sr a3)), (4, (Pt 4)), (10, (I o))], [(4, vS 4 (eBase a0))], 76⟩ : St)) := by
  refine rg ?_
  refine ra 2 2 ⟨[(1, (I a1)), (2, (V.sl 0 1 (List.map sTerm a2))), (3, (Sr a3)), (4, (Pt 4)), (17, (eBase a0)), (18, (I a1))], [(4, vS 4 (eBase a0))], 76⟩ rfl rfl rfl ?_
  refine et (reg_pure (x := (ref12_isType k a0 a1)) (w := fun v1 => (I v1)) rfl rfl rfl rfl (p_call rfl rfl rfl rfl rfl (ref12_isType_ok k a0 a1) (.inl rfl))) ?_
  refine bind_self (fun v1 => ?_)
  exact bind_end rfl
theorem f18r2 (k : Nat) (a0 : T_api_Base) (a1 : Int) (a2 : (List (List T_api_Term))) (a3 : Str) (o2 : Int) : RE k f18a2 f18o2 false ⟨[(1, (I a1)), (2, (V.sl 0 1 (List.map sTerm a2))), (3, (Sr a3)), (4, (Pt 4)), (10, (I o2))], [(4, vS 4 (eBase a0))], 76⟩ = some ⟨[(1, (I a1)), (2, (V.sl 0 1 (List.map sTerm a2))), (3, (Sr a3)), (4, (Pt 4)), (10, (I o2)), (21, (Bo (o2 != 0)))], [(4, vS 4 (eBase a0))], 76⟩ :=
  rE rfl
theorem f18r3 (k : Nat) (a0 : T_api_Base) (a1 : Int) (a2 : (List (List T_api_Term))) (a3 : Str) (o2 : Int) : RE k f18a3 f18o3 false ⟨[(1, (I a1)), (2, (V.sl 0 1 (List.map sTerm a2))), (3, (Sr a3)), (4, (Pt 4)), (10, (I o2)), (21, (Bo true))], [(4, vS 4 (eBase a0))], 76⟩ = some ⟨[(8, (Bo false)), (9, (I o2))], [], 76⟩ :=
  rE rfl
theorem f18r4 (k : Nat) (a0 : T_api_Base) (a1 : Int) (a2 : (List (List T_api_Term))) (a3 : Str) (o2 : Int) : RE k f18a4 f18o4 false ⟨[(1, (I a1)), (2, (V.sl 0 1 (List.map sTerm a2))), (3, (Sr a3)), (4, (Pt 4)), (10, (I o2)), (21, (Bo false))], [(4, vS 4 (eBase a0))], 76⟩ = (((ref11_Fits k a0 a1 a3).bind fun v3 => (some (v3.1)))).map (fun (o : Bool) => (⟨[(1, (I a1)), (2, (V.sl 0 1 (List.map sTerm a2))), (3, (Sr a3)), (4, (Pt 4)), (11, (Bo o))], [(4, vS 4 (eBase a0))], 76⟩ : St)) := by
  refine rg ?_
  refine ra 3 3 ⟨[(1, (I a1)), (2, (V.sl 0 1 (List.map sTerm a2))), (3, (Sr a3)), (4, (Pt 4)), (10, (I o2)), (21, (Bo false)), (24, (eBase a0)), (25, (I a1)), (26, (Sr a3))], [(4, vS 4 (eBase a0))], 76⟩ rfl rfl rfl ?_
  refine et (reg_pure (x := (ref11_Fits k a0 a1 a3)) (w := fun v3 => (V.tup [(Bo v3.1), (I v3.2)])) rfl rfl rfl rfl (p_call rfl rfl rfl rfl rfl (ref11_Fits_ok k a0 a1 a3) (.inl rfl))) ?_
  refine bindE (fun v3 => ?_)
  exact bind_end rfl
theorem f18r5 (k : Nat) (a0 : T_api_Base) (a1 : Int) (a2 : (List (List T_api_Term))) (a3 : Str) (o4 : Bool) : RE k f18a5 f18o5 false ⟨[(1, (I a1)), (2, (V.sl 0 1 (List.map sTerm a2))), (3, (Sr a3)), (4, (Pt 4)), (11, (Bo o4))], [(4, vS 4 (eBase a0))], 76⟩ = some ⟨[(1, (I a1)), (2, (V.sl 0 1 (List.map sTerm a2))), (3, (Sr a3)), (4, (Pt 4)), (30, (Bo (!o4)))], [(4, vS 4 (eBase a0))], 76⟩ :=
  rE rfl
theorem f18r6 (k : Nat) (a0 : T_api_Base) (a1 : Int) (a2 : (List (List T_api_Term))) (a3 : Str) : RE k f18a6 f18o6 false ⟨[(1, (I a1)), (2, (V.sl 0 1 (List.map sTerm a2))), (3, (Sr a3)), (4, (Pt 4)), (30, (Bo true))], [(4, vS 4 (eBase a0))], 76⟩ = some ⟨[(8, (Bo false)), (9, (I 2))], [], 76⟩ :=
  rE rfl
theorem f18r7 (k : Nat) (a0 : T_api_Base) (a1 : Int) (a2 : (List (List T_api_Term))) (a3 : Str) : RE k f18a7 f18o7 false ⟨[(1, (I a1)), (2, (V.sl 0 1 (List.map sTerm a2))), (3, (Sr a3)), (4, (Pt 4)), (30, (Bo false))], [(4, vS 4 (eBase a0))], 76⟩ = (((ref12_isCondition k a0 a1 a2).bind fun v5 => (some ((!v5))))).map (fun (o : Bool) => (⟨[(1, (I a1)), (2, (V.sl 0 1 (List.map sTerm a2))), (3, (Sr a3)), (4, (Pt 4)), (33, (Bo o))], [(4, vS 4 (eBase a0))], 76⟩ : St)) := by
  refine rg ?_
  refine ra 3 3 ⟨[(1, (I a1)), (2, (V.sl 0 1 (List.map sTerm a2))), (3, (Sr a3)), (4, (Pt 4)), (30, (Bo false)), (34, (eBase a0)), (35, (I a1)), (36, (V.sl 0 1 (List.map sTerm a2)))], [(4, vS 4 (eBase a0))], 76⟩ rfl rfl rfl ?_
  refine et (reg_pure (x := (ref12_isCondition k a0 a1 a2)) (w := fun v5 => (Bo v5)) rfl rfl rfl rfl (p_call rfl rfl rfl rfl rfl (ref12_isCondition_ok k a0 a1 a2) (.inl rfl))) ?_
  refine bindE (fun v5 => ?_)
  exact bind_end rfl
theorem f18r8 (k : Nat) (a0 : T_api_Base) (a1 : Int) (a2 : (List (List T_api_Term))) (a3 : Str) : RE k f18a8 f18o8 false ⟨[(1, (I a1)), (2, (V.sl 0 1 (List.map sTerm a2))), (3, (Sr a3)), (4, (Pt 4)), (33, (Bo true))], [(4, vS 4 (eBase a0))], 76⟩ = some ⟨[(8, (Bo false)), (9, (I 110))], [], 76⟩ :=
  rE rfl
theorem f18r9 (k : Nat) (a0 : T_api_Base) (a1 : Int) (a2 : (List (List T_api_Term))) (a3 : Str) : RE k f18a9 f18o9 false ⟨[(1, (I a1)), (2, (V.sl 0 1 (List.map sTerm a2))), (3, (Sr a3)), (4, (Pt 4)), (33, (Bo false))], [(4, vS 4 (eBase a0))], 76⟩ = some ⟨[(1, (I a1)), (2, (V.sl 0 1 (List.map sTerm a2))), (3, (Sr a3)), (4, (Pt 4)), (13, (Bo ((a2.length : Int) == 0)))], [(4, vS 4 (eBase a0))], 76⟩ := by
  refine rg ?_
  refine ra 1 1 ⟨[(1, (I a1)), (2, (V.sl 0 1 (List.map sTerm a2))), (3, (Sr a3)), (4, (Pt 4)), (33, (Bo false)), (39, (V.sl 0 1 (List.map sTerm a2)))], [(4, vS 4 (eBase a0))], 76⟩ rfl rfl rfl ?_
  refine et (reg_pure (x := some ()) (w := fun _ => (I (a2.length : Int))) rfl rfl rfl rfl (p_len (e := sTerm) rfl rfl rfl rfl rfl rfl underlying26)) ?_
  refine et some_bind ?_
  exact bind_end rfl
theorem f18r10 (k : Nat) (a0 : T_api_Base) (a1 : Int) (a2 : (List (List T_api_Term))) (a3 : Str) : RE k f18a10 f18o10 false ⟨[(1, (I a1)), (2, (V.sl 0 1 (List.map sTerm a2))), (3, (Sr a3)), (4, (Pt 4)), (13, (Bo ((a2.length : Int) == 0)))], [(4, vS 4 (eBase a0))], 76⟩ = some ⟨[(1, (I a1)), (2, (V.sl 0 1 (List.map sTerm a2))), (3, (Sr a3)), (4, (Pt 4)), (13, (Bo ((a2.length : Int) == 0))), (14, (I 0))], [(4, vS 4 (eBase a0))], 76⟩ :=
  rE rfl
theorem f18r11 (k : Nat) (a0 : T_api_Base) (a1 : Int) (a2 : (List (List T_api_Term))) (a3 : Str) (x24 : Bool) (x25 : Int) : RE k f18a11 f18o11 false ⟨[(1, (I a1)), (2, (V.sl 0 1 (List.map sTerm a2))), (3, (Sr a3)), (4, (Pt 4)), (13, (Bo x24)), (14, (I x25))], [(4, vS 4 (eBase a0))], 76⟩ = some ⟨[(1, (I a1)), (2, (V.sl 0 1 (List.map sTerm a2))), (3, (Sr a3)), (4, (Pt 4)), (13, (Bo x24)), (14, (I x25)), (45, (Bo (decide (x25 < (a2.length : Int)))))], [(4, vS 4 (eBase a0))], 76⟩ := by
  refine rg ?_
  refine ra 2 2 ⟨[(1, (I a1)), (2, (V.sl 0 1 (List.map sTerm a2))), (3, (Sr a3)), (4, (Pt 4)), (13, (Bo x24)), (14, (I x25)), (42, (I x25)), (43, (V.sl 0 1 (List.map sTerm a2)))], [(4, vS 4 (eBase a0))], 76⟩ rfl rfl rfl ?_
  refine et (reg_pure (x := some ()) (w := fun _ => (I (a2.length : Int))) rfl rfl rfl rfl (p_len (e := sTerm) rfl rfl rfl rfl rfl rfl underlying26)) ?_
  refine et some_bind ?_
  exact bind_end rfl
theorem f18r13 (k : Nat) (a0 : T_api_Base) (a1 : Int) (a2 : (List (List T_api_Term))) (a3 : Str) (x24 : Bool) (x25 : Int) : RE k f18a13 f18o13 false ⟨[(1, (I a1)), (2, (V.sl 0 1 (List.map sTerm a2))), (3, (Sr a3)), (4, (Pt 4)), (13, (Bo x24)), (14, (I x25)), (45, (Bo true))], [(4, vS 4 (eBase a0))], 76⟩ = some ⟨[(1, (I a1)), (2, (V.sl 0 1 (List.map sTerm a2))), (3, (Sr a3)), (4, (Pt 4)), (13, (Bo x24)), (14, (I x25)), (15, (Bo true))], [(4, vS 4 (eBase a0))], 76⟩ :=
  rE rfl
theorem f18r14 (k : Nat) (a0 : T_api_Base) (a1 : Int) (a2 : (List (List T_api_Term))) (a3 : Str) (x24 : Bool) (x25 : Int) : RE k f18a14 f18o14 false ⟨[(1, (I a1)), (2, (V.sl 0 1 (List.map sTerm a2))), (3, (Sr a3)), (4, (Pt 4)), (13, (Bo x24)), (14, (I x25)), (15, (Bo true))], [(4, vS 4 (eBase a0))], 76⟩ = some ⟨[(1, (I a1)), (2, (V.sl 0 1 (List.map sTerm a2))), (3, (Sr a3)), (4, (Pt 4)), (13, (Bo x24)), (14, (I x25)), (15, (Bo true)), (16, (I 0))], [(4, vS 4 (eBase a0))], 76⟩ :=
  rE rfl
theorem f18r15 (k : Nat) (a0 : T_api_Base) (a1 : Int) (a2 : (List (List T_api_Term))) (a3 : Str) (x24 : Bool) (x25 : Int) (x32 : Bool) (x33 : Int) : RE k f18a15 f18o15 false ⟨[(1, (I a1)), (2, (V.sl 0 1 (List.map sTerm a2))), (3, (Sr a3)), (4, (Pt 4)), (13, (Bo x24)), (14, (I x25)), (15, (Bo x32)), (16, (I x33))], [(4, vS 4 (eBase a0))], 76⟩ = (((idx a2 x25).bind fun v34 => (some ((decide (x33 < (v34.length : Int))))))).map (fun (o : Bool) => (⟨[(1, (I a1)), (2, (V.sl 0 1 (List.map sTerm a2))), (3, (Sr a3)), (4, (Pt 4)), (13, (Bo x24)), (14, (I x25)), (15, (Bo x32)), (16, (I x33)), (54, (Bo o))], [(4, vS 4 (eBase a0))], 76⟩ : St)) := by
  refine rg ?_
  refine ra 3 3 ⟨[(1, (I a1)), (2, (V.sl 0 1 (List.map sTerm a2))), (3, (Sr a3)), (4, (Pt 4)), (13, (Bo x24)), (14, (I x25)), (15, (Bo x32)), (16, (I x33)), (48, (I x33)), (49, (V.sl 0 1 (List.map sTerm a2))), (50, (I x25))], [(4, vS 4 (eBase a0))], 76⟩ rfl rfl rfl ?_
  refine et (reg_pure (x := (idx a2 x25)) (w := fun v34 => (Pr (sTerm v34))) rfl rfl rfl rfl (p_index (e := sTerm) rfl rfl rfl underlying26 rfl (by decide))) ?_
  refine bindE (fun v34 => ?_)
  refine ba 1 5 ⟨[(1, (I a1)), (2, (V.sl 0 1 (List.map sTerm a2))), (3, (Sr a3)), (4, (Pt 4)), (13, (Bo x24)), (14, (I x25)), (15, (Bo x32)), (16, (I x33)), (48, (I x33)), (49, (V.sl 0 1 (List.map sTerm a2))), (50, (I x25)), (51, (Pr (sTerm v34))), (52, (sTerm v34))], [(4, vS 4 (eBase a0))], 76⟩ rfl rfl rfl ?_
  refine et (reg_pure (x := some ()) (w := fun _ => (I (v34.length : Int))) rfl rfl rfl rfl (p_len (e := eTerm) rfl rfl rfl rfl rfl rfl underlying50)) ?_
  refine et some_bind ?_
  exact bind_end rfl
theorem f18r17 (k : Nat) (a0 : T_api_Base) (a1 : Int) (a2 : (List (List T_api_Term))) (a3 : Str) (x24 : Bool) (x25 : Int) (x32 : Bool) (x33 : Int) : RE k f18a17 f18o17 true ⟨[(1, (I a1)), (2, (V.sl 0 1 (List.map sTerm a2))), (3, (Sr a3)), (4, (Pt 4)), (13, (Bo x24)), (14, (I x25)), (15, (Bo x32)), (16, (I x33)), (54, (Bo true))], [(4, vS 4 (eBase a0))], 76⟩ = ((bif x32 then ((idx a2 x25).bind fun v36 => ((idx v36 x33).bind fun v37 => (ref12_holds k a0 a1 v37 a3))) else (some (false)))).map (fun (o : Bool) => (⟨[(1, (I a1)), (2, (V.sl 0 1 (List.map sTerm a2))), (3, (Sr a3)), (4, (Pt 4)), (13, (Bo x24)), (14, (I x25)), (15, (Bo o)), (16, (I x33))], [(4, vS 4 (eBase a0))], 76⟩ : St)) := by
  refine et (regionE_regp (p := 14) (dk := true) (t := [(1, (I a1)), (2, (V.sl 0 1 (List.map sTerm a2))), (3, (Sr a3)), (4, (Pt 4)), (13, (Bo x24)), (14, (I x25)), (15, (Bo x32)), (16, (I x33)), (54, (Bo true))]) (σ := [(4, vS 4 (eBase a0))]) (n := 76) rfl (by decide) (by decide) rfl) ?_
  refine et (regp_adv (m := 2) (j := 2) (t' := [(1, (I a1)), (2, (V.sl 0 1 (List.map sTerm a2))), (3, (Sr a3)), (4, (Pt 4)), (13, (Bo x24)), (14, (I x25)), (15, (Bo x32)), (16, (I x33)), (54, (Bo true)), (57, (Bo x32)), (58, (Bo x32))]) rfl rfl rfl) ?_
  refine bifE (c := x32) (fun hc => ?_) fun hc => ?_
  · rw [hc]
    refine et (regp_adv (m := 4) (j := 6) (t' := [(1, (I a1)), (2, (V.sl 0 1 (List.map sTerm a2))), (3, (Sr a3)), (4, (Pt 4)), (13, (Bo x24)), (14, (I x25)), (15, (Bo true)), (16, (I x33)), (54, (Bo true)), (57, (Bo true)), (58, (Bo true)), (59, (eBase a0)), (60, (I a1)), (61, (V.sl 0 1 (List.map sTerm a2))), (62, (I x25))]) rfl rfl rfl) ?_
    refine et (regp_pure (x := (idx a2 x25)) (w := fun v36 => (Pr (sTerm v36))) rfl rfl rfl rfl rfl (p_index (e := sTerm) rfl rfl rfl underlying26 rfl (by decide))) ?_
    refine bindE (fun v36 => ?_)
    refine et (putp_adv (m := 2) (j := 9) (t' := [(1, (I a1)), (2, (V.sl 0 1 (List.map sTerm a2))), (3, (Sr a3)), (4, (Pt 4)), (13, (Bo x24)), (14, (I x25)), (15, (Bo true)), (16, (I x33)), (54, (Bo true)), (57, (Bo true)), (58, (Bo true)), (59, (eBase a0)), (60, (I a1)), (61, (V.sl 0 1 (List.map sTerm a2))), (62, (I x25)), (63, (Pr (sTerm v36))), (64, (sTerm v36)), (65, (I x33))]) rfl rfl rfl) ?_
    refine et (regp_pure (x := (idx v36 x33)) (w := fun v37 => (Pr (eTerm v37))) rfl rfl rfl rfl rfl (p_index (e := eTerm) rfl rfl rfl underlying50 rfl (by decide))) ?_
    refine bindE (fun v37 => ?_)
    refine et (putp_adv (m := 2) (j := 12) (t' := [(1, (I a1)), (2, (V.sl 0 1 (List.map sTerm a2))), (3, (Sr a3)), (4, (Pt 4)), (13, (Bo x24)), (14, (I x25)), (15, (Bo true)), (16, (I x33)), (54, (Bo true)), (57, (Bo true)), (58, (Bo true)), (59, (eBase a0)), (60, (I a1)), (61, (V.sl 0 1 (List.map sTerm a2))), (62, (I x25)), (63, (Pr (sTerm v36))), (64, (sTerm v36)), (65, (I x33)), (66, (Pr (eTerm v37))), (67, (eTerm v37)), (68, (Sr a3))]) rfl rfl rfl) ?_
    refine et (regp_pure (x := (ref12_holds k a0 a1 v37 a3)) (w := fun v38 => (Bo v38)) rfl rfl rfl rfl rfl (p_call rfl rfl rfl rfl rfl (ref12_holds_ok k a0 a1 v37 a3) (.inl rfl))) ?_
    refine bind_self (fun v38 => ?_)
    exact regp_end rfl
  · rw [hc]
    exact regp_end rfl
theorem f18r16 (k : Nat) (a0 : T_api_Base) (a1 : Int) (a2 : (List (List T_api_Term))) (a3 : Str) (x24 : Bool) (x25 : Int) (x33 : Int) (o39 : Bool) : RE k f18a16 f18o16 false ⟨[(1, (I a1)), (2, (V.sl 0 1 (List.map sTerm a2))), (3, (Sr a3)), (4, (Pt 4)), (13, (Bo x24)), (14, (I x25)), (15, (Bo o39)), (16, (I x33))], [(4, vS 4 (eBase a0))], 76⟩ = some ⟨[(1, (I a1)), (2, (V.sl 0 1 (List.map sTerm a2))), (3, (Sr a3)), (4, (Pt 4)), (13, (Bo x24)), (14, (I x25)), (15, (Bo o39)), (16, (I (Go.IntKind.wrap .i64 (x33 + 1))))], [(4, vS 4 (eBase a0))], 76⟩ :=
  rE rfl
theorem ref12_Holds_L2_ok (k : Nat) (a0 : T_api_Base) (a1 : Int) (a2 : (List (List T_api_Term))) (a3 : Str) (x24 : Bool) (x25 : Int)  (K0 : Bool → Int → Option (Bool × Int)) (Kst : X × St → Option (V × List V)) (hK0 : ∀ (y0 : Bool) (y1 : Int), Kst (X.exit 3, ⟨[(1, (I a1)), (2, (V.sl 0 1 (List.map sTerm a2))), (3, (Sr a3)), (4, (Pt 4)), (13, (Bo x24)), (14, (I x25)), (15, (Bo y0)), (16, (I y1)), (54, (Bo false))], [(4, vS 4 (eBase a0))], 76⟩) = (K0 y0 y1).map ref12_Holds_fin) (hret : ∀ s, Kst (X.ret, s) = endK prog 76 [(eBase a0), (I a1), (V.sl 0 1 (List.map sTerm a2)), (Sr a3)] [] [.tmp 8, .tmp 9] (X.ret, s)) :
    ∀ (m : Nat) (x32 : Bool) (x33 : Int), (iter (exec prog (EV k) f18n k f18b0) m ⟨[(1, (I a1)), (2, (V.sl 0 1 (List.map sTerm a2))), (3, (Sr a3)), (4, (Pt 4)), (13, (Bo x24)), (14, (I x25)), (15, (Bo x32)), (16, (I x33))], [(4, vS 4 (eBase a0))], 76⟩).bind Kst = (ref12_Holds_L2 k a0 a1 a2 a3 x25 K0 m x32 x33).map ref12_Holds_fin := by
  intro m
  induction m with
  | zero => intros; rfl
  | succ m ih =>
    intro x32 x33
    unfold ref12_Holds_L2
    refine et k_round ?_
    refine et k_assoc ?_
    refine et (k_region rfl (f18r15 k a0 a1 a2 a3 x24 x25 x32 x33)) ?_
    refine bindE (fun o35 => ?_)
    refine et (k_cond (t := o35) rfl rfl) ?_
    refine bifE2 (fun hc => ?_) fun hc => ?_
    · rw [hc]
      refine et k_skip ?_
      refine et (k_block rfl) ?_
      refine et (k_lregion rfl (f18r17 k a0 a1 a2 a3 x24 x25 x32 x33)) ?_
      refine bindE (fun o39 => ?_)
      refine et blk_normal ?_
      refine et (k_lregion0 rfl (f18r16 k a0 a1 a2 a3 x24 x25 x33 o39)) ?_
      refine et loop_normal ?_
      exact ih o39 (Go.IntKind.wrap .i64 (x33 + 1))
    · rw [hc]
      refine et k_exit ?_
      refine et loop_exit ?_
      exact hK0 x32 x33
theorem f18r18 (k : Nat) (a0 : T_api_Base) (a1 : Int) (a2 : (List (List T_api_Term))) (a3 : Str) (x24 : Bool) (x25 : Int) (y40 : Bool) (y41 : Int) : RE k f18a18 f18o18 false ⟨[(1, (I a1)), (2, (V.sl 0 1 (List.map sTerm a2))), (3, (Sr a3)), (4, (Pt 4)), (13, (Bo x24)), (14, (I x25)), (15, (Bo y40)), (16, (I y41)), (54, (Bo false))], [(4, vS 4 (eBase a0))], 76⟩ = ((bif x24 then (some (true)) else (some (y40)))).map (fun (o : Bool) => (⟨[(1, (I a1)), (2, (V.sl 0 1 (List.map sTerm a2))), (3, (Sr a3)), (4, (Pt 4)), (13, (Bo o)), (14, (I x25))], [(4, vS 4 (eBase a0))], 76⟩ : St)) := by
  refine rg ?_
  refine ra 2 2 ⟨[(1, (I a1)), (2, (V.sl 0 1 (List.map sTerm a2))), (3, (Sr a3)), (4, (Pt 4)), (13, (Bo x24)), (14, (I x25)), (15, (Bo y40)), (16, (I y41)), (54, (Bo false)), (71, (Bo x24)), (72, (Bo x24))], [(4, vS 4 (eBase a0))], 76⟩ rfl rfl rfl ?_
  refine bifE (c := x24) (fun hc => ?_) fun hc => ?_
  · rw [hc]
    exact reg_end rfl
  · rw [hc]
    exact reg_end rfl
theorem f18r12 (k : Nat) (a0 : T_api_Base) (a1 : Int) (a2 : (List (List T_api_Term))) (a3 : Str) (x25 : Int) (o42 : Bool) : RE k f18a12 f18o12 false ⟨[(1, (I a1)), (2, (V.sl 0 1 (List.map sTerm a2))), (3, (Sr a3)), (4, (Pt 4)), (13, (Bo o42)), (14, (I x25))], [(4, vS 4 (eBase a0))], 76⟩ = some ⟨[(1, (I a1)), (2, (V.sl 0 1 (List.map sTerm a2))), (3, (Sr a3)), (4, (Pt 4)), (13, (Bo o42)), (14, (I (Go.IntKind.wrap .i64 (x25 + 1))))], [(4, vS 4 (eBase a0))], 76⟩ :=
  rE rfl
theorem ref12_Holds_L1_ok (k : Nat) (a0 : T_api_Base) (a1 : Int) (a2 : (List (List T_api_Term))) (a3 : Str)  (K0 : Bool → Int → Option (Bool × Int)) (Kst : X × St → Option (V × List V)) (hK0 : ∀ (y0 : Bool) (y1 : Int), Kst (X.exit 1, ⟨[(1, (I a1)), (2, (V.sl 0 1 (List.map sTerm a2))), (3, (Sr a3)), (4, (Pt 4)), (13, (Bo y0)), (14, (I y1)), (45, (Bo false))], [(4, vS 4 (eBase a0))], 76⟩) = (K0 y0 y1).map ref12_Holds_fin) (hret : ∀ s, Kst (X.ret, s) = endK prog 76 [(eBase a0), (I a1), (V.sl 0 1 (List.map sTerm a2)), (Sr a3)] [] [.tmp 8, .tmp 9] (X.ret, s)) :
    ∀ (m : Nat) (x24 : Bool) (x25 : Int), (iter (exec prog (EV k) f18n k f18b1) m ⟨[(1, (I a1)), (2, (V.sl 0 1 (List.map sTerm a2))), (3, (Sr a3)), (4, (Pt 4)), (13, (Bo x24)), (14, (I x25))], [(4, vS 4 (eBase a0))], 76⟩).bind Kst = (ref12_Holds_L1 k a0 a1 a2 a3 K0 m x24 x25).map ref12_Holds_fin := by
  intro m
  induction m with
  | zero => intros; rfl
  | succ m ih =>
    intro x24 x25
    unfold ref12_Holds_L1
    refine et k_round ?_
    refine et k_assoc ?_
    refine et (k_region0 rfl (f18r11 k a0 a1 a2 a3 x24 x25)) ?_
    refine et (k_cond (t := (decide (x25 < (a2.length : Int)))) rfl rfl) ?_
    refine bifE2 (fun hc => ?_) fun hc => ?_
    · rw [hc]
      refine et k_skip ?_
      refine et (k_block rfl) ?_
      refine et (k_region0 rfl (f18r13 k a0 a1 a2 a3 x24 x25)) ?_
      refine et k_assoc ?_
      refine et (k_region0 rfl (f18r14 k a0 a1 a2 a3 x24 x25)) ?_
      refine et (k_block rfl) ?_
      refine et k_loop ?_
      refine ref12_Holds_L2_ok k a0 a1 a2 a3 x24 x25 _ _ ?h_ref12_Holds_L2_0 ?hr_ref12_Holds_L2 k true 0
      · intro y40 y41
        refine et blk_exit ?_
        refine et (k_lregion rfl (f18r18 k a0 a1 a2 a3 x24 x25 y40 y41)) ?_
        refine bindE (fun o42 => ?_)
        refine et blk_normal ?_
        refine et (k_lregion0 rfl (f18r12 k a0 a1 a2 a3 x25 o42)) ?_
        refine et loop_normal ?_
        exact ih o42 (Go.IntKind.wrap .i64 (x25 + 1))
      · intro s; exact hret s
    · rw [hc]
      refine et k_exit ?_
      refine et loop_exit ?_
      exact hK0 x24 x25
theorem f18r19 (k : Nat) (a0 : T_api_Base) (a1 : Int) (a2 : (List (List T_api_Term))) (a3 : Str) (y43 : Bool) (y44 : Int) : RE k f18a19 f18o19 false ⟨[(1, (I a1)), (2, (V.sl 0 1 (List.map sTerm a2))), (3, (Sr a3)), (4, (Pt 4)), (13, (Bo y43)), (14, (I y44)), (45, (Bo false))], [(4, vS 4 (eBase a0))], 76⟩ = some ⟨[(8, (Bo y43)), (9, (I 0))], [], 76⟩ :=
  rE rfl
theorem ref12_Holds_ok (k : Nat) (a0 : T_api_Base) (a1 : Int) (a2 : (List (List T_api_Term))) (a3 : Str) : EV k 18 [(eBase a0), (I a1), (V.sl 0 1 (List.map sTerm a2)), (Sr a3)] = (ref12_Holds k a0 a1 a2 a3).map ref12_Holds_fin := by
  cases k with
  | zero => rfl
  | succ k =>
    unfold ref12_Holds
    refine et (evF_succ (c := f18c) (N := 76) (regs := f18n) rfl func18 rfl (by decide) rfl rfl rfl) ?_
    refine et (k_region0 rfl (f18r0 k a0 a1 a2 a3)) ?_
    refine et k_assoc ?_
    refine et (k_region rfl (f18r1 k a0 a1 a2 a3)) ?_
    refine bindE (fun o2 => ?_)
    refine et k_assoc ?_
    refine et (k_region0 rfl (f18r2 k a0 a1 a2 a3 o2)) ?_
    refine et (k_cond (t := (o2 != 0)) rfl rfl) ?_
    refine bifE2 (fun hc => ?_) fun hc => ?_
    · rw [hc]
      refine et k_assoc ?_
      refine et (k_region0 rfl (f18r3 k a0 a1 a2 a3 o2)) ?_
      refine et k_ret ?_
      rfl
    · rw [hc]
      refine et k_skip ?_
      refine et (k_region rfl (f18r4 k a0 a1 a2 a3 o2)) ?_
      refine bindE (fun o4 => ?_)
      refine et (k_block rfl) ?_
      refine et (k_region0 rfl (f18r5 k a0 a1 a2 a3 o4)) ?_
      refine et (k_lcond (t := (!o4)) rfl rfl) ?_
      refine bifE2 (fun hc => ?_) fun hc => ?_
      · rw [hc]
        refine et (k_region0 rfl (f18r6 k a0 a1 a2 a3)) ?_
        refine et k_lret ?_
        refine et blk_ret ?_
        rfl
      · rw [hc]
        refine et (k_region rfl (f18r7 k a0 a1 a2 a3)) ?_
        refine bindE (fun o6 => ?_)
        refine et (k_lcond (t := o6) rfl rfl) ?_
        refine bifE2 (fun hc => ?_) fun hc => ?_
        · rw [hc]
          refine et (k_region0 rfl (f18r8 k a0 a1 a2 a3)) ?_
          refine et k_lret ?_
          refine et blk_ret ?_
          rfl
        · rw [hc]
          refine et k_lskip ?_
          refine et blk_normal ?_
          refine et (k_region0 rfl (f18r9 k a0 a1 a2 a3)) ?_
          refine et k_assoc ?_
          refine et (k_region0 rfl (f18r10 k a0 a1 a2 a3)) ?_
          refine et (k_block rfl) ?_
          refine et k_loop ?_
          refine ref12_Holds_L1_ok k a0 a1 a2 a3 _ _ ?h_ref12_Holds_L1_0 ?hr_ref12_Holds_L1 k ((a2.length : Int) == 0) 0
          · intro y43 y44
            refine et blk_exit ?_
            refine et (k_region0 rfl (f18r19 k a0 a1 a2 a3 y43 y44)) ?_
            refine et k_lret ?_
            rfl
          · intro s; exact rfl
def law12_MatchHolds_fin : Bool → V × List V := fun r => ((Bo r), [])
theorem f4r0 (k : Nat) (a0 : T_progenylaw12_Case) (a1 : Str) : RE k f4a0 f4o0 false ⟨[(0, (eCase a0)), (1, (Sr a1))], [], 84⟩ = some ⟨[(1, (Sr a1)), (2, (Pt 2))], [(2, vS 6 (eCase a0))], 84⟩ :=
  rE rfl
theorem f4r1 (k : Nat) (a0 : T_progenylaw12_Case) (a1 : Str) : RE k f4a1 f4o1 false ⟨[(1, (Sr a1)), (2, (Pt 2))], [(2, vS 6 (eCase a0))], 84⟩ = (((law12_Large k a0.fBase).bind fun v1 => (bif v1 then (some (true)) else ((law12_Long k a0.fWhen).bind fun v2 => (bif v2 then (some (true)) else (some ((decide ((a1.length : Int) > 200))))))))).map (fun (o : Bool) => (⟨[(1, (Sr a1)), (2, (Pt 2)), (21, (Bo o))], [(2, vS 6 (eCase a0))], 84⟩ : St)) := by
  refine rg ?_
  refine ra 2 2 ⟨[(1, (Sr a1)), (2, (Pt 2)), (9, (Pt 2)), (10, (eBase a0.fBase))], [(2, vS 6 (eCase a0))], 84⟩ rfl rfl rfl ?_
  refine et (reg_pure (x := (law12_Large k a0.fBase)) (w := fun v1 => (Bo v1)) rfl rfl rfl rfl (p_call rfl rfl rfl rfl rfl (law12_Large_ok k a0.fBase) (.inl rfl))) ?_
  refine bindE (fun v1 => ?_)
  refine ba 1 4 ⟨[(1, (Sr a1)), (2, (Pt 2)), (9, (Pt 2)), (10, (eBase a0.fBase)), (11, (Bo v1)), (12, (Bo v1))], [(2, vS 6 (eCase a0))], 84⟩ rfl rfl rfl ?_
  refine bifE (c := v1) (fun hc => ?_) fun hc => ?_
  · rw [hc]
    exact reg_end rfl
  · rw [hc]
    refine ra 2 6 ⟨[(1, (Sr a1)), (2, (Pt 2)), (9, (Pt 2)), (10, (eBase a0.fBase)), (11, (Bo false)), (12, (Bo false)), (13, (V.ptr 2 0 5)), (14, (V.sl 0 1 (List.map sTerm a0.fWhen)))], [(2, vS 6 (eCase a0))], 84⟩ rfl rfl rfl ?_
    refine et (reg_pure (x := (law12_Long k a0.fWhen)) (w := fun v2 => (Bo v2)) rfl rfl rfl rfl (p_call rfl rfl rfl rfl rfl (law12_Long_ok k a0.fWhen) (.inl rfl))) ?_
    refine bindE (fun v2 => ?_)
    refine ba 2 9 ⟨[(1, (Sr a1)), (2, (Pt 2)), (9, (Pt 2)), (10, (eBase a0.fBase)), (11, (Bo false)), (12, (Bo false)), (13, (V.ptr 2 0 5)), (14, (V.sl 0 1 (List.map sTerm a0.fWhen))), (15, (Bo v2)), (16, (Bo v2)), (17, (Bo v2))], [(2, vS 6 (eCase a0))], 84⟩ rfl rfl rfl ?_
    refine bifE (c := v2) (fun hc => ?_) fun hc => ?_
    · rw [hc]
      exact reg_end rfl
    · rw [hc]
      exact reg_end rfl
theorem f4r2 (k : Nat) (a0 : T_progenylaw12_Case) (a1 : Str) : RE k f4a2 f4o2 false ⟨[(1, (Sr a1)), (2, (Pt 2)), (21, (Bo true))], [(2, vS 6 (eCase a0))], 84⟩ = ((law12_Awake k)).map (fun (o : Bool) => (⟨[(4, (Bo o))], [], 84⟩ : St)) := by
  refine rg ?_
  refine et (reg_pure (x := (law12_Awake k)) (w := fun v4 => (Bo v4)) rfl rfl rfl rfl (p_call rfl rfl rfl rfl rfl (law12_Awake_ok k) (.inl rfl))) ?_
  refine bind_self (fun v4 => ?_)
  exact bind_end rfl
theorem f4r3 (k : Nat) (a0 : T_progenylaw12_Case) (a1 : Str) : RE k f4a3 f4o3 false ⟨[(1, (Sr a1)), (2, (Pt 2)), (21, (Bo false))], [(2, vS 6 (eCase a0))], 84⟩ = (((match_Valid k a0.fBase a0.fType a0.fWhen).bind fun v6 => (some (v6.1, v6.2)))).map (fun (o : Bool × Int) => (⟨[(1, (Sr a1)), (2, (Pt 2)), (5, (Bo o.1)), (6, (I o.2))], [(2, vS 6 (eCase a0))], 84⟩ : St)) := by
  refine rg ?_
  refine ra 6 6 ⟨[(1, (Sr a1)), (2, (Pt 2)), (21, (Bo false)), (24, (Pt 2)), (25, (eBase a0.fBase)), (26, (V.ptr 2 0 4)), (27, (I a0.fType)), (28, (V.ptr 2 0 5)), (29, (V.sl 0 1 (List.map sTerm a0.fWhen)))], [(2, vS 6 (eCase a0))], 84⟩ rfl rfl rfl ?_
  refine et (reg_pure (x := (match_Valid k a0.fBase a0.fType a0.fWhen)) (w := fun v6 => (V.tup [(Bo v6.1), (I v6.2)])) rfl rfl rfl rfl (p_call rfl rfl rfl rfl rfl (match_Valid_ok k a0.fBase a0.fType a0.fWhen) (.inl rfl))) ?_
  refine bindE (fun v6 => ?_)
  exact bind_end rfl
theorem f4r4 (k : Nat) (a0 : T_progenylaw12_Case) (a1 : Str) (o7 : Bool × Int) : RE k f4a4 f4o4 false ⟨[(1, (Sr a1)), (2, (Pt 2)), (5, (Bo o7.1)), (6, (I o7.2))], [(2, vS 6 (eCase a0))], 84⟩ = (((ref12_Valid k a0.fBase a0.fType a0.fWhen).bind fun v8 => (some (v8.1, v8.2)))).map (fun (o : Bool × Int) => (⟨[(1, (Sr a1)), (2, (Pt 2)), (5, (Bo o7.1)), (6, (I o7.2)), (7, (Bo o.1)), (8, (I o.2))], [(2, vS 6 (eCase a0))], 84⟩ : St)) := by
  refine rg ?_
  refine ra 6 6 ⟨[(1, (Sr a1)), (2, (Pt 2)), (5, (Bo o7.1)), (6, (I o7.2)), (34, (Pt 2)), (35, (eBase a0.fBase)), (36, (V.ptr 2 0 4)), (37, (I a0.fType)), (38, (V.ptr 2 0 5)), (39, (V.sl 0 1 (List.map sTerm a0.fWhen)))], [(2, vS 6 (eCase a0))], 84⟩ rfl rfl rfl ?_
  refine et (reg_pure (x := (ref12_Valid k a0.fBase a0.fType a0.fWhen)) (w := fun v8 => (V.tup [(Bo v8.1), (I v8.2)])) rfl rfl rfl rfl (p_call rfl rfl rfl rfl rfl (ref12_Valid_ok k a0.fBase a0.fType a0.fWhen) (.inl rfl))) ?_
  refine bindE (fun v8 => ?_)
  exact bind_end rfl
theorem f4r5 (k : Nat) (a0 : T_progenylaw12_Case) (a1 : Str) (o7 : Bool × Int) (o9 : Bool × Int) : RE k f4a5 f4o5 false ⟨[(1, (Sr a1)), (2, (Pt 2)), (5, (Bo o7.1)), (6, (I o7.2)), (7, (Bo o9.1)), (8, (I o9.2))], [(2, vS 6 (eCase a0))], 84⟩ = ((bif (!(o7.1 == o9.1)) then (some (true)) else (some ((o7.2 != o9.2))))).map (fun (o : Bool) => (⟨[(1, (Sr a1)), (2, (Pt 2)), (50, (Bo o))], [(2, vS 6 (eCase a0))], 84⟩ : St)) := by
  refine rg ?_
  refine ra 4 4 ⟨[(1, (Sr a1)), (2, (Pt 2)), (5, (Bo o7.1)), (6, (I o7.2)), (7, (Bo o9.1)), (8, (I o9.2)), (43, (Bo o7.1)), (44, (Bo o9.1)), (45, (Bo (!(o7.1 == o9.1)))), (46, (Bo (!(o7.1 == o9.1))))], [(2, vS 6 (eCase a0))], 84⟩ rfl rfl rfl ?_
  refine bifE (c := (!(o7.1 == o9.1))) (fun hc => ?_) fun hc => ?_
  · rw [hc]
    exact reg_end rfl
  · rw [hc]
    exact reg_end rfl
theorem f4r6 (k : Nat) (a0 : T_progenylaw12_Case) (a1 : Str) : RE k f4a6 f4o6 false ⟨[(1, (Sr a1)), (2, (Pt 2)), (50, (Bo true))], [(2, vS 6 (eCase a0))], 84⟩ = some ⟨[(4, (Bo false))], [], 84⟩ :=
  rE rfl
theorem f4r7 (k : Nat) (a0 : T_progenylaw12_Case) (a1 : Str) : RE k f4a7 f4o7 false ⟨[(1, (Sr a1)), (2, (Pt 2)), (50, (Bo false))], [(2, vS 6 (eCase a0))], 84⟩ = (((match_Holds k a0.fBase a0.fType a0.fWhen a1).bind fun v11 => (some (v11.1, v11.2)))).map (fun (o : Bool × Int) => (⟨[(1, (Sr a1)), (2, (Pt 2)), (5, (Bo o.1)), (6, (I o.2))], [(2, vS 6 (eCase a0))], 84⟩ : St)) := by
  refine rg ?_
  refine ra 7 7 ⟨[(1, (Sr a1)), (2, (Pt 2)), (50, (Bo false)), (52, (Pt 2)), (53, (eBase a0.fBase)), (54, (V.ptr 2 0 4)), (55, (I a0.fType)), (56, (V.ptr 2 0 5)), (57, (V.sl 0 1 (List.map sTerm a0.fWhen))), (58, (Sr a1))], [(2, vS 6 (eCase a0))], 84⟩ rfl rfl rfl ?_
  refine et (reg_pure (x := (match_Holds k a0.fBase a0.fType a0.fWhen a1)) (w := fun v11 => (V.tup [(Bo v11.1), (I v11.2)])) rfl rfl rfl rfl (p_call rfl rfl rfl rfl rfl (match_Holds_ok k a0.fBase a0.fType a0.fWhen a1) (.inl rfl))) ?_
  refine bindE (fun v11 => ?_)
  exact bind_end rfl
theorem f4r8 (k : Nat) (a0 : T_progenylaw12_Case) (a1 : Str) (o12 : Bool × Int) : RE k f4a8 f4o8 false ⟨[(1, (Sr a1)), (2, (Pt 2)), (5, (Bo o12.1)), (6, (I o12.2))], [(2, vS 6 (eCase a0))], 84⟩ = (((ref12_Holds k a0.fBase a0.fType a0.fWhen a1).bind fun v13 => (some (v13.1, v13.2)))).map (fun (o : Bool × Int) => (⟨[(5, (Bo o12.1)), (6, (I o12.2)), (7, (Bo o.1)), (8, (I o.2))], [], 84⟩ : St)) := by
  refine rg ?_
  refine ra 7 7 ⟨[(1, (Sr a1)), (2, (Pt 2)), (5, (Bo o12.1)), (6, (I o12.2)), (63, (Pt 2)), (64, (eBase a0.fBase)), (65, (V.ptr 2 0 4)), (66, (I a0.fType)), (67, (V.ptr 2 0 5)), (68, (V.sl 0 1 (List.map sTerm a0.fWhen))), (69, (Sr a1))], [(2, vS 6 (eCase a0))], 84⟩ rfl rfl rfl ?_
  refine et (reg_pure (x := (ref12_Holds k a0.fBase a0.fType a0.fWhen a1)) (w := fun v13 => (V.tup [(Bo v13.1), (I v13.2)])) rfl rfl rfl rfl (p_call rfl rfl rfl rfl rfl (ref12_Holds_ok k a0.fBase a0.fType a0.fWhen a1) (.inl rfl))) ?_
  refine bindE (fun v13 => ?_)
  exact bind_end rfl
theorem f4r9 (k : Nat) (o12 : Bool × Int) (o14 : Bool × Int) : RE k f4a9 f4o9 false ⟨[(5, (Bo o12.1)), (6, (I o12.2)), (7, (Bo o14.1)), (8, (I o14.2))], [], 84⟩ = ((bif (o12.1 == o14.1) then (bif (o12.2 == o14.2) then (law12_Awake k) else (some (false))) else (some (false)))).map (fun (o : Bool) => (⟨[(4, (Bo o))], [], 84⟩ : St)) := by
  refine rg ?_
  refine ra 4 4 ⟨[(5, (Bo o12.1)), (6, (I o12.2)), (7, (Bo o14.1)), (8, (I o14.2)), (73, (Bo o12.1)), (74, (Bo o14.1)), (75, (Bo (o12.1 == o14.1))), (76, (Bo (o12.1 == o14.1)))], [], 84⟩ rfl rfl rfl ?_
  refine bifE (c := (o12.1 == o14.1)) (fun hc => ?_) fun hc => ?_
  · rw [hc]
    refine ra 5 9 ⟨[(5, (Bo o12.1)), (6, (I o12.2)), (7, (Bo o14.1)), (8, (I o14.2)), (73, (Bo o12.1)), (74, (Bo o14.1)), (75, (Bo true)), (76, (Bo true)), (77, (I o12.2)), (78, (I o14.2)), (79, (Bo (o12.2 == o14.2))), (80, (Bo (o12.2 == o14.2))), (81, (Bo (o12.2 == o14.2)))], [], 84⟩ rfl rfl rfl ?_
    refine bifE (c := (o12.2 == o14.2)) (fun hc => ?_) fun hc => ?_
    · rw [hc]
      refine et (reg_pure (x := (law12_Awake k)) (w := fun v15 => (Bo v15)) rfl rfl rfl rfl (p_call rfl rfl rfl rfl rfl (law12_Awake_ok k) (.inl rfl))) ?_
      refine bind_self (fun v15 => ?_)
      exact bind_end rfl
    · rw [hc]
      exact reg_end rfl
  · rw [hc]
    exact reg_end rfl
theorem law12_MatchHolds_ok (k : Nat) (a0 : T_progenylaw12_Case) (a1 : Str) : EV k 4 [(eCase a0), (Sr a1)] = (law12_MatchHolds k a0 a1).map law12_MatchHolds_fin := by
  cases k with
  | zero => rfl
  | succ k =>
    unfold law12_MatchHolds
    refine et (evF_succ (c := f4c) (N := 84) (regs := f4n) rfl func4 rfl (by decide) rfl rfl rfl) ?_
    refine et (k_region0 rfl (f4r0 k a0 a1)) ?_
    refine et k_assoc ?_
    refine et (k_region rfl (f4r1 k a0 a1)) ?_
    refine bindE (fun o3 => ?_)
    refine et (k_cond (t := o3) rfl rfl) ?_
    refine bifE2 (fun hc => ?_) fun hc => ?_
    · rw [hc]
      refine et k_assoc ?_
      refine et (k_region rfl (f4r2 k a0 a1)) ?_
      refine bindE (fun o5 => ?_)
      refine et k_ret ?_
      rfl
    · rw [hc]
      refine et k_skip ?_
      refine et (k_region rfl (f4r3 k a0 a1)) ?_
      refine bindE (fun o7 => ?_)
      refine et (k_region rfl (f4r4 k a0 a1 o7)) ?_
      refine bindE (fun o9 => ?_)
      refine et k_assoc ?_
      refine et (k_region rfl (f4r5 k a0 a1 o7 o9)) ?_
      refine bindE (fun o10 => ?_)
      refine et (k_cond (t := o10) rfl rfl) ?_
      refine bifE2 (fun hc => ?_) fun hc => ?_
      · rw [hc]
        refine et k_assoc ?_
        refine et (k_region0 rfl (f4r6 k a0 a1)) ?_
        refine et k_ret ?_
        rfl
      · rw [hc]
        refine et k_skip ?_
        refine et (k_region rfl (f4r7 k a0 a1)) ?_
        refine bindE (fun o12 => ?_)
        refine et (k_region rfl (f4r8 k a0 a1 o12)) ?_
        refine bindE (fun o14 => ?_)
        refine et (k_region rfl (f4r9 k o12 o14)) ?_
        refine bindE (fun o16 => ?_)
        refine et k_lret ?_
        rfl
end
end Go.AE
